/- Part 37. -/
import Derived.Test.YtikalomcclefiaaGreatDoorV35
set_option linter.all false
set_option maxHeartbeats 0
set_option maxRecDepth 100000
namespace Go.Proofs.YtikalomcclefiaaGreatDoor
section
open Go.RowKit Lx Px
def FG.ofVar{pb:Nat}{L:List T3}{w0 w:World}{j:Nat}{B:Nat}{us:List Value}{rv ts}(S:SV pb L w0 w j ((B,us)::rv) ts){x:T}(hx:iB (Av w0 ((B,us)::rv)) w x us){w1:World}(h1:w1.heap.size<=B)(h2:∀ b,Av w0 ((B,us)::rv) b->w1.heap.size<=b):FG w1 w (.slice (some (AAF B 0)) 1 1) [x]:=by
 have hb:=S.tv (B,us) (.head _);have hl:=hx.len;refine⟨us,⟨by simp[hl],.inr ⟨B,1,us.toArray,rfl,h1,hb.1,aG _,by decide,by simp[hl],by rw[nQ];simp[hl]⟩⟩,?_⟩;refine dO.one (hx.kept (λb hb' _=>⟨h2 b hb',λe=>?_⟩) (aG _) (λ_ _ _=>rfl));simp only[Value.ownBlock,mP]at e
 exact hb'.2 (B,us) (.head _) e.symm
def SV.aGY{pb:Nat}{L:List T3}{w0 w w':World}{j:Nat}{rv}(S:SV pb L w0 w j rv []){N:Nat}(hN:w0.heap.size<=N)(hr:∀ p,p∈rv->p.1<N)(b:Below N w w'):SV pb L w0 w' j rv []:=by
 have hp:=S.hp;refine⟨S.ok.new hp (b.mono hN),S.hp,λp hp'=>⟨(b.block _ (hr p hp')).trans (S.tv p hp').1,(S.tv p hp').2⟩,S.pw,λp hp'=>(by cases hp')⟩
def SV.aHD{pb:Nat}{L:List T3}{w0 w w1:World}{j:Nat}{rv ts}(S:SV pb L w0 w j rv ts){l:List T}{ao:iD}{m c:Nat}(hL:FG w1 w (.slice ao m c) l)(h1:w0.heap.size<=w1.heap.size)(hr:∀ p,p∈rv->p.1<w1.heap.size)(k n a:Int)(s:dL):SV pb L w0 w j rv ((.mk k n a s l,vT k n a s ao m c)::ts):=by
 refine⟨S.ok,S.hp,S.tv,S.pw,λp hp=>?_⟩
 rcases bO.1 hp with rfl|hp
 ·refine(hL.tree k n a s).kept (λb hb _=>⟨aZ h1 hb,λq hq e=>?_⟩) (aG _) (λ_ _ _=>rfl);have:=hr q hq;unfold Fr at hb;omega
 ·exact S.tr p hp
def BO(L:List Tk)(inner:Nat->R T)(a:Nat)(label:dL)(l:List T)(j2:Nat):R T:=
 aH (if iT L j2 [gV,qR]then aH (inner (j2+1)) λy j3=>.ok (l++[node 22 j2 [y]],j3)else .ok (l,j2)) λl2 j3=>
 aH (BP L label j3) λ_ j4=>.ok (node 20 a l2,j4)
def UJ(L:List Tk)(inner:Nat->R T)(a:Nat)(label:dL)(x:T)(j:Nat):R T:=
 aH (aW L j aT) λ_ j1=>aH (jW L inner (L.length+1) [x] j1) λl j2=>BO L inner a label l j2
def aiZ(L:List Tk)(inner:Nat->R T)(a:Nat)(label:dL)(i:Nat):lL L inner a label i =
 aH (if cD L i [cJ]then fB L i else .ok (none_,i)) λx j=>UJ L inner a label x j:=rfl
def RG(L:List Tk)(inner:Nat->R T)(f:Nat)(acc:List T)(i:Nat):jW L inner (f+1) acc i =
 if iT L i [xP]then aH (aW L (i+1) cJ) λ_ j=>aH (eR L 8 (dB L) j) λl j1=>aH (aW L j1 dA) λ_ j2=>aH (inner j2) λx j3=>jW L inner f (acc++[node 21 i (l++[x])]) j3
 else .ok (acc,i):=by conv=>lhs;unfold jW
def SV.drop{pb:Nat}{L:List T3}{w0 w:World}{j:Nat}{p:Nat×List Value}{rv ts}(S:SV pb L w0 w j (p::rv) ts):SV pb L w0 w j rv []:=
 ⟨S.ok,S.hp,λq hq=>S.tv q (.tail _ hq),(sB.1 S.pw).2,λq hq=>Ax⟩
def SV.anR{pb:Nat}{L:List T3}{w0 w:World}{j:Nat}{rv ts}(S:SV pb L w0 w j rv ts){p:Nat×List Value}(hp:p∈rv):p.1<w.heap.size:=(aX.1 (S.tv p hp).1).1
def SV.fr{pb:Nat}{L:List T3}{w0 w:World}{j:Nat}{ts}(S:SV pb L w0 w j [] ts){t:T}{us:List Value}(h:(t,us)∈ts):iB (Fr w0) w t us:=
 (S.tr _ h).kept (λ_ hb _=>hb.1) (aG _) (λ_ _ _=>rfl)
def UD{B N:Nat}{us:List Value}(h:B<N):∀ p,p∈[(B,us)]->p.1<N:=λp hp=>by rw[cO.1 hp];exact h
def ajV(pb:Nat)(L:List T3)(lo:Nat)(inner:Nat->R T)(hI:Reads 208 pb L lo inner)(up:∀ i,Up (i+1) (inner i))(a:Nat)(lab:dL)(i:Nat)(hi:lo<=i)(w:World)(h:PS w pb L i):AAA 170 #[pq pb,a,lab] w (aU pb L w (lL (lk L) inner a lab i)):=by
 have HU:=aN (aiZ (lk L) inner a lab i);have hbd:=h.bd;have hpl:=h.lt;go_in;go_upto_region 1 with fail;have hsz:(World.alloc w (.cells sZ 24)).heap.size=w.heap.size+1:=by simp
 have S1:=(SV.begin h).var Cg sZ rfl;generalize World.alloc w (.cells sZ 24)=w1 at S1 hsz ⊢;have HSZ:=aN hsz;clear hsz;have hw1:w.heap.size<=w1.heap.size:=by have:=HSZ.out;omega
 have hpl1:pb<w1.heap.size:=by omega
 go_upto_block 1 with fail;refine gU (S1.Mn) λw2 S2=>?_;have hB3:w1.heap.size<=w2.heap.size:=by have:=S2.anR (.head _);have:=HSZ.out;simp only at *; omega
 go_upto_region 2 with fail;have S3:=(S2.less (ts':=[]) (λ_ h=>by cases h)).oF (tg 10 0 0 ⟨#[]⟩ none 0 0) (tg 10 0 0 ⟨#[]⟩ none 0 0) rfl _ rfl;generalize World.alloc w2 _=w3 at S3 ⊢;generalize w2.heap.size=B3 at S3 hB3 ⊢;clear S1 S2;have hC:=S3.oN 0 aD [cJ] aI #[.string ⟨#[40]⟩] rfl 1 rfl _ rfl;go_upto_if 15 with (go_at_call 112;refine hC.mono ?_;rintro e w4 ⟨rfl,S4⟩);clear hC S3;go_cut [] (λwx=>∃ (x:T) (j:Nat) (k1 n1 a1:Int) (s1:dL) (o1:iD) (m1 c1:Nat),SV pb L w wx j [(B3,tg k1 n1 a1 s1 o1 m1 c1),(w.heap.size,Cg)] [(x,vT k1 n1 a1 s1 o1 m1 c1)]/\i<=j/\lL (lk L) inner a lab i=UJ (lk L) inner a lab x j)
 case first=>
  cases hs:cD (lk L) i [cJ] with
  | true=>
   have HS:=aN hs;clear hs;go_upto_block 3 with fail;refine(S4.eK (uU pb L i w4 S4.ps)).mono ?_;rintro e w5 (⟨x,hr,rfl,hg⟩|⟨t5,j5,k5,n5,a5,s5,o5,m5,c5,hr,rfl,S5⟩)
   ·exact rV
   have H5:=aN hr;clear hr;have h5:=oV (lk L) _ _ _ H5.out;have:=AAD (S5.facts 0 rfl)
   go_wp2
   go_meet
   case rel=>exact⟨t5,j5,_,_,_,_,_,_,_,S5.fY 0 rfl k5 n5 a5 s5 (.slice o5 m5 c5),by omega,by simp[HU.out,aH,HS.out,H5.out]⟩
  | false=>
   have HS:=aN hs;clear hs
   go_wp2
   go_meet
   case rel=>exact⟨none_,i,_,_,_,_,_,_,_,S4.leaf 10 0 0 e0,aG _,by simp[HU.out,aH,HS.out]⟩
 case rest=>
  clear S4;obtain⟨x,j,k1,n1,a1,s1,o1,m1,c1,S4,hij,hq⟩:=hcut;have HU:=aN hq;clear hq;go_upto_block 4 with fail;refine(S4.kG aT).mono ?_;rintro e w5 (⟨x,hr,rfl,hg⟩|⟨j5,hr,rfl,S5⟩)
  ·unfold gM;go_wp2_with fail;exact⟨rfl,aU.err x (by simp[HU.out,aH,UJ,hr]) hg⟩
  have H5:=aN hr;clear hr;have h5:=bM (lk L) _ aT _ _ H5.out
  have hL0:FG w1 w5 (.slice (some (AAF B3 0)) 1 1) [x]:=FG.ofVar S5 (S5.tr _ (.head _)) hB3 (λb hb=>by
   have:=hb.1
   have:=hb.2 (w.heap.size,Cg) (.tail _ (.head _))
   have:=HSZ.out
   simp only at *; omega)
  have S6:=S5.drop;have HQ0:=aN (show lL (lk L) inner a lab i=aH (jW (lk L) inner ((lk L).length+1) [x] j5) λl j2=>BO (lk L) inner a lab l j2 by simp[HU.out,aH,UJ,H5.out]);clear S4 S5 HU;go_upto_region 5 with fail
  go_loopg [7] (L.length - j5) (λg v wr=>∃ (l:List T) (jj q:Nat),FG w1 wr v l/\SV pb L w wr jj [(w.heap.size,Cg)] []/\j5<=jj/\g=L.length - jj/\L.length+1<=q+jj/\l.length+j5<=jj+1/\lL (lk L) inner a lab i=aH (jW (lk L) inner q l jj) λl j2=>BO (lk L) inner a lab l j2)
  case atStart=>exact⟨[x],j5,L.length+1,hL0,S6,aG _,rfl,by omega,by simp;omega,by rw[HQ0.out,bN]⟩
  case round=>
   obtain⟨l,jj,q,hL,S0,hij2,hg,hq0,hlen,hq⟩:=hrel;have HQ:=aN hq;have HG:=aN hg;clear hq hg HQ0 S6 hL0;obtain⟨bo,cap,rfl⟩:=hL.form;have hjL:=S0.ps.le;have hwr:w1.heap.size<=wr.heap.size:=by have:=S0.anR (.head _);have:=HSZ.out;simp only at *; omega
   obtain⟨q,rfl⟩:∃ q',q=q'+1:=⟨q - 1,by omega⟩
   have HE:=aN (show ∀ (r:R T) (w':World) (x:Nat),r=.error x->wr.grownBy w' (some pb)->aU pb L w r (gM x) w' from λr w' x h g=>aU.err x h (S0.ok.1.trans g));have T0:=SV.begin S0.ps
   cases hs:iT (lk L) jj [xP] with
   | true=>
    have HQ2:=aN (show lL (lk L) inner a lab i=aH (aH (aW (lk L) (jj+1) cJ) λ_ j=>aH (eR (lk L) 8 (dB (lk L)) j) λl' j1=>aH (aW (lk L) j1 dA) λ_ j2=>aH (inner j2) λx j3=>jW (lk L) inner q (l++[node 21 jj (l'++[x])]) j3) λl j2=>BO (lk L) inner a lab l j2 by rw[HQ.out,RG,aF hs]);have hjl:=VD hs;have hC:=T0.GJ [xP] aI #[.string ⟨#[87,72,69,78]⟩] rfl 1 rfl true hs;clear HQ hs;go_upto_region 6 with (go_at_call 143;refine hC.mono ?_;rintro e w4 ⟨rfl,T1⟩);clear hC;obtain⟨c1,f1⟩:=T1.ps.cells;go_upto_region 8 with fail;have T2:=T1.go (jj+1) aB (iq ((jj:Int)+1)) rfl;generalize World.setCell w4 _ _=w5 at T2 ⊢;clear c1 f1;go_upto_block 8 with fail;refine(T2.kG cJ).mono ?_;rintro e w6 (⟨y,hr,rfl,hg⟩|⟨j6,hr,rfl,T6⟩)
    ·unfold gM;go_wp2_with fail;exact⟨rfl,HE.out _ _ y (by simp[aH,HQ2.out,hr]) hg⟩
    have H6:=aN hr;clear hr;have h6:=bM (lk L) _ cJ _ _ H6.out;go_upto_block 9 with fail;refine(rK _ BD pb L 0 (dB (lk L)) (fA pb L) (fI (lk L)) 8 aD aD j6 (aS _) w6 T6.ps).mono ?_;intro e w7 hp
    rcases hp.split with ⟨l7,j7,o7,c7,hr,rfl,hL7,hok7⟩|⟨y,hr,rfl,hg⟩
    rotate_left
    ·unfold gM;go_wp2_with fail;exact⟨rfl,HE.out _ _ y (by simp[aH,HQ2.out,H6.out,hr]) (T6.ok.1.trans hg)⟩
    have H7:=aN hr;clear hr hp;have h7:=iZ (lk L) (fI (lk L)) 8 _ _ _ H7.out;have hw6:wr.heap.size<=w6.heap.size:=T6.ok.1.size;have hpl6:pb<w6.heap.size:=by omega
    have T7:=T6.step hok7;have U7:=SV.begin hok7.2;go_upto_block 10 with fail;refine(U7.kG dA).mono ?_;rintro e w8 (⟨y,hr,rfl,hg⟩|⟨j8,hr,rfl,U8⟩)
    ·unfold gM;go_wp2_with fail;exact⟨rfl,HE.out _ _ y (by simp[aH,HQ2.out,H6.out,H7.out,hr]) (T7.ok.1.trans hg)⟩
    have H8:=aN hr;clear hr;have h8:=bM (lk L) _ dA _ _ H8.out;go_upto_block 11 with fail;refine(U8.eK (hI j8 w8 aB U8.ps)).mono ?_;rintro e w9 (⟨y,hr,rfl,hg⟩|⟨t9,j9,k9,n9,a9,s9,o9,m9,c9,hr,rfl,U9⟩)
    ·unfold gM;go_wp2_with fail;exact⟨rfl,HE.out _ _ y (by simp[aH,HQ2.out,H6.out,H7.out,H8.out,hr]) (T7.ok.1.trans hg)⟩
    have H9:=aN hr;clear hr;have h9:=up _ _ _ H9.out;have hL9:=hL7.step hpl6 U9.ok.1;have ht9:=iB.beside hL7 hok7.1.size (U9.fr (.head _));have hok9:=hok7.trans U9.ok;have HQ3:=aN (show lL (lk L) inner a lab i=aH (jW (lk L) inner q (l++[node 21 jj (l7++[t9])]) j9) λl j2=>BO (lk L) inner a lab l j2 by simp[aH,HQ2.out,H6.out,H7.out,H8.out,H9.out]);clear HQ2;go_upto_block 11 with (at_builtin;go_loud (refine qJ rfl _ _ rfl w6 w9 (.slice o7 l7.length c7) l7 rfl hL9 t9 (vT k9 n9 a9 s9 o9 m9 c9) ht9 rfl ?dd1 ?dd2 ?_))
    case dd1=>exact hok9.1.size
    case dd2=>exact Rf
    intro v10 w10 hL10 hb10;have hok10:=hok9.new hpl6 hb10;obtain⟨bo10,cap10,rfl⟩:=hL10.form;rw[show (l7++[t9]).length=l7.length+1 by simp]at hL10;have T10:=((T6.step hok10).less (ts':=[]) (λ_ h=>by cases h)).aHD hL10 hw6 (λ_ h=>by cases h) 21 0 jj e0;clear hL9 ht9 hok9 T7 U7 U8 U9;go_upto_block 11 with fail;refine(T10.pG 21 jj).mono ?_;rintro e w11 ⟨rfl,T11⟩;have hL11:=hL.step hpl1 T11.ok.1;have ht11:=iB.beside hL hwr (T11.fr (.head _));go_wp2_with (at_builtin;go_loud (refine qJ rfl _ _ rfl w1 w11 (.slice bo l.length cap) l rfl hL11 _ (vT 21 0 jj ⟨#[]⟩ bo10 (l7.length+1) cap10) ht11 rfl ?dd3 ?dd4 ?_))
    case dd3=>have:=T11.ok.1.size;omega
    case dd4=>omega
    intro v12 w12 hL12 hb12;have S12:=(S0.step T11.ok).aGY hw1 (UD (by have:=HSZ.out;omega)) hb12;have hj9:=T11.ps.le;go_wp2_with fail
    go_roundg (L.length - j9)
    case measure=>rw[HG.out];omega
    case rel=>exact⟨_,j9,q,hL12,S12,by omega,rfl,by omega,by rw[aO];simp;omega,HQ3.out⟩
   | false=>
    have HQ2:=aN (show lL (lk L) inner a lab i=BO (lk L) inner a lab l jj by rw[HQ.out,RG,aC AD];rfl);have hC:=T0.GJ [xP] aI #[.string ⟨#[87,72,69,78]⟩] rfl 1 rfl false hs;clear HQ hs;go_upto_region 12 with (go_at_call 143;refine hC.mono ?_;rintro e w4 ⟨rfl,T1⟩);clear hC;obtain⟨c1,f1⟩:=T1.ps.cells;go_upto_region 13 with fail;clear c1 f1;have hC:=T1.Li [gV,qR] aI #[.string ⟨#[79,84,72,69,82,87,73,83,69]⟩,.string ⟨#[79,84,72,69,82]⟩] rfl 2 rfl _ rfl;go_upto_if 60 with (go_at_call 124;refine hC.mono ?_;rintro e w5 ⟨rfl,T5⟩);clear hC T1;go_cut [7] (λv7 wx=>∃ (l2:List T) (j3:Nat),FG w1 wx v7 l2/\SV pb L w wx j3 [(w.heap.size,Cg)] []/\lL (lk L) inner a lab i=aH (BP (lk L) lab j3) λ_ j4=>.ok (node 20 a l2,j4))
    case first=>
     cases hs:iT (lk L) jj [gV,qR] with
     | true=>
      rw[hs]at T5;replace T5:SV pb L wr w5 (jj+1) _ _:=T5;have HS:=aN hs;clear hs;go_upto_block 14 with fail;refine(T5.eK (hI (jj+1) w5 aB T5.ps)).mono ?_;rintro e w9 (⟨y,hr,rfl,hg⟩|⟨t9,j9,k9,n9,a9,s9,o9,m9,c9,hr,rfl,T9⟩)
      ·unfold gM;go_wp2_with fail;exact⟨rfl,HE.out _ _ y (by simp[aH,HQ2.out,BO,HS.out,hr]) hg⟩
      have H9:=aN hr;clear hr;have T10:=T9.lit (dO.one (T9.tr _ (.head _))) (tg k9 n9 a9 s9 o9 m9 c9) rfl 22 0 jj e0 1 1 rfl;go_upto_block 14 with fail;refine(T10.pG 22 jj).mono ?_;rintro e w11 ⟨rfl,T11⟩;have hL11:=hL.step hpl1 T11.ok.1;have ht11:=iB.beside hL hwr (T11.fr (.head _));go_wp2_with (at_builtin;go_loud (refine qJ rfl _ _ rfl w1 w11 (.slice bo l.length cap) l rfl hL11 _ (vT 22 0 jj ⟨#[]⟩ (some (AAF w9.heap.size 0)) 1 1) ht11 rfl ?dd3 ?dd4 ?_))
      case dd3=>have:=T11.ok.1.size;omega
      case dd4=>omega
      intro v12 w12 hL12 hb12;have S12:=(S0.step T11.ok).aGY hw1 (UD (by have:=HSZ.out;omega)) hb12
      go_wp2
      go_meet
      case rel=>exact⟨_,j9,hL12,S12,by simp[aH,HQ2.out,BO,HS.out,H9.out];rfl⟩
     | false=>
      rw[hs]at T5;replace T5:SV pb L wr w5 jj _ _:=T5;have HS:=aN hs;clear hs
      go_wp2
      go_meet
      case rel=>exact⟨l,jj,hL.step hpl1 T5.ok.1,S0.step T5.ok,by simp[aH,HQ2.out,BO,HS.out]⟩
    case rest=>
     clear T5;obtain⟨l2,j3,hL2,S2,hq⟩:=hcut;have HU:=aN hq;clear hq HQ2 HE;obtain⟨bo2,cap2,rfl⟩:=hL2.form;have U2:=SV.begin S2.ps;go_upto_block 15 with fail;refine(U2.apV (apY pb L lab j3 wc U2.ps)).mono ?_;rintro e w4 (⟨y,hr,rfl,hg⟩|⟨j4,hr,rfl,U4⟩)
     ·unfold gM;go_wp2_with fail;exact⟨rfl,aU.err y (by simp[aH,HU.out,hr]) (S2.ok.1.trans hg)⟩
     have H4:=aN hr;clear hr;have hL4:=hL2.step hpl1 U4.ok.1;have S4:=(S2.step U4.ok).aHD hL4 hw1 (UD (by have:=HSZ.out;omega)) 20 0 a e0;go_upto_block 16 with fail;refine gU (S4.pG 20 a) λw5 S5=>?_;have:=AAD (S5.facts 0 rfl);go_wp2_with fail;have S6:=S5.fY 0 rfl (iq 20) (iq 0) a (.string ⟨#[]⟩) (.slice bo2 l2.length cap2);refine nX (S6.facts 0 rfl) Tryz.results170 ?_;exact S6.res (.head _) (by simp[aH,HU.out,H4.out]<;>rfl) rfl
def SV.aDv{pb:Nat}{L:List T3}{w0 w:World}{j:Nat}{rv ts}{t:T}{k n a:Int}{s:dL}{ao:iD}{m c:Nat}(S:SV pb L w0 w j rv ((t,vT k n a s ao m c)::ts))(i:Nat){b:Nat}{x y z u v:Value}(hk:rv[i]?=some (b,[x,y,z,u,v])) :
 SV pb L w0 (AY w b k n a s (.slice ao m c)) j (rv.set i (b,tg k n a s ao m c)) ((t,vT k n a s ao m c)::ts):=S.fY i hk _ _ _ _ _
def akR(L:List Tk)(inner:Nat->R T)(a i:Nat):qM L inner a i =
 aH (dB L i) λx j=>aH (fV L j [pI]) λ_ j1=>aH (inner j1) λy j2=>
 if keyword L j2 [qK]then aH (inner (j2+1)) λz j3=>.ok (node 23 a [x,y,z],j3)else .ok (node 23 a [x,y],j2):=rfl
def Yu{p:Prop}(h:p:=by
 try have:=AAD (Sq.facts 0 rfl)
 go_simp;refine(Sq.eK (hI j4 _ aB Sq.ps)).mono ?_;rintro e w6 (⟨x,hr,rfl,hg⟩|⟨t6,j6,k6,n6,a6,s6,o6,m6,c6,hr,rfl,Sq⟩)
 ·unfold gM;exact⟨rfl,aU.err x (by simp[HU.out,aH,H2.out,H4.out,hr]) hg⟩
 have H6:=aN hr;clear hr;refine kX aMB LP λaMA=>?_;clear aMB Kx;exact BC):p:=h
def Yw{p:Prop}(h:p:=by
 try have:=AAD (Sq.facts 0 rfl)
 go_simp;have Sq:=Sq.lit (dO.two (Sq.tr (t2,vT k2 n2 a2 s2 o2 m2 c2) aI) (Sq.tr (t6,vT k6 n6 a6 s6 o6 m6 c6) (.head _))) #[.int .i64 k2,.int .i64 n2,.int .i64 a2,.string s2,.slice o2 m2 c2,.int .i64 k6,.int .i64 n6,.int .i64 a6,.string s6,.slice o6 m6 c6] rfl 23 0 a e0 2 2 rfl;refine kX aMB LP λaMA=>?_;clear aMB Kx;generalize World.alloc _ (.cells #[iq k2,iq n2,iq a2,.string s2,.slice o2 m2 c2,iq k6,iq n6,iq a6,.string s6,.slice o6 m6 c6] 24)=w7 at Sq aMA ⊢;exact BC):p:=h
def YU{p:Prop}(h:p:=by
 try have:=AAD (Sq.facts 0 rfl)
 go_simp;refine gU (Sq.pG 23 a) λw8 Sq=>?_;refine kX aMB LP λaMA=>?_;clear aMB Kx;exact BC):p:=h
def JT{p:Prop}(h:p:=by
 try have:=AAD (Sq.facts 0 rfl)
 go_simp;have Sq:=Sq.oF Cg sZ rfl _ rfl;refine kX aMB LP λaMA=>?_;clear aMB Kx;generalize World.alloc _ (.cells sZ 24)=w9 at Sq aMA ⊢;exact BC):p:=h
def auM{p:Prop}(h:p:=by
 try have:=AAD (Sq.facts 0 rfl)
 go_simp;have Sq:=Sq.aDv 0 rfl;unfold AY at Sq;refine kX aMB LP λaMA=>?_;clear aMB Kx;exact BC):p:=h
def aBF{p:Prop}(h:p:=by
 go_wp2
 go_meet
 case rel=>exact⟨_,t6,j6,_,rfl,Sq.less (λp hp=>by rw[cO.1 hp];exact .head _),⟨_,rfl⟩,H6.out⟩):p:=h
theorem BC{p:Prop}(h:p:=by
 first
 | (refine aaW ?_;exact aBF)
 | (refine Kt 0 ?_;exact BC)
 | (refine Kt 1 ?_;exact BC)
 | (refine Kt 2 ?_;exact BC)
 | (refine qG [3,6] ?_;refine rB (λKx aMB=>?_) (rB (λKx aMB=>?_) .nil);exact Yu;exact JT)
 | (refine qG [4,6] ?_;refine rB (λKx aMB=>?_) (rB (λKx aMB=>?_) .nil);exact Yw;exact JT)
 | (refine qG [5,6] ?_;refine rB (λKx aMB=>?_) (rB (λKx aMB=>?_) .nil);exact YU;exact JT)
 | (refine qG [6] ?_;refine rB (λKx aMB=>?_) .nil;exact JT)
 | (refine qG [7] ?_;refine rB (λKx aMB=>?_) .nil;exact auM)
 | (refine qG [5] ?_;refine rB (λKx aMB=>?_) .nil;exact YU)
 | (refine qG [4] ?_;refine rB (λKx aMB=>?_) .nil;exact Yw)
 | (refine qG [3] ?_;refine rB (λKx aMB=>?_) .nil;exact Yu)):p:=h
def Oj{p:Prop}(h:p:=by
 try have:=AAD (Sq.facts 0 rfl)
 go_simp;refine GR aMB Sq ?_;clear aMB Kx;exact BU):p:=h
def XN{p:Prop}(h:p:=by
 try have:=AAD (Sq.facts 0 rfl)
 go_simp;refine(Sq.eK (hI (j5+1) _ aB Sq.ps)).mono ?_;rintro e w9 (⟨x,hr,rfl,hg⟩|⟨t9,j9,k9,n9,a9,s9,o9,m9,c9,hr,rfl,Sq⟩)
 ·unfold gM;exact⟨rfl,aU.err x (by simp[HU.out,aH,H2.out,H4.out,H5.out,HS.out,hr]) hg⟩
 have H9:=aN hr;clear hr;have:=AAD (Sq.facts 0 rfl);refine GR aMB Sq ?_;clear aMB Kx;exact BU):p:=h
def Yd{p:Prop}(h:p:=by
 try have:=AAD (Sq.facts 0 rfl)
 go_simp;have Sq:=Sq.lit (dO.one (Sq.tr (t9,vT k9 n9 a9 s9 o9 m9 c9) (.head _))) (tg k9 n9 a9 s9 o9 m9 c9) rfl 40 0 0 e0 1 1 rfl;refine GR aMB Sq ?_;clear aMB Kx;exact BU):p:=h
def asY{p:Prop}(h:p:=by
 refine Kh aQ (.tmp 31) (.tmp 34) rfl Sq (.tail _ (.tail _ (.head _))) (.head _) aD aD 23 0 a e0 aD rfl rfl (λao11 c11 w11 Sq=>?_);have:=AAD (Sq.facts 0 rfl);refine GR aMB Sq ?_;clear aMB Kx;exact BU):p:=h
def asQ{p:Prop}(h:p:=by
 try have:=AAD (Sq.facts 0 rfl)
 go_simp;have Sq:=Sq.put 0 rfl 4 (.slice ao11 (2+1) c11) aI;refine GR aMB Sq ?_;clear aMB Kx;exact BU):p:=h
def azB{p:Prop}(h:p:=by
 go_upto_region 7 with fail;generalize World.setCell _ (AAF B8 4) _=w12 at Sq ⊢;have:=AAD (Sq.facts 0 rfl);have:=AAD (Sq.facts 2 rfl);go_wp2_with fail;have S13:=Sq.fY 2 rfl (iq 23) (iq 0) a (.string ⟨#[]⟩) (.slice ao11 (2+1) c11);refine nX (S13.facts 2 rfl) Tryz.results171 ?_;exact S13.res (.head _) (by simp[HU.out,aH,H2.out,H4.out,H5.out,HS.out,H9.out]<;>rfl) rfl):p:=h
theorem BU{p:Prop}(h:p:=by
 first
 | (refine Gk ?_;exact azB)
 | (refine tZ 0 ?_;exact BU)
 | (refine tZ 2 ?_;exact BU)
 | (refine tZ 6 ?_;exact BU)
 | (refine kL [1,3] ?_;refine qP (λKx aMB=>?_) (qP (λKx aMB=>?_) .nil);exact Oj;exact XN)
 | (refine kL [3] ?_;refine qP (λKx aMB=>?_) .nil;exact XN)
 | (refine kL [4] ?_;refine qP (λKx aMB=>?_) .nil;exact Yd)
 | (refine kL [5] ?_;refine qP (λKx aMB=>?_) .nil;exact asY)
 | (refine kL [7] ?_;refine qP (λKx aMB=>?_) .nil;exact asQ)
 | (refine kL [1,4] ?_;refine qP (λKx aMB=>?_) (qP (λKx aMB=>?_) .nil);exact Oj;exact Yd)
 | (refine kL [1] ?_;refine qP (λKx aMB=>?_) .nil;exact Oj)):p:=h
def ajC(pb:Nat)(L:List T3)(lo:Nat)(inner:Nat->R T)(hI:Reads 208 pb L lo inner)(up:∀ i,Up (i+1) (inner i))(a:Nat)(lab:dL)(i:Nat)(hi:lo<=i)(w:World)(h:PS w pb L i):AAA 171 #[pq pb,a,lab] w (aU pb L w (qM (lk L) inner a i)):=by
 have HU:=aN (akR (lk L) inner a i);have hbd:=h.bd;go_in;go_upto_region 1 with fail;have S1:=SV.new h;generalize World.alloc w _=w1 at S1 ⊢;go_upto_block 1 with fail;refine(S1.eK (fA pb L i w1 (aS _) S1.ps)).mono ?_;rintro e w2 (⟨x,hr,rfl,hg⟩|⟨t2,j2,k2,n2,a2,s2,o2,m2,c2,hr,rfl,S2⟩)
 ·exact jQ
 have H2:=aN hr;clear hr;go_upto_region 2 with fail;have S3:=S2.EU (tg k2 n2 a2 s2 o2 m2 c2);generalize World.alloc w2 _=w3 at S3 ⊢;generalize w2.heap.size=B3 at S3 ⊢;go_upto_block 2 with fail;refine(S3.El [pI] aI _ rfl 1 rfl).mono ?_;rintro e w4 (⟨x,hr,rfl,hg⟩|⟨j4,hr,rfl,S4⟩)
 ·exact Hc
 have H4:=aN hr;clear hr;have h2:=fI (lk L) _ _ _ H2.out;have h4:=oZ (lk L) _ _ _ _ H4.out;go_upto_region 3 with fail;go_cut [8] (λv8 wx=>∃ (B8:Nat) (y:T) (j5:Nat) (ao:iD),v8=.pointer (some (AAF B8 0))/\SV pb L w wx j5 [(B8,tg 23 0 a ⟨#[]⟩ ao 2 2),(B3,tg k2 n2 a2 s2 o2 m2 c2),(w.heap.size,Cg)] [(node 23 a [t2,y],vT 23 0 a e0 ao 2 2)]/\(∃ B,ao=some ⟨B,0,none⟩)/\inner j4=.ok (y,j5))
 case first=>
  have Sq:=S4.drew;refine fW (S:=(λw'=>TV w' B3 k2 n2 a2 s2 (.slice o2 m2 c2))) aQ LP (λaMA=>?_);generalize World.drew w4=w5 at *;exact BC
 case rest=>
  obtain⟨B8,y,j5,ao,rfl,S5,⟨B,rfl⟩,hq⟩:=hcut;have H5:=aN hq;clear hq S4 S3 S2 S1;have h5:=up _ _ _ H5.out
  cases hs:keyword (lk L) j5 [qK] with
  | false=>
   have hC:=S5.kwC [qK] aI #[.string ⟨#[69,76,83,69]⟩] rfl 1 rfl false hs;have HS:=aN hs;clear hs;go_upto_region 7 with (go_at_call 125;refine hC.mono ?_;rintro e w6 ⟨rfl,S6⟩);have:=AAD (S6.facts 0 rfl);have:=AAD (S6.facts 2 rfl);go_wp2_with fail;have S7:=S6.fY 2 rfl (iq 23) (iq 0) a (.string ⟨#[]⟩) (.slice (some (AAF B 0)) 2 2);refine nX (S7.facts 2 rfl) Tryz.results171 ?_;exact S7.res (.head _) (by simp[HU.out,aH,H2.out,H4.out,H5.out,HS.out]<;>rfl) rfl
  | true=>
   have hC:=S5.kwC [qK] aI #[.string ⟨#[69,76,83,69]⟩] rfl 1 rfl true hs;have hjl:j5<L.length:=by
    exact Rb
   have HS:=aN hs;clear hs;go_upto_region 5 with (go_at_call 125;refine hC.mono ?_;rintro e w6 ⟨rfl,S6⟩);obtain⟨c1,f1⟩:=S6.ps.cells;go_upto_region 6 with fail;have S7:=S6.go (j5+1) aB (iq ((j5:Int)+1)) rfl;generalize World.setCell w6 _ _=w7 at S7 ⊢;clear c1 f1;refine qW aQ ?_;change wpAny _ _ _ _ _ _ _ (World.drew _);have Sq:=S7.drew;generalize World.drew w7=w8 at Sq ⊢;have:=AAD (Sq.facts 0 rfl);exact BU
def onQ(L:List Tk)(inner:Nat->R T)(a:Nat)(pre:Bool)(i:Nat):R T:=
 aH (qL L (!pre) i) λc j=>if keyword L j [pN]then bK L (node 32 a [c,node 33 j []]) (j+1)else aH (inner j) λx j1=>.ok (node 32 a [c,x],j1)
def aHL(L:List Tk)(inner:Nat->R T)(a i:Nat):onP L inner a i=onQ L inner a (cD L (i+1) [cJ]&&!(isName L (i+2)&&cD L (i+3) [dA]&&!cD L (i+4) [cU])) i:=rfl
def aIu(pb:Nat)(L:List T3)(lo:Nat)(inner:Nat->R T)(hI:Reads 208 pb L lo inner)(up:∀ i,Up (i+1) (inner i))(a:Nat)(lab:dL)(i:Nat)(hi:lo<=i)(w:World)(h:PS w pb L i):AAA 179 #[pq pb,a,lab] w (aU pb L w (onP (lk L) inner a i)):=by
 rw[aHL];have hbd:=h.bd;have hf0:=Eo;have hnot:∀ (x:Bool) (w:World),(Op.unary .not (.bool x)).run Tryz.prog w=.ok (.bool (!x)) w:=λ_ _=>rfl
 generalize hpre:(cD (lk L) (i+1) [cJ]&&!(isName (lk L) (i+2)&&cD (lk L) (i+3) [dA]&&!cD (lk L) (i+4) [cU]))=pre;have HP:=aN hpre;have HU:=aN (show onQ (lk L) inner a pre i=onQ (lk L) inner a pre i from rfl);clear hpre;go_in;go_upto_region 1 with fail;have S1:=SV.new h;generalize World.alloc w _=w1 at S1 ⊢;go_cut [7] (λv7 wx=>v7=.bool pre/\SV pb L w wx i [(w.heap.size,Cg)] [])
 case first=>
  go_upto_block 1 with fail;refine gU (S1.oN 1 aD [cJ] aD #[.string ⟨#[40]⟩] rfl 1 rfl _ rfl) λw2 S2=>?_
  cases hs1:cD (lk L) (i+1) [cJ] with
  | false=>
   have hp:=HP.out;rw[hs1]at hp;simp only[FL]at hp
   subst hp;clear hs1
   go_wp2
   go_meet
   case rel=>exact⟨rfl,S2⟩
  | true=>
   have HS1:=aN hs1;clear hs1;have hT:=fS pb L i 2 aD w2 S2.ps
   by_cases hk:(tok (lk L) (i+2)).kind=1
   ·rw[show (tok (L.map T3.tk) (i+2)).kind=1 from hk]at hT;have HK:=aN hk;clear hk;go_upto_block 1 with fail;refine(S2.eT (E:=λe=>∃ p:Int,e=_) hT).mono ?_;rintro e w3 ⟨⟨p,rfl⟩,S3⟩;go_upto_block 1 with fail;refine gU (S3.oN 3 aD [dA] aD #[.string ⟨#[41]⟩] rfl 1 rfl _ rfl) λw4 S4=>?_
    cases hs3:cD (lk L) (i+3) [dA] with
    | false=>
     have hp:=HP.out;rw[HS1.out,hs3]at hp
     simp at hp
     subst hp;clear hs3
     go_wp2
     exact IL
    | true=>
     have HS3:=aN hs3;clear hs3;go_upto_block 1 with fail;refine gU (S4.oN 4 aD [cU] aD #[.string ⟨#[58]⟩] rfl 1 rfl _ rfl) λw5 S5=>?_
     cases hs4:cD (lk L) (i+4) [cU] with
     | false=>
      have hp:=HP.out;rw[HS1.out,HS3.out,hs4]at hp;unfold isName at hp;rw[HK.out]at hp
      exact Qv
     | true=>
      have hp:=HP.out;rw[HS1.out,HS3.out,hs4]at hp
      exact Qv
   ·have hp:=HP.out;rw[HS1.out,show isName (lk L) (i+2)=false by unfold isName;simpa using hk]at hp
    simp at hp
    subst hp;generalize hkk:(tok (lk L) (i+2)).kind=tk at hk;rw[show (tok (L.map T3.tk) (i+2)).kind=tk from hkk]at hT;clear hkk;have hd:decide (tk=1)=false:=bX hk;go_upto_block 1 with fail;refine(S2.eT (E:=λe=>∃ p:Int,e=_) hT).mono ?_;rintro e w3 ⟨⟨p,rfl⟩,S3⟩
    go_wp2
    go_meet
    case rel=>exact⟨rfl,S3⟩
 case rest=>
  clear S1 HP;obtain⟨rfl,S2⟩:=hcut;go_upto_block 2 with fail;refine(S2.eK (Ep pb L (!pre) i wc S2.ps)).mono ?_;rintro e w3 (⟨x,hr,rfl,hg⟩|⟨t3,j3,k3,n3,a3,s3,o3,m3,c3,hr,rfl,S3⟩)
  ·unfold gM;go_wp2_with fail;exact⟨rfl,aU.err x (by simp[HU.out,aH,onQ,hr]) hg⟩
  have H3:=aN hr;clear hr;have h3:=Ex (lk L) _ _ _ _ H3.out;go_upto_region 3 with fail;have S4:=S3.EU (tg k3 n3 a3 s3 o3 m3 c3);generalize World.alloc w3 _=w4 at S4 ⊢;generalize w3.heap.size=B4 at S4 ⊢
  cases hs:keyword (lk L) j3 [pN] with
  | true=>
   have hC:=S4.kwC [pN] aI #[.string ⟨#[83,89,83,84,69,77]⟩] rfl 1 rfl true hs;have hjl:j3<L.length:=by
    exact Rb
   have HS:=aN hs;clear hs;go_upto_region 4 with (go_at_call 125;refine hC.mono ?_;rintro e w5 ⟨rfl,S5⟩);obtain⟨c1,f1⟩:=S5.ps.cells;have S6:=S5.leaf 33 0 j3 e0;go_upto_region 5 with (go_at_call 87;refine(S6.pG 33 j3).mono ?_;rintro e w6 ⟨rfl,S7⟩);clear c1 f1;have S8:=S7.EU (tg 33 0 j3 ⟨#[]⟩ none 0 0);generalize World.alloc w6 _=w8 at S8 ⊢;generalize w6.heap.size=B8 at S8 ⊢;obtain⟨c1,f1⟩:=S8.ps.cells;go_upto_region 6 with fail;have S9:=S8.go (j3+1) aB (iq ((j3:Int)+1)) rfl;generalize World.setCell w8 _ _=w9 at S9 ⊢;clear c1 f1;have:=AAD (S9.facts 0 rfl);have:=AAD (S9.facts 1 rfl);have S10:=S9.lit (dO.two (S9.tr (t3,vT k3 n3 a3 s3 o3 m3 c3) (.tail _ (.head _))) (S9.tr _ (.head _))) #[.int .i64 k3,.int .i64 n3,.int .i64 a3,.string s3,.slice o3 m3 c3,.int .i64 33,.int .i64 0,.int .i64 j3,.string ⟨#[]⟩,.slice none 0 0] rfl 32 0 a e0 2 2 rfl;go_upto_block 6 with fail;refine gU (S10.pG 32 a) λw11 S11=>?_;go_upto_block 6 with fail;refine(S11.sR 32 0 a ⟨#[]⟩ (some (AAF w9.heap.size 0)) 2 2).mono ?_;rintro e wz (⟨x,hr,rfl,hg⟩|⟨jz,hr,rfl,Sz⟩)
   ·unfold gM;go_wp2_with fail;exact PA
   have Hz:=aN hr;clear hr;have:=AAD (Sz.facts 2 rfl);go_wp2_with fail;have Sy:=Sz.fY 2 rfl (iq 32) (iq 0) a (.string ⟨#[]⟩) (.slice (some (AAF w9.heap.size 0)) 2 2);refine nX (Sy.facts 2 rfl) Tryz.results179 ?_;exact Sy.res (.head _) (by simp[HU.out,aH,onQ,bK,H3.out,HS.out,Hz.out]<;>rfl) rfl
  | false=>
   have hC:=S4.kwC [pN] aI #[.string ⟨#[83,89,83,84,69,77]⟩] rfl 1 rfl false hs;have HS:=aN hs;clear hs;go_upto_region 7 with (go_at_call 125;refine hC.mono ?_;rintro e w5 ⟨rfl,S5⟩);have S6:=S5.drew;refine fW (S:=(λw'=>TV w' B4 k3 n3 a3 s3 (.slice o3 m3 c3))) aQ (S6.facts 0 rfl) (λaMA=>?_);generalize World.drew w5=w6 at *;refine BH 0 ?_;refine BH 1 ?_;refine BH 2 ?_;refine gZ 3 λKx aMB=>?_;go_simp;refine(S6.eK (hI j3 _ aB S6.ps)).mono ?_;rintro e w7 (⟨x,hr,rfl,hg⟩|⟨t7,j7,k7,n7,a7,s7,o7,m7,c7,hr,rfl,S7⟩)
   ·unfold gM;exact PA
   have H7:=aN hr;clear hr;refine kX aMB (S7.facts 0 rfl) λaMA=>?_;clear aMB Kx;refine gZ 4 λKx aMB=>?_;have S8:=S7.lit (dO.two (S7.tr (t3,vT k3 n3 a3 s3 o3 m3 c3) (.tail _ (.head _))) (S7.tr _ (.head _))) #[.int .i64 k3,.int .i64 n3,.int .i64 a3,.string s3,.slice o3 m3 c3,.int .i64 k7,.int .i64 n7,.int .i64 a7,.string s7,.slice o7 m7 c7] rfl 32 0 a e0 2 2 rfl;go_simp;refine kX aMB (S8.facts 0 rfl) λaMA=>?_;clear aMB Kx;refine gZ 5 λKx aMB=>?_;go_simp;refine gU (S8.pG 32 a) λw9 S9=>?_;refine kX aMB (S9.facts 0 rfl) λaMA=>?_;clear aMB Kx;refine gZ 6 λKx aMB=>?_;have:=AAD (S9.facts 1 rfl);have S10:=S9.aDv 1 rfl;unfold AY at S10;go_simp;refine kX aMB (S10.facts 0 rfl) λaMA=>?_;clear aMB Kx;refine pP ?_;go_wp2_with fail;refine nX (S10.facts 1 rfl) Tryz.results179 ?_;exact S10.res (.head _) (by simp[HU.out,aH,onQ,bK,H3.out,HS.out,H7.out]<;>rfl) rfl
end
