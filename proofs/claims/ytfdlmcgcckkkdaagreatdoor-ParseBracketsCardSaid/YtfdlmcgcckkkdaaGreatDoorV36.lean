/- ParseWhole, part 36: what it stands on. -/
import Derived.Test.YtfdlmcgcckkkdaaGreatDoorV33
import Derived.Test.YtfdlmcgcckkkdaaGreatDoorV34
import Derived.Deep.RegionHeld
set_option linter.all false
set_option maxHeartbeats 40000000
set_option maxRecDepth 100000
namespace Go.Proofs.YtfdlmcgcckkkdaaGreatDoor
section
open Go.RowKit Lx Px
theorem Lst.ofVar{pb:Nat}{L:List T3}{w0 w:World}{j:Nat}{B:Nat}{us:List Value}{rv ts}(S:SV pb L w0 w j ((B,us)::rv) ts){x:T}(hx:TrC (Av w0 ((B,us)::rv)) w x us){w1:World}(h1:w1.heap.size≤B)(h2:∀ b,Av w0 ((B,us)::rv) b→w1.heap.size≤b):Lst w1 w (.slice (some ⟨B,0,none⟩) 1 1) [x]:=by
 have hb:=S.tv (B,us) (.head _);have hl:=hx.len;refine⟨us,⟨by simp[hl],.inr ⟨B,1,us.toArray,rfl,h1,hb.1,Nat.le_refl _,by decide,by simp[hl],by rw[List.take_of_length_le];simp[hl]⟩⟩,?_⟩;refine aW.one (hx.kept (fun b hb' _=>⟨h2 b hb',fun e=>?_⟩) (Nat.le_refl _) (fun _ _ _=>rfl));simp only[Value.ownBlock,Option.some.injEq]at e
 exact hb'.2 (B,us) (.head _) e.symm
theorem SV.Pb{pb:Nat}{L:List T3}{w0 w w':World}{j:Nat}{rv}(S:SV pb L w0 w j rv []){N:Nat}(hN:w0.heap.size≤N)(hr:∀ p,p∈rv→p.1<N)(b:Below N w w'):SV pb L w0 w' j rv []:=by
 have hp:=S.hp;refine⟨S.ok.new hp (b.mono hN),S.hp,fun p hp'=>⟨(b.block _ (hr p hp')).trans (S.tv p hp').1,(S.tv p hp').2⟩,S.pw,fun p hp'=>(by cases hp')⟩
theorem SV.QB{pb:Nat}{L:List T3}{w0 w w1:World}{j:Nat}{rv ts}(S:SV pb L w0 w j rv ts){l:List T}{ao:Option Addr}{m c:Nat}(hL:Lst w1 w (.slice ao m c) l)(h1:w0.heap.size≤w1.heap.size)(hr:∀ p,p∈rv→p.1<w1.heap.size)(k n a:Int)(s:ByteArray):SV pb L w0 w j rv ((.mk k n a s l,vT k n a s ao m c)::ts):=by
 refine⟨S.ok,S.hp,S.tv,S.pw,fun p hp=>?_⟩
 rcases List.mem_cons.1 hp with rfl|hp
 ·refine(hL.tree k n a s).kept (fun b hb _=>⟨Nat.le_trans h1 hb,fun q hq e=>?_⟩) (Nat.le_refl _) (fun _ _ _=>rfl);have:=hr q hq;unfold Fr at hb;omega
 ·exact S.tr p hp
def lK(L:List Tk)(inner:Nat→R T)(a:Nat)(label:ByteArray)(l:List T)(j2:Nat):R T:=
 aB (if wrd L j2 [eZ,yK]then aB (inner (j2+1)) fun y j3=>.ok (l++[node 22 j2 [y]],j3)else .ok (l,j2)) fun l2 j3=>
 aB (Cs L label j3) fun _ j4=>.ok (node 20 a l2,j4)
def Aj(L:List Tk)(inner:Nat→R T)(a:Nat)(label:ByteArray)(x:T)(j:Nat):R T:=
 aB (aM L j aS) fun _ j1=>aB (gV L inner (L.length+1) [x] j1) fun l j2=>lK L inner a label l j2
theorem Fi(L:List Tk)(inner:Nat→R T)(a:Nat)(label:ByteArray)(i:Nat):iA L inner a label i =
 aB (if sgn L i [sLP]then cQ L i else .ok (none_,i)) fun x j=>Aj L inner a label x j:=rfl
theorem pS(L:List Tk)(inner:Nat→R T)(f:Nat)(acc:List T)(i:Nat):gV L inner (f+1) acc i =
 if wrd L i [sR]then aB (aM L (i+1) sLP) fun _ j=>aB (eD L 8 (bM L) j) fun l j1=>aB (aM L j1 sRP) fun _ j2=>aB (inner j2) fun x j3=>gV L inner f (acc++[node 21 i (l++[x])]) j3
 else .ok (acc,i):=by conv=>lhs;unfold gV
theorem SV.drop{pb:Nat}{L:List T3}{w0 w:World}{j:Nat}{p:Nat×List Value}{rv ts}(S:SV pb L w0 w j (p::rv) ts):SV pb L w0 w j rv []:=
 ⟨S.ok,S.hp,fun q hq=>S.tv q (.tail _ hq),(List.pairwise_cons.1 S.pw).2,fun q hq=>(by cases hq)⟩
theorem SV.Jx{pb:Nat}{L:List T3}{w0 w:World}{j:Nat}{rv ts}(S:SV pb L w0 w j rv ts){p:Nat×List Value}(hp:p∈rv):p.1<w.heap.size:=(Array.getElem?_eq_some_iff.1 (S.tv p hp).1).1
theorem SV.fr{pb:Nat}{L:List T3}{w0 w:World}{j:Nat}{ts}(S:SV pb L w0 w j [] ts){t:T}{us:List Value}(h:(t,us)∈ts):TrC (Fr w0) w t us:=
 (S.tr _ h).kept (fun _ hb _=>hb.1) (Nat.le_refl _) (fun _ _ _=>rfl)
theorem AS{B N:Nat}{us:List Value}(h:B<N):∀ p,p∈[(B,us)]→p.1<N:=fun p hp=>by rw[List.mem_singleton.1 hp];exact h
theorem Gt(pb:Nat)(L:List T3)(lo:Nat)(inner:Nat→R T)(hI:Reads 220 pb L lo inner)(up:∀ i,Up (i+1) (inner i))(a:Nat)(lab:ByteArray)(i:Nat)(hi:lo≤i)(w:World)(h:PS w pb L i):Calls Tryz.prog 182 #[pq pb,a,lab] w (aD pb L w (iA (lk L) inner a lab i)):=by
 have HU:=hdq (Fi (lk L) inner a lab i);have hbd:=h.bd;have hpl:=h.lt;go_enter Tryz.func182,Tryz.ntmps182;go_upto_region 1 with fail;have hsz:(World.alloc w (.cells z5q 24)).heap.size=w.heap.size+1:=by simp
 have S1:=(SV.begin h).var zs5 z5q rfl;generalize World.alloc w (.cells z5q 24)=w1 at S1 hsz ⊢;have HSZ:=hdq hsz;clear hsz;have hw1:w.heap.size≤w1.heap.size:=by have:=HSZ.out;omega
 have hpl1:pb<w1.heap.size:=by omega
 go_upto_block 1 with fail;refine m2q (S1.uG) fun w2 S2=>?_;have hB3:w1.heap.size≤w2.heap.size:=by have:=S2.Jx (.head _);have:=HSZ.out;simp only at *; omega
 go_upto_region 2 with fail;have S3:=(S2.less (ts':=[]) (fun _ h=>by cases h)).cX (tg 10 0 0 ⟨#[]⟩ none 0 0) (tg 10 0 0 ⟨#[]⟩ none 0 0) rfl _ rfl;generalize World.alloc w2 _=w3 at S3 ⊢;generalize w2.heap.size=B3 at S3 hB3 ⊢;clear S1 S2;have hC:=S3.dT 0 (by decide) [sLP] (by simp) #[.string ⟨#[40]⟩] rfl 1 rfl _ rfl;go_upto_if 15 with (go_at_call 124;refine hC.mono ?_;rintro e w4 ⟨rfl,S4⟩);clear hC S3;go_cut [] (fun wx=>∃ (x:T) (j:Nat) (k1 n1 a1:Int) (s1:ByteArray) (o1:Option Addr) (m1 c1:Nat),SV pb L w wx j [(B3,tg k1 n1 a1 s1 o1 m1 c1),(w.heap.size,zs5)] [(x,vT k1 n1 a1 s1 o1 m1 c1)]∧i≤j∧iA (lk L) inner a lab i=Aj (lk L) inner a lab x j)
 case first=>
  cases hs:sgn (lk L) i [sLP] with
  | true=>
   have HS:=hdq hs;clear hs;go_upto_block 3 with fail;refine(S4.aN (fV pb L i w4 S4.ps)).mono ?_;rintro e w5 (⟨x,hr,rfl,hg⟩|⟨t5,j5,k5,n5,a5,s5,o5,m5,c5,hr,rfl,S5⟩)
   ·unfold pan;go_wp2_with fail;exact⟨rfl,aD.err x (by simp[HU.out,aB,HS.out,hr]) hg⟩
   have H5:=hdq hr;clear hr;have h5:=eT (lk L) _ _ _ H5.out;have:=TV.facts (S5.facts 0 rfl)
   go_wp2
   go_meet
   case rel=>exact⟨t5,j5,_,_,_,_,_,_,_,S5.bN 0 rfl k5 n5 a5 s5 (.slice o5 m5 c5),by omega,by simp[HU.out,aB,HS.out,H5.out]⟩
  | false=>
   have HS:=hdq hs;clear hs
   go_wp2
   go_meet
   case rel=>exact⟨none_,i,_,_,_,_,_,_,_,S4.leaf 10 0 0 e0,Nat.le_refl _,by simp[HU.out,aB,HS.out]⟩
 case rest=>
  clear S4;obtain⟨x,j,k1,n1,a1,s1,o1,m1,c1,S4,hij,hq⟩:=hcut;have HU:=hdq hq;clear hq;go_upto_block 4 with fail;refine(S4.dR aS).mono ?_;rintro e w5 (⟨x,hr,rfl,hg⟩|⟨j5,hr,rfl,S5⟩)
  ·unfold pan;go_wp2_with fail;exact⟨rfl,aD.err x (by simp[HU.out,aB,Aj,hr]) hg⟩
  have H5:=hdq hr;clear hr;have h5:=aK (lk L) _ aS _ _ H5.out
  have hL0 : Lst w1 w5 (.slice (some ⟨B3, 0, none⟩) 1 1) [x] := Lst.ofVar S5 (S5.tr _ (.head _)) hB3 (fun b hb => by
    have := hb.1
    have := hb.2 (w.heap.size, zs5) (.tail _ (.head _))
    have := HSZ.out
    simp only at *; omega)
  have S6:=S5.drop;have HQ0:=hdq (show iA (lk L) inner a lab i=aB (gV (lk L) inner ((lk L).length+1) [x] j5) fun l j2=>lK (lk L) inner a lab l j2 by simp[HU.out,aB,Aj,H5.out]);clear S4 S5 HU;go_upto_region 5 with fail
  go_loopg [7] (L.length - j5) (fun g v wr=>∃ (l:List T) (jj q:Nat),Lst w1 wr v l∧SV pb L w wr jj [(w.heap.size,zs5)] []∧j5≤jj∧g=L.length - jj∧L.length+1≤q+jj∧l.length+j5≤jj+1∧iA (lk L) inner a lab i=aB (gV (lk L) inner q l jj) fun l j2=>lK (lk L) inner a lab l j2)
  case atStart=>exact⟨[x],j5,L.length+1,hL0,S6,Nat.le_refl _,rfl,by omega,by simp;omega,by rw[HQ0.out,List.length_map]⟩
  case round=>
   obtain⟨l,jj,q,hL,S0,hij2,hg,hq0,hlen,hq⟩:=hrel;have HQ:=hdq hq;have HG:=hdq hg;clear hq hg HQ0 S6 hL0;obtain⟨bo,cap,rfl⟩:=hL.form;have hjL:=S0.ps.le;have hwr:w1.heap.size≤wr.heap.size:=by have:=S0.Jx (.head _);have:=HSZ.out;simp only at *; omega
   obtain⟨q,rfl⟩:∃ q',q=q'+1:=⟨q - 1,by omega⟩
   have HE:=hdq (show ∀ (r:R T) (w':World) (x:Nat),r=.error x→wr.grownBy w' (some pb)→aD pb L w r (pan x) w' from fun r w' x h g=>aD.err x h (S0.ok.1.trans g));have T0:=SV.begin S0.ps
   cases hs:wrd (lk L) jj [sR] with
   | true=>
    have HQ2:=hdq (show iA (lk L) inner a lab i=aB (aB (aM (lk L) (jj+1) sLP) fun _ j=>aB (eD (lk L) 8 (bM (lk L)) j) fun l' j1=>aB (aM (lk L) j1 sRP) fun _ j2=>aB (inner j2) fun x j3=>gV (lk L) inner q (l++[node 21 jj (l'++[x])]) j3) fun l j2=>lK (lk L) inner a lab l j2 by rw[HQ.out,pS,if_pos hs]);have hjl:=zU hs;have hC:=T0.uC [sR] (by simp) #[.string ⟨#[87,72,69,78]⟩] rfl 1 rfl true hs;clear HQ hs;go_upto_region 6 with (go_at_call 155;refine hC.mono ?_;rintro e w4 ⟨rfl,T1⟩);clear hC;obtain⟨c1,f1⟩:=T1.ps.cells;go_upto_region 8 with fail;have T2:=T1.go (jj+1) (by omega) (.int .i64 ((jj:Int)+1)) rfl;generalize World.setCell w4 _ _=w5 at T2 ⊢;clear c1 f1;go_upto_block 8 with fail;refine(T2.dR sLP).mono ?_;rintro e w6 (⟨y,hr,rfl,hg⟩|⟨j6,hr,rfl,T6⟩)
    ·unfold pan;go_wp2_with fail;exact⟨rfl,HE.out _ _ y (by simp[aB,HQ2.out,hr]) hg⟩
    have H6:=hdq hr;clear hr;have h6:=aK (lk L) _ sLP _ _ H6.out;go_upto_block 9 with fail;refine(eI _ kH pb L 0 (bM (lk L)) (aV pb L) (bD (lk L)) 8 (by decide) (by decide) j6 (Nat.zero_le _) w6 T6.ps).mono ?_;intro e w7 hp
    rcases hp.split with ⟨l7,j7,o7,c7,hr,rfl,hL7,hok7⟩|⟨y,hr,rfl,hg⟩
    rotate_left
    ·unfold pan;go_wp2_with fail;exact⟨rfl,HE.out _ _ y (by simp[aB,HQ2.out,H6.out,hr]) (T6.ok.1.trans hg)⟩
    have H7:=hdq hr;clear hr hp;have h7:=dB (lk L) (bD (lk L)) 8 _ _ _ H7.out;have hw6:wr.heap.size≤w6.heap.size:=T6.ok.1.size;have hpl6:pb<w6.heap.size:=by omega
    have T7:=T6.step hok7;have U7:=SV.begin hok7.2;go_upto_block 10 with fail;refine(U7.dR sRP).mono ?_;rintro e w8 (⟨y,hr,rfl,hg⟩|⟨j8,hr,rfl,U8⟩)
    ·unfold pan;go_wp2_with fail;exact⟨rfl,HE.out _ _ y (by simp[aB,HQ2.out,H6.out,H7.out,hr]) (T7.ok.1.trans hg)⟩
    have H8:=hdq hr;clear hr;have h8:=aK (lk L) _ sRP _ _ H8.out;go_upto_block 11 with fail;refine(U8.aN (hI j8 w8 (by omega) U8.ps)).mono ?_;rintro e w9 (⟨y,hr,rfl,hg⟩|⟨t9,j9,k9,n9,a9,s9,o9,m9,c9,hr,rfl,U9⟩)
    ·unfold pan;go_wp2_with fail;exact⟨rfl,HE.out _ _ y (by simp[aB,HQ2.out,H6.out,H7.out,H8.out,hr]) (T7.ok.1.trans hg)⟩
    have H9:=hdq hr;clear hr;have h9:=up _ _ _ H9.out;have hL9:=hL7.step hpl6 U9.ok.1;have ht9:=TrC.beside hL7 hok7.1.size (U9.fr (.head _));have hok9:=hok7.trans U9.ok;have HQ3:=hdq (show iA (lk L) inner a lab i=aB (gV (lk L) inner q (l++[node 21 jj (l7++[t9])]) j9) fun l j2=>lK (lk L) inner a lab l j2 by simp[aB,HQ2.out,H6.out,H7.out,H8.out,H9.out]);clear HQ2;go_upto_block 11 with (at_builtin;go_loud (refine fL rfl _ _ rfl w6 w9 (.slice o7 l7.length c7) l7 rfl hL9 t9 (vT k9 n9 a9 s9 o9 m9 c9) ht9 rfl ?dd1 ?dd2 ?_))
    case dd1=>exact hok9.1.size
    case dd2=>exact Nat.le_trans (eW (by decide) H7.out) (by decide)
    intro v10 w10 hL10 hb10;have hok10:=hok9.new hpl6 hb10;obtain⟨bo10,cap10,rfl⟩:=hL10.form;rw[show (l7++[t9]).length=l7.length+1 by simp]at hL10;have T10:=((T6.step hok10).less (ts':=[]) (fun _ h=>by cases h)).QB hL10 hw6 (fun _ h=>by cases h) 21 0 jj e0;clear hL9 ht9 hok9 T7 U7 U8 U9;go_upto_block 11 with fail;refine(T10.dI 21 jj).mono ?_;rintro e w11 ⟨rfl,T11⟩;have hL11:=hL.step hpl1 T11.ok.1;have ht11:=TrC.beside hL hwr (T11.fr (.head _));go_wp2_with (at_builtin;go_loud (refine fL rfl _ _ rfl w1 w11 (.slice bo l.length cap) l rfl hL11 _ (vT 21 0 jj ⟨#[]⟩ bo10 (l7.length+1) cap10) ht11 rfl ?dd3 ?dd4 ?_))
    case dd3=>have:=T11.ok.1.size;omega
    case dd4=>omega
    intro v12 w12 hL12 hb12;have S12:=(S0.step T11.ok).Pb hw1 (AS (by have:=HSZ.out;omega)) hb12;have hj9:=T11.ps.le;go_wp2_with fail
    go_roundg (L.length - j9)
    case measure=>rw[HG.out];omega
    case rel=>exact⟨_,j9,q,hL12,S12,by omega,rfl,by omega,by rw[List.length_append];simp;omega,HQ3.out⟩
   | false=>
    have HQ2:=hdq (show iA (lk L) inner a lab i=lK (lk L) inner a lab l jj by rw[HQ.out,pS,if_neg (by rw[hs];decide)];rfl);have hC:=T0.uC [sR] (by simp) #[.string ⟨#[87,72,69,78]⟩] rfl 1 rfl false hs;clear HQ hs;go_upto_region 12 with (go_at_call 155;refine hC.mono ?_;rintro e w4 ⟨rfl,T1⟩);clear hC;obtain⟨c1,f1⟩:=T1.ps.cells;go_upto_region 13 with fail;clear c1 f1;have hC:=T1.wK [eZ,yK] (by simp) #[.string ⟨#[79,84,72,69,82,87,73,83,69]⟩,.string ⟨#[79,84,72,69,82]⟩] rfl 2 rfl _ rfl;go_upto_if 60 with (go_at_call 136;refine hC.mono ?_;rintro e w5 ⟨rfl,T5⟩);clear hC T1;go_cut [7] (fun v7 wx=>∃ (l2:List T) (j3:Nat),Lst w1 wx v7 l2∧SV pb L w wx j3 [(w.heap.size,zs5)] []∧iA (lk L) inner a lab i=aB (Cs (lk L) lab j3) fun _ j4=>.ok (node 20 a l2,j4))
    case first=>
     cases hs:wrd (lk L) jj [eZ,yK] with
     | true=>
      rw[hs]at T5;replace T5:SV pb L wr w5 (jj+1) _ _:=T5;have HS:=hdq hs;clear hs;go_upto_block 14 with fail;refine(T5.aN (hI (jj+1) w5 (by omega) T5.ps)).mono ?_;rintro e w9 (⟨y,hr,rfl,hg⟩|⟨t9,j9,k9,n9,a9,s9,o9,m9,c9,hr,rfl,T9⟩)
      ·unfold pan;go_wp2_with fail;exact⟨rfl,HE.out _ _ y (by simp[aB,HQ2.out,lK,HS.out,hr]) hg⟩
      have H9:=hdq hr;clear hr;have T10:=T9.lit (aW.one (T9.tr _ (.head _))) (tg k9 n9 a9 s9 o9 m9 c9) rfl 22 0 jj e0 1 1 rfl;go_upto_block 14 with fail;refine(T10.dI 22 jj).mono ?_;rintro e w11 ⟨rfl,T11⟩;have hL11:=hL.step hpl1 T11.ok.1;have ht11:=TrC.beside hL hwr (T11.fr (.head _));go_wp2_with (at_builtin;go_loud (refine fL rfl _ _ rfl w1 w11 (.slice bo l.length cap) l rfl hL11 _ (vT 22 0 jj ⟨#[]⟩ (some ⟨w9.heap.size,0,none⟩) 1 1) ht11 rfl ?dd3 ?dd4 ?_))
      case dd3=>have:=T11.ok.1.size;omega
      case dd4=>omega
      intro v12 w12 hL12 hb12;have S12:=(S0.step T11.ok).Pb hw1 (AS (by have:=HSZ.out;omega)) hb12
      go_wp2
      go_meet
      case rel=>exact⟨_,j9,hL12,S12,by simp[aB,HQ2.out,lK,HS.out,H9.out];rfl⟩
     | false=>
      rw[hs]at T5;replace T5:SV pb L wr w5 jj _ _:=T5;have HS:=hdq hs;clear hs
      go_wp2
      go_meet
      case rel=>exact⟨l,jj,hL.step hpl1 T5.ok.1,S0.step T5.ok,by simp[aB,HQ2.out,lK,HS.out]⟩
    case rest=>
     clear T5;obtain⟨l2,j3,hL2,S2,hq⟩:=hcut;have HU:=hdq hq;clear hq HQ2 HE;obtain⟨bo2,cap2,rfl⟩:=hL2.form;have U2:=SV.begin S2.ps;go_upto_block 15 with fail;refine(U2.Me (IG pb L lab j3 wc U2.ps)).mono ?_;rintro e w4 (⟨y,hr,rfl,hg⟩|⟨j4,hr,rfl,U4⟩)
     ·unfold pan;go_wp2_with fail;exact⟨rfl,aD.err y (by simp[aB,HU.out,hr]) (S2.ok.1.trans hg)⟩
     have H4:=hdq hr;clear hr;have hL4:=hL2.step hpl1 U4.ok.1;have S4:=(S2.step U4.ok).QB hL4 hw1 (AS (by have:=HSZ.out;omega)) 20 0 a e0;go_upto_block 16 with fail;refine m2q (S4.dI 20 a) fun w5 S5=>?_;have:=TV.facts (S5.facts 0 rfl);go_wp2_with fail;have S6:=S5.bN 0 rfl (.int .i64 20) (.int .i64 0) a (.string ⟨#[]⟩) (.slice bo2 l2.length cap2);refine rtv (S6.facts 0 rfl) Tryz.results182 ?_;exact S6.res (.head _) (by simp[aB,HU.out,H4.out]<;>rfl) rfl
theorem SV.xG{pb:Nat}{L:List T3}{w0 w:World}{j:Nat}{rv ts}{t:T}{k n a:Int}{s:ByteArray}{ao:Option Addr}{m c:Nat}(S:SV pb L w0 w j rv ((t,vT k n a s ao m c)::ts))(i:Nat){b:Nat}{x y z u v:Value}(hk:rv[i]?=some (b,[x,y,z,u,v])) :
 SV pb L w0 (st5 w b k n a s (.slice ao m c)) j (rv.set i (b,tg k n a s ao m c)) ((t,vT k n a s ao m c)::ts):=S.bN i hk _ _ _ _ _
theorem Gr(L:List Tk)(inner:Nat→R T)(a i:Nat):qA L inner a i =
 aB (bM L i) fun x j=>aB (gU L j [kY]) fun _ j1=>aB (inner j1) fun y j2=>
 if keyword L j2 [sY]then aB (inner (j2+1)) fun z j3=>.ok (node 23 a [x,y,z],j3)else .ok (node 23 a [x,y],j2):=rfl
theorem Ga(pb:Nat)(L:List T3)(lo:Nat)(inner:Nat→R T)(hI:Reads 220 pb L lo inner)(up:∀ i,Up (i+1) (inner i))(a:Nat)(lab:ByteArray)(i:Nat)(hi:lo≤i)(w:World)(h:PS w pb L i):Calls Tryz.prog 183 #[pq pb,a,lab] w (aD pb L w (qA (lk L) inner a i)):=by
 have HU:=hdq (Gr (lk L) inner a i);have hbd:=h.bd;go_enter Tryz.func183,Tryz.ntmps183;go_upto_region 1 with fail;have S1:=SV.new h;generalize World.alloc w _=w1 at S1 ⊢;go_upto_block 1 with fail;refine(S1.aN (aV pb L i w1 (Nat.zero_le _) S1.ps)).mono ?_;rintro e w2 (⟨x,hr,rfl,hg⟩|⟨t2,j2,k2,n2,a2,s2,o2,m2,c2,hr,rfl,S2⟩)
 ·unfold pan;go_wp2_with fail;exact⟨rfl,aD.err x (by simp[HU.out,aB,hr]) hg⟩
 have H2:=hdq hr;clear hr;go_upto_region 2 with fail;have S3:=S2.yV (tg k2 n2 a2 s2 o2 m2 c2);generalize World.alloc w2 _=w3 at S3 ⊢;generalize w2.heap.size=B3 at S3 ⊢;go_upto_block 2 with fail;refine(S3.pI [kY] (by simp) _ rfl 1 rfl).mono ?_;rintro e w4 (⟨x,hr,rfl,hg⟩|⟨j4,hr,rfl,S4⟩)
 ·unfold pan;go_wp2_with fail;exact⟨rfl,aD.err x (by simp[HU.out,aB,H2.out,hr]) hg⟩
 have H4:=hdq hr;clear hr;have h2:=bD (lk L) _ _ _ H2.out;have h4:=iM (lk L) _ _ _ _ H4.out;go_upto_region 3 with fail;go_cut [8] (fun v8 wx=>∃ (B8:Nat) (y:T) (j5:Nat) (ao:Option Addr),v8=.pointer (some ⟨B8,0,none⟩)∧SV pb L w wx j5 [(B8,tg 23 0 a ⟨#[]⟩ ao 2 2),(B3,tg k2 n2 a2 s2 o2 m2 c2),(w.heap.size,zs5)] [(node 23 a [t2,y],vT 23 0 a e0 ao 2 2)]∧(∃ B,ao=some ⟨B,0,none⟩)∧inner j4=.ok (y,j5))
 case first=>
  have S5:=S4.drew;refine wp_region_held_drew (S:=(fun w'=>TV w' B3 k2 n2 a2 s2 (.slice o2 m2 c2))) (by kernel_rfl) (S5.facts 0 rfl) (fun RY=>?_);generalize World.drew w4=w5 at *;refine tkH 0 ?_;refine tkH 1 ?_;refine tkH 2 ?_;refine rdH [3,6] ?_;refine cnH (fun Kx RZ=>?_) ?_
  ·go_simp;refine(S5.aN (hI j4 _ (by omega) S5.ps)).mono ?_;rintro e w6 (⟨x,hr,rfl,hg⟩|⟨t6,j6,k6,n6,a6,s6,o6,m6,c6,hr,rfl,S6⟩)
   ·unfold pan;exact⟨rfl,aD.err x (by simp[HU.out,aB,H2.out,H4.out,hr]) hg⟩
   have H6:=hdq hr;clear hr;refine goH RZ (S6.facts 0 rfl) fun RY=>?_;clear RZ Kx;refine rdH [4,6] ?_;refine cnH (fun Kx RZ=>?_) ?_
   ·have S7:=S6.lit (aW.two (S6.tr (t2,vT k2 n2 a2 s2 o2 m2 c2) (by simp)) (S6.tr (t6,vT k6 n6 a6 s6 o6 m6 c6) (.head _))) #[.int .i64 k2,.int .i64 n2,.int .i64 a2,.string s2,.slice o2 m2 c2,.int .i64 k6,.int .i64 n6,.int .i64 a6,.string s6,.slice o6 m6 c6] rfl 23 0 a e0 2 2 rfl;go_simp;refine goH RZ (S7.facts 0 rfl) fun RY=>?_;clear RZ Kx;generalize World.alloc _ (.cells #[.int .i64 k2,.int .i64 n2,.int .i64 a2,.string s2,.slice o2 m2 c2,.int .i64 k6,.int .i64 n6,.int .i64 a6,.string s6,.slice o6 m6 c6] 24)=w7 at S7 RY ⊢;refine rdH [5,6] ?_;refine cnH (fun Kx RZ=>?_) ?_
    ·go_simp;refine m2q (S7.dI 23 a) fun w8 S8=>?_;refine goH RZ (S8.facts 0 rfl) fun RY=>?_;clear RZ Kx;refine bA 6 fun Kx RZ=>?_;go_simp;have S9:=S8.cX zs5 z5q rfl _ rfl;refine goH RZ (S9.facts 1 rfl) fun RY=>?_;clear RZ Kx;generalize World.alloc _ (.cells z5q 24)=w9 at S9 RY ⊢;refine bA 7 fun Kx RZ=>?_;have:=TV.facts (S9.facts 0 rfl);have S10:=S9.xG 0 rfl;unfold st5 at S10;go_simp;refine goH RZ (S10.facts 1 rfl) fun RY=>?_;clear RZ Kx;refine cW ?_
     go_wp2
     go_meet
     case rel=>exact⟨_,t6,j6,_,rfl,S10.less (fun p hp=>by rw[List.mem_singleton.1 hp];exact .head _),⟨_,rfl⟩,H6.out⟩
    refine cnH (fun Kx RZ=>?_) AllReadyH.nil;go_simp;have S9:=S7.cX zs5 z5q rfl _ rfl;refine goH RZ (S9.facts 1 rfl) fun RY=>?_;clear RZ Kx;generalize World.alloc _ (.cells z5q 24)=w9 at S9 RY ⊢;refine bA 5 fun Kx RZ=>?_;go_simp;refine m2q (S9.dI 23 a) fun w8 S8=>?_;refine goH RZ (S8.facts 1 rfl) fun RY=>?_;clear RZ Kx;refine bA 7 fun Kx RZ=>?_;have:=TV.facts (S8.facts 0 rfl);have S10:=S8.xG 0 rfl;unfold st5 at S10;go_simp;refine goH RZ (S10.facts 1 rfl) fun RY=>?_;clear RZ Kx;refine cW ?_
    go_wp2
    go_meet
    case rel=>exact⟨_,t6,j6,_,rfl,S10.less (fun p hp=>by rw[List.mem_singleton.1 hp];exact .head _),⟨_,rfl⟩,H6.out⟩
   refine cnH (fun Kx RZ=>?_) AllReadyH.nil;go_simp;have S9:=S6.cX zs5 z5q rfl _ rfl;refine goH RZ (S9.facts 1 rfl) fun RY=>?_;clear RZ Kx;generalize World.alloc _ (.cells z5q 24)=w9 at S9 RY ⊢;refine bA 4 fun Kx RZ=>?_;have S7:=S9.lit (aW.two (S9.tr (t2,vT k2 n2 a2 s2 o2 m2 c2) (by simp)) (S9.tr (t6,vT k6 n6 a6 s6 o6 m6 c6) (.head _))) #[.int .i64 k2,.int .i64 n2,.int .i64 a2,.string s2,.slice o2 m2 c2,.int .i64 k6,.int .i64 n6,.int .i64 a6,.string s6,.slice o6 m6 c6] rfl 23 0 a e0 2 2 rfl;go_simp;refine goH RZ (S7.facts 1 rfl) fun RY=>?_;clear RZ Kx;generalize World.alloc _ (.cells #[.int .i64 k2,.int .i64 n2,.int .i64 a2,.string s2,.slice o2 m2 c2,.int .i64 k6,.int .i64 n6,.int .i64 a6,.string s6,.slice o6 m6 c6] 24)=w7 at S7 RY ⊢;refine bA 5 fun Kx RZ=>?_;go_simp;refine m2q (S7.dI 23 a) fun w8 S8=>?_;refine goH RZ (S8.facts 1 rfl) fun RY=>?_;clear RZ Kx;refine bA 7 fun Kx RZ=>?_;have:=TV.facts (S8.facts 0 rfl);have S10:=S8.xG 0 rfl;unfold st5 at S10;go_simp;refine goH RZ (S10.facts 1 rfl) fun RY=>?_;clear RZ Kx;refine cW ?_
   go_wp2
   go_meet
   case rel=>exact⟨_,t6,j6,_,rfl,S10.less (fun p hp=>by rw[List.mem_singleton.1 hp];exact .head _),⟨_,rfl⟩,H6.out⟩
  refine cnH (fun Kx RZ=>?_) AllReadyH.nil;go_simp;have S9:=S5.cX zs5 z5q rfl _ rfl;refine goH RZ (S9.facts 1 rfl) fun RY=>?_;clear RZ Kx;generalize World.alloc _ (.cells z5q 24)=w9 at S9 RY ⊢;refine bA 3 fun Kx RZ=>?_;go_simp;refine(S9.aN (hI j4 _ (by omega) S9.ps)).mono ?_;rintro e w6 (⟨x,hr,rfl,hg⟩|⟨t6,j6,k6,n6,a6,s6,o6,m6,c6,hr,rfl,S6⟩)
  ·unfold pan;exact⟨rfl,aD.err x (by simp[HU.out,aB,H2.out,H4.out,hr]) hg⟩
  have H6:=hdq hr;clear hr;refine goH RZ (S6.facts 1 rfl) fun RY=>?_;clear RZ Kx;refine bA 4 fun Kx RZ=>?_;have S7:=S6.lit (aW.two (S6.tr (t2,vT k2 n2 a2 s2 o2 m2 c2) (by simp)) (S6.tr (t6,vT k6 n6 a6 s6 o6 m6 c6) (.head _))) #[.int .i64 k2,.int .i64 n2,.int .i64 a2,.string s2,.slice o2 m2 c2,.int .i64 k6,.int .i64 n6,.int .i64 a6,.string s6,.slice o6 m6 c6] rfl 23 0 a e0 2 2 rfl;go_simp;refine goH RZ (S7.facts 1 rfl) fun RY=>?_;clear RZ Kx;generalize World.alloc _ (.cells #[.int .i64 k2,.int .i64 n2,.int .i64 a2,.string s2,.slice o2 m2 c2,.int .i64 k6,.int .i64 n6,.int .i64 a6,.string s6,.slice o6 m6 c6] 24)=w7 at S7 RY ⊢;refine bA 5 fun Kx RZ=>?_;go_simp;refine m2q (S7.dI 23 a) fun w8 S8=>?_;refine goH RZ (S8.facts 1 rfl) fun RY=>?_;clear RZ Kx;refine bA 7 fun Kx RZ=>?_;have:=TV.facts (S8.facts 0 rfl);have S10:=S8.xG 0 rfl;unfold st5 at S10;go_simp;refine goH RZ (S10.facts 1 rfl) fun RY=>?_;clear RZ Kx;refine cW ?_
  go_wp2
  go_meet
  case rel=>exact⟨_,t6,j6,_,rfl,S10.less (fun p hp=>by rw[List.mem_singleton.1 hp];exact .head _),⟨_,rfl⟩,H6.out⟩
 case rest=>
  obtain⟨B8,y,j5,ao,rfl,S5,⟨B,rfl⟩,hq⟩:=hcut;have H5:=hdq hq;clear hq S4 S3 S2 S1;have h5:=up _ _ _ H5.out
  cases hs:keyword (lk L) j5 [sY] with
  | false=>
   have hC:=S5.kwC [sY] (by simp) #[.string ⟨#[69,76,83,69]⟩] rfl 1 rfl false hs;have HS:=hdq hs;clear hs;go_upto_region 7 with (go_at_call 137;refine hC.mono ?_;rintro e w6 ⟨rfl,S6⟩);have:=TV.facts (S6.facts 0 rfl);have:=TV.facts (S6.facts 2 rfl);go_wp2_with fail;have S7:=S6.bN 2 rfl (.int .i64 23) (.int .i64 0) a (.string ⟨#[]⟩) (.slice (some ⟨B,0,none⟩) 2 2);refine rtv (S7.facts 2 rfl) Tryz.results183 ?_;exact S7.res (.head _) (by simp[HU.out,aB,H2.out,H4.out,H5.out,HS.out]<;>rfl) rfl
  | true=>
   have hC:=S5.kwC [sY] (by simp) #[.string ⟨#[69,76,83,69]⟩] rfl 1 rfl true hs;have hjl:j5<L.length:=by
    unfold keyword at hs;simp only[Bool.and_eq_true]at hs
    exact zU hs.1.1
   have HS:=hdq hs;clear hs;go_upto_region 5 with (go_at_call 137;refine hC.mono ?_;rintro e w6 ⟨rfl,S6⟩);obtain⟨c1,f1⟩:=S6.ps.cells;go_upto_region 6 with fail;have S7:=S6.go (j5+1) (by omega) (.int .i64 ((j5:Int)+1)) rfl;generalize World.setCell w6 _ _=w7 at S7 ⊢;clear c1 f1;refine wp_region_any (by kernel_rfl) ?_;change wpAny _ _ _ _ _ _ _ (World.drew _);have S8:=S7.drew;generalize World.drew w7=w8 at S8 ⊢;have:=TV.facts (S8.facts 0 rfl);refine tkA 0 ?_;refine tkA 2 ?_;refine rdA [1,3] ?_;refine cnA (fun Kx RZ=>?_) ?_
   ·go_simp;refine RZ _ _ ?_;clear RZ Kx;refine dG 3 fun Kx RZ=>?_;go_simp;refine(S8.aN (hI (j5+1) _ (by omega) S8.ps)).mono ?_;rintro e w9 (⟨x,hr,rfl,hg⟩|⟨t9,j9,k9,n9,a9,s9,o9,m9,c9,hr,rfl,S9⟩)
    ·unfold pan;exact⟨rfl,aD.err x (by simp[HU.out,aB,H2.out,H4.out,H5.out,HS.out,hr]) hg⟩
    have H9:=hdq hr;clear hr;have:=TV.facts (S9.facts 0 rfl);refine RZ _ _ ?_;clear RZ Kx;refine dG 4 fun Kx RZ=>?_;have S10:=S9.lit (aW.one (S9.tr (t9,vT k9 n9 a9 s9 o9 m9 c9) (.head _))) (tg k9 n9 a9 s9 o9 m9 c9) rfl 40 0 0 e0 1 1 rfl;have:=TV.facts (S10.facts 0 rfl);go_simp;refine RZ _ _ ?_;clear RZ Kx;refine dG 5 fun Kx RZ=>?_;refine bV (by kernel_rfl) (.tmp 31) (.tmp 34) rfl S10 (.tail _ (.tail _ (.head _))) (.head _) (by decide) (by decide) 23 0 a e0 (by decide) rfl rfl (fun ao11 c11 w11 S11=>?_);have:=TV.facts (S11.facts 0 rfl);refine RZ _ _ ?_;clear RZ Kx;refine tkA 6 ?_;refine dG 7 fun Kx RZ=>?_;have S12:=S11.put 0 rfl 4 (.slice ao11 (2+1) c11) (by simp);go_simp;refine RZ _ _ ?_;clear RZ Kx;refine fX ?_;go_upto_region 7 with fail;generalize World.setCell _ ⟨B8,4,none⟩ _=w12 at S12 ⊢;have:=TV.facts (S12.facts 0 rfl);have:=TV.facts (S12.facts 2 rfl);go_wp2_with fail;have S13:=S12.bN 2 rfl (.int .i64 23) (.int .i64 0) a (.string ⟨#[]⟩) (.slice ao11 (2+1) c11);refine rtv (S13.facts 2 rfl) Tryz.results183 ?_;exact S13.res (.head _) (by simp[HU.out,aB,H2.out,H4.out,H5.out,HS.out,H9.out]<;>rfl) rfl
   refine cnA (fun Kx RZ=>?_) AllReady.nil;go_simp;refine(S8.aN (hI (j5+1) _ (by omega) S8.ps)).mono ?_;rintro e w9 (⟨x,hr,rfl,hg⟩|⟨t9,j9,k9,n9,a9,s9,o9,m9,c9,hr,rfl,S9⟩)
   ·unfold pan;exact⟨rfl,aD.err x (by simp[HU.out,aB,H2.out,H4.out,H5.out,HS.out,hr]) hg⟩
   have H9:=hdq hr;clear hr;have:=TV.facts (S9.facts 0 rfl);refine RZ _ _ ?_;clear RZ Kx;refine rdA [1,4] ?_;refine cnA (fun Kx RZ=>?_) ?_
   ·go_simp;refine RZ _ _ ?_;clear RZ Kx;refine dG 4 fun Kx RZ=>?_;have S10:=S9.lit (aW.one (S9.tr (t9,vT k9 n9 a9 s9 o9 m9 c9) (.head _))) (tg k9 n9 a9 s9 o9 m9 c9) rfl 40 0 0 e0 1 1 rfl;have:=TV.facts (S10.facts 0 rfl);go_simp;refine RZ _ _ ?_;clear RZ Kx;refine dG 5 fun Kx RZ=>?_;refine bV (by kernel_rfl) (.tmp 31) (.tmp 34) rfl S10 (.tail _ (.tail _ (.head _))) (.head _) (by decide) (by decide) 23 0 a e0 (by decide) rfl rfl (fun ao11 c11 w11 S11=>?_);have:=TV.facts (S11.facts 0 rfl);refine RZ _ _ ?_;clear RZ Kx;refine tkA 6 ?_;refine dG 7 fun Kx RZ=>?_;have S12:=S11.put 0 rfl 4 (.slice ao11 (2+1) c11) (by simp);go_simp;refine RZ _ _ ?_;clear RZ Kx;refine fX ?_;go_upto_region 7 with fail;generalize World.setCell _ ⟨B8,4,none⟩ _=w12 at S12 ⊢;have:=TV.facts (S12.facts 0 rfl);have:=TV.facts (S12.facts 2 rfl);go_wp2_with fail;have S13:=S12.bN 2 rfl (.int .i64 23) (.int .i64 0) a (.string ⟨#[]⟩) (.slice ao11 (2+1) c11);refine rtv (S13.facts 2 rfl) Tryz.results183 ?_;exact S13.res (.head _) (by simp[HU.out,aB,H2.out,H4.out,H5.out,HS.out,H9.out]<;>rfl) rfl
   refine cnA (fun Kx RZ=>?_) AllReady.nil;have S10:=S9.lit (aW.one (S9.tr (t9,vT k9 n9 a9 s9 o9 m9 c9) (.head _))) (tg k9 n9 a9 s9 o9 m9 c9) rfl 40 0 0 e0 1 1 rfl;have:=TV.facts (S10.facts 0 rfl);go_simp;refine RZ _ _ ?_;clear RZ Kx;refine dG 1 fun Kx RZ=>?_;go_simp;refine RZ _ _ ?_;clear RZ Kx;refine dG 5 fun Kx RZ=>?_;refine bV (by kernel_rfl) (.tmp 31) (.tmp 34) rfl S10 (.tail _ (.tail _ (.head _))) (.head _) (by decide) (by decide) 23 0 a e0 (by decide) rfl rfl (fun ao11 c11 w11 S11=>?_);have:=TV.facts (S11.facts 0 rfl);refine RZ _ _ ?_;clear RZ Kx;refine tkA 6 ?_;refine dG 7 fun Kx RZ=>?_;have S12:=S11.put 0 rfl 4 (.slice ao11 (2+1) c11) (by simp);go_simp;refine RZ _ _ ?_;clear RZ Kx;refine fX ?_;go_upto_region 7 with fail;generalize World.setCell _ ⟨B8,4,none⟩ _=w12 at S12 ⊢;have:=TV.facts (S12.facts 0 rfl);have:=TV.facts (S12.facts 2 rfl);go_wp2_with fail;have S13:=S12.bN 2 rfl (.int .i64 23) (.int .i64 0) a (.string ⟨#[]⟩) (.slice ao11 (2+1) c11);refine rtv (S13.facts 2 rfl) Tryz.results183 ?_;exact S13.res (.head _) (by simp[HU.out,aB,H2.out,H4.out,H5.out,HS.out,H9.out]<;>rfl) rfl
def onQ(L:List Tk)(inner:Nat→R T)(a:Nat)(pre:Bool)(i:Nat):R T:=
 aB (pD L (!pre) i) fun c j=>if keyword L j [jQ]then aG L (node 32 a [c,node 33 j []]) (j+1)else aB (inner j) fun x j1=>.ok (node 32 a [c,x],j1)
theorem Po(L:List Tk)(inner:Nat→R T)(a i:Nat):onP L inner a i=onQ L inner a (sgn L (i+1) [sLP]&&!(isName L (i+2)&&sgn L (i+3) [sRP]&&!sgn L (i+4) [bY])) i:=rfl
theorem OU(pb:Nat)(L:List T3)(lo:Nat)(inner:Nat→R T)(hI:Reads 220 pb L lo inner)(up:∀ i,Up (i+1) (inner i))(a:Nat)(lab:ByteArray)(i:Nat)(hi:lo≤i)(w:World)(h:PS w pb L i):Calls Tryz.prog 191 #[pq pb,a,lab] w (aD pb L w (onP (lk L) inner a i)):=by
 rw[Po];have hbd:=h.bd;have hf0:=pG;have hnot:∀ (x:Bool) (w:World),(Op.unary .not (.bool x)).run Tryz.prog w=.ok (.bool (!x)) w:=fun _ _=>rfl
 generalize hpre:(sgn (lk L) (i+1) [sLP]&&!(isName (lk L) (i+2)&&sgn (lk L) (i+3) [sRP]&&!sgn (lk L) (i+4) [bY]))=pre;have HP:=hdq hpre;have HU:=hdq (show onQ (lk L) inner a pre i=onQ (lk L) inner a pre i from rfl);clear hpre;go_enter Tryz.func191,Tryz.ntmps191;go_upto_region 1 with fail;have S1:=SV.new h;generalize World.alloc w _=w1 at S1 ⊢;go_cut [7] (fun v7 wx=>v7=.bool pre∧SV pb L w wx i [(w.heap.size,zs5)] [])
 case first=>
  go_upto_block 1 with fail;refine m2q (S1.dT 1 (by decide) [sLP] (by decide) #[.string ⟨#[40]⟩] rfl 1 rfl _ rfl) fun w2 S2=>?_
  cases hs1:sgn (lk L) (i+1) [sLP] with
  | false=>
   have hp:=HP.out;rw[hs1]at hp;simp only[Bool.false_and]at hp
   subst hp;clear hs1
   go_wp2
   go_meet
   case rel=>exact⟨rfl,S2⟩
  | true=>
   have HS1:=hdq hs1;clear hs1;have hT:=aX pb L i 2 (by decide) w2 S2.ps
   by_cases hk:(tok (lk L) (i+2)).kind=1
   ·rw[show (tok (L.map T3.tk) (i+2)).kind=1 from hk]at hT;have HK:=hdq hk;clear hk;go_upto_block 1 with fail;refine(S2.aQ (E:=fun e=>∃ p:Int,e=_) hT).mono ?_;rintro e w3 ⟨⟨p,rfl⟩,S3⟩;go_upto_block 1 with fail;refine m2q (S3.dT 3 (by decide) [sRP] (by decide) #[.string ⟨#[41]⟩] rfl 1 rfl _ rfl) fun w4 S4=>?_
    cases hs3:sgn (lk L) (i+3) [sRP] with
    | false=>
     have hp:=HP.out;rw[HS1.out,hs3]at hp
     simp at hp
     subst hp;clear hs3
     go_wp2
     go_meet
     case rel=>exact⟨rfl,S4⟩
    | true=>
     have HS3:=hdq hs3;clear hs3;go_upto_block 1 with fail;refine m2q (S4.dT 4 (by decide) [bY] (by decide) #[.string ⟨#[58]⟩] rfl 1 rfl _ rfl) fun w5 S5=>?_
     cases hs4:sgn (lk L) (i+4) [bY] with
     | false=>
      have hp:=HP.out;rw[HS1.out,HS3.out,hs4]at hp;unfold isName at hp;rw[HK.out]at hp
      simp at hp
      subst hp;clear hs4
      go_wp2
      go_meet
      case rel=>exact⟨rfl,S5⟩
     | true=>
      have hp:=HP.out;rw[HS1.out,HS3.out,hs4]at hp
      simp at hp
      subst hp;clear hs4
      go_wp2
      go_meet
      case rel=>exact⟨rfl,S5⟩
   ·have hp:=HP.out;rw[HS1.out,show isName (lk L) (i+2)=false by unfold isName;simpa using hk]at hp
    simp at hp
    subst hp;generalize hkk:(tok (lk L) (i+2)).kind=tk at hk;rw[show (tok (L.map T3.tk) (i+2)).kind=tk from hkk]at hT;clear hkk;have hd:decide (tk=1)=false:=decide_eq_false hk;go_upto_block 1 with fail;refine(S2.aQ (E:=fun e=>∃ p:Int,e=_) hT).mono ?_;rintro e w3 ⟨⟨p,rfl⟩,S3⟩
    go_wp2
    go_meet
    case rel=>exact⟨rfl,S3⟩
 case rest=>
  clear S1 HP;obtain⟨rfl,S2⟩:=hcut;go_upto_block 2 with fail;refine(S2.aN (lR pb L (!pre) i wc S2.ps)).mono ?_;rintro e w3 (⟨x,hr,rfl,hg⟩|⟨t3,j3,k3,n3,a3,s3,o3,m3,c3,hr,rfl,S3⟩)
  ·unfold pan;go_wp2_with fail;exact⟨rfl,aD.err x (by simp[HU.out,aB,onQ,hr]) hg⟩
  have H3:=hdq hr;clear hr;have h3:=oY (lk L) _ _ _ _ H3.out;go_upto_region 3 with fail;have S4:=S3.yV (tg k3 n3 a3 s3 o3 m3 c3);generalize World.alloc w3 _=w4 at S4 ⊢;generalize w3.heap.size=B4 at S4 ⊢
  cases hs:keyword (lk L) j3 [jQ] with
  | true=>
   have hC:=S4.kwC [jQ] (by simp) #[.string ⟨#[83,89,83,84,69,77]⟩] rfl 1 rfl true hs;have hjl:j3<L.length:=by
    unfold keyword at hs;simp only[Bool.and_eq_true]at hs
    exact zU hs.1.1
   have HS:=hdq hs;clear hs;go_upto_region 4 with (go_at_call 137;refine hC.mono ?_;rintro e w5 ⟨rfl,S5⟩);obtain⟨c1,f1⟩:=S5.ps.cells;have S6:=S5.leaf 33 0 j3 e0;go_upto_region 5 with (go_at_call 97;refine(S6.dI 33 j3).mono ?_;rintro e w6 ⟨rfl,S7⟩);clear c1 f1;have S8:=S7.yV (tg 33 0 j3 ⟨#[]⟩ none 0 0);generalize World.alloc w6 _=w8 at S8 ⊢;generalize w6.heap.size=B8 at S8 ⊢;obtain⟨c1,f1⟩:=S8.ps.cells;go_upto_region 6 with fail;have S9:=S8.go (j3+1) (by omega) (.int .i64 ((j3:Int)+1)) rfl;generalize World.setCell w8 _ _=w9 at S9 ⊢;clear c1 f1;have:=TV.facts (S9.facts 0 rfl);have:=TV.facts (S9.facts 1 rfl);have S10:=S9.lit (aW.two (S9.tr (t3,vT k3 n3 a3 s3 o3 m3 c3) (.tail _ (.head _))) (S9.tr _ (.head _))) #[.int .i64 k3,.int .i64 n3,.int .i64 a3,.string s3,.slice o3 m3 c3,.int .i64 33,.int .i64 0,.int .i64 j3,.string ⟨#[]⟩,.slice none 0 0] rfl 32 0 a e0 2 2 rfl;go_upto_block 6 with fail;refine m2q (S10.dI 32 a) fun w11 S11=>?_;go_upto_block 6 with fail;refine(S11.gX 32 0 a ⟨#[]⟩ (some ⟨w9.heap.size,0,none⟩) 2 2).mono ?_;rintro e wz (⟨x,hr,rfl,hg⟩|⟨jz,hr,rfl,Sz⟩)
   ·unfold pan;go_wp2_with fail;exact⟨rfl,aD.err x (by simp[HU.out,aB,onQ,aG,H3.out,HS.out,hr]) hg⟩
   have Hz:=hdq hr;clear hr;have:=TV.facts (Sz.facts 2 rfl);go_wp2_with fail;have Sy:=Sz.bN 2 rfl (.int .i64 32) (.int .i64 0) a (.string ⟨#[]⟩) (.slice (some ⟨w9.heap.size,0,none⟩) 2 2);refine rtv (Sy.facts 2 rfl) Tryz.results191 ?_;exact Sy.res (.head _) (by simp[HU.out,aB,onQ,aG,H3.out,HS.out,Hz.out]<;>rfl) rfl
  | false=>
   have hC:=S4.kwC [jQ] (by simp) #[.string ⟨#[83,89,83,84,69,77]⟩] rfl 1 rfl false hs;have HS:=hdq hs;clear hs;go_upto_region 7 with (go_at_call 137;refine hC.mono ?_;rintro e w5 ⟨rfl,S5⟩);have S6:=S5.drew;refine wp_region_held_drew (S:=(fun w'=>TV w' B4 k3 n3 a3 s3 (.slice o3 m3 c3))) (by kernel_rfl) (S6.facts 0 rfl) (fun RY=>?_);generalize World.drew w5=w6 at *;refine tkH 0 ?_;refine tkH 1 ?_;refine tkH 2 ?_;refine bA 3 fun Kx RZ=>?_;go_simp;refine(S6.aN (hI j3 _ (by omega) S6.ps)).mono ?_;rintro e w7 (⟨x,hr,rfl,hg⟩|⟨t7,j7,k7,n7,a7,s7,o7,m7,c7,hr,rfl,S7⟩)
   ·unfold pan;exact⟨rfl,aD.err x (by simp[HU.out,aB,onQ,aG,H3.out,HS.out,hr]) hg⟩
   have H7:=hdq hr;clear hr;refine goH RZ (S7.facts 0 rfl) fun RY=>?_;clear RZ Kx;refine bA 4 fun Kx RZ=>?_;have S8:=S7.lit (aW.two (S7.tr (t3,vT k3 n3 a3 s3 o3 m3 c3) (.tail _ (.head _))) (S7.tr _ (.head _))) #[.int .i64 k3,.int .i64 n3,.int .i64 a3,.string s3,.slice o3 m3 c3,.int .i64 k7,.int .i64 n7,.int .i64 a7,.string s7,.slice o7 m7 c7] rfl 32 0 a e0 2 2 rfl;go_simp;refine goH RZ (S8.facts 0 rfl) fun RY=>?_;clear RZ Kx;refine bA 5 fun Kx RZ=>?_;go_simp;refine m2q (S8.dI 32 a) fun w9 S9=>?_;refine goH RZ (S9.facts 0 rfl) fun RY=>?_;clear RZ Kx;refine bA 6 fun Kx RZ=>?_;have:=TV.facts (S9.facts 1 rfl);have S10:=S9.xG 1 rfl;unfold st5 at S10;go_simp;refine goH RZ (S10.facts 0 rfl) fun RY=>?_;clear RZ Kx;refine cW ?_;go_wp2_with fail;refine rtv (S10.facts 1 rfl) Tryz.results191 ?_;exact S10.res (.head _) (by simp[HU.out,aB,onQ,aG,H3.out,HS.out,H7.out]<;>rfl) rfl
end
end Go.Proofs.YtfdlmcgcckkkdaaGreatDoor
