/- Part 43. -/
import Derived.Test.YtikalomcclefiaaGreatDoorV42
import Derived.Test.YtikalomcclefiaaGreatDoorV14
set_option linter.all false
set_option maxHeartbeats 0
set_option maxRecDepth 100000
namespace Go.Proofs.YtikalomcclefiaaGreatDoor
section
open Go.RowKit Lx Px
def axW(pb:Nat)(L:List T3)(lo f:Nat):Prop:=∀ (inr:Bool) (label:dL) (i:Nat) (w:World),lo<=i->PS w pb L i->
 AAA 114 #[pq pb,.bool inr,label] w (aU pb L w (jG (lk L) f inr label i))
def LR(L:List Tk)(lab:Bool->ByteArray->Nat->R T)(inr:Bool)(i:Nat):cH L lab inr i =
 if cD L i [cJ]then aH (eR L 4 (mI L) (i+1)) λl j=>aH (aW L j dA) λ_ j1=>aH (aW L j1 cU) λ_ j2=>aH (lab inr e0 j2) λx j3=>.ok (node 13 i (l++[x]),j3)
 else lab inr e0 i:=rfl
section
variable(pb:Nat)(L:List T3)(lo f:Nat)(hL:axW pb L lo f)
include pb L lo f hL
theorem MM(inr:Bool)(i:Nat)(w:World)(hi:lo<=i)(h:PS w pb L i):AAA 74 #[pq pb,.bool inr] w (aU pb L w (cH (lk L) (jG (lk L) f) inr i)):=by
 have hbd:=h.bd;have hnot:∀ (x:Bool) (w:World),(Op.unary .not (.bool x)).run Tryz.prog w=.ok (.bool (!x)) w:=λ_ _=>rfl
 cases hs:cD (lk L) i [cJ] with
 | false=>
  have HU:=aN (show cH (lk L) (jG (lk L) f) inr i=jG (lk L) f inr e0 i by rw[LR,aC AD]);go_in;go_upto_region 1 with fail;have S1:=SV.new h;generalize World.alloc w _=w1 at S1 ⊢;have hC:=S1.oN 0 aD [cJ] aI #[.string ⟨#[40]⟩] rfl 1 rfl false hs;clear hs;go_upto_region 2 with (go_at_call 112;refine hC.mono ?_;rintro e w2 ⟨rfl,S2⟩);go_upto_block 2 with fail;refine(S2.eK (hL inr e0 i w2 hi S2.ps)).mono ?_;rintro e w3 (⟨x,hr,rfl,hg⟩|⟨t3,j3,k3,n3,a3,s3,o3,m3,c3,hr,rfl,S3⟩)
  ·exact jQ
  have H3:=aN hr;clear hr;have:=AAD (S3.facts 0 rfl);go_wp2_with fail;have S4:=S3.fY 0 rfl k3 n3 a3 s3 (.slice o3 m3 c3);refine nX (S4.facts 0 rfl) Tryz.results74 ?_;exact S4.res (.head _) (by simp[HU.out,aH,H3.out]<;>rfl) rfl
 | true=>
  have HU:=aN (show cH (lk L) (jG (lk L) f) inr i=aH (eR (lk L) 4 (mI (lk L)) (i+1)) λl j=>aH (aW (lk L) j dA) λ_ j1=>aH (aW (lk L) j1 cU) λ_ j2=>aH (jG (lk L) f inr e0 j2) λx j3=>.ok (node 13 i (l++[x]),j3)by rw[LR,aF hs]);have hjl:=zE hs;go_in;go_upto_region 1 with fail;have S1:=SV.new h;generalize World.alloc w _=w1 at S1 ⊢;have hC:=S1.oN 0 aD [cJ] aI #[.string ⟨#[40]⟩] rfl 1 rfl true hs;clear hs;go_upto_region 3 with (go_at_call 112;refine hC.mono ?_;rintro e w2 ⟨rfl,S2⟩);obtain⟨c1,f1⟩:=S2.ps.cells;go_upto_region 5 with fail;have T2:=S2.go (i+1) aB (iq ((i:Int)+1)) rfl;generalize World.setCell w2 _ _=w5 at T2 ⊢;clear c1 f1;have hw5:w.heap.size<w5.heap.size:=T2.anR (.head _);have hpl:pb<w5.heap.size:=by have:=h.lt;omega
  go_upto_block 5 with fail;refine(rK _ aoJ pb L 0 (mI (lk L)) (λi w _ h=>Ka pb L i w h) (oX (lk L)) 4 aD aD (i+1) (aS _) w5 T2.ps).mono ?_;intro e w7 hp
  rcases hp.split with ⟨l7,j7,o7,c7,hr,rfl,hL7,hok7⟩|⟨y,hr,rfl,hg⟩
  rotate_left
  ·unfold gM;go_wp2_with fail;exact⟨rfl,aU.err y (by simp[aH,HU.out,hr]) (T2.ok.1.trans hg)⟩
  have H7:=aN hr;clear hr hp;have h7:=iZ (lk L) (oX (lk L)) 4 _ _ _ H7.out;have T7:=T2.step hok7;have U7:=SV.begin hok7.2;go_upto_block 6 with fail;refine(U7.kG dA).mono ?_;rintro e w8 (⟨y,hr,rfl,hg⟩|⟨j8,hr,rfl,U8⟩)
  ·unfold gM;go_wp2_with fail;exact⟨rfl,aU.err y (by simp[aH,HU.out,H7.out,hr]) (T7.ok.1.trans hg)⟩
  have H8:=aN hr;clear hr;have h8:=bM (lk L) _ dA _ _ H8.out;go_upto_block 7 with fail;refine(U8.kG cU).mono ?_;rintro e w9 (⟨y,hr,rfl,hg⟩|⟨j9,hr,rfl,U9⟩)
  ·unfold gM;go_wp2_with fail;exact⟨rfl,aU.err y (by simp[aH,HU.out,H7.out,H8.out,hr]) (T7.ok.1.trans hg)⟩
  have H9:=aN hr;clear hr;have h9:=bM (lk L) _ cU _ _ H9.out;go_upto_block 8 with fail;refine(U9.eK (hL inr e0 j9 w9 aB U9.ps)).mono ?_;rintro e w10 (⟨y,hr,rfl,hg⟩|⟨t10,j10,k10,n10,a10,s10,o10,m10,c10,hr,rfl,U10⟩)
  ·unfold gM;go_wp2_with fail;exact⟨rfl,aU.err y (by simp[aH,HU.out,H7.out,H8.out,H9.out,hr]) (T7.ok.1.trans hg)⟩
  have H10:=aN hr;clear hr;have hL10:=hL7.step hpl U10.ok.1;have ht10:=iB.beside hL7 hok7.1.size (U10.fr (.head _));have hok10:=hok7.trans U10.ok;have HQ3:=aN (show cH (lk L) (jG (lk L) f) inr i=.ok (node 13 i (l7++[t10]),j10)by simp[aH,HU.out,H7.out,H8.out,H9.out,H10.out]);go_upto_block 8 with (at_builtin;go_loud (refine qJ rfl _ _ rfl w5 w10 (.slice o7 l7.length c7) l7 rfl hL10 t10 (vT k10 n10 a10 s10 o10 m10 c10) ht10 rfl ?dd1 ?dd2 ?_))
  case dd1=>exact hok10.1.size
  case dd2=>exact Rf
  intro v11 w11 hL11 hb11;have hok11:=hok10.new hpl hb11;obtain⟨bo11,cap11,rfl⟩:=hL11.form;rw[show (l7++[t10]).length=l7.length+1 by simp]at hL11;have T11:=((T2.step hok11).less (ts':=[]) (λ_ h=>by cases h)).aHD hL11 (iH hw5) (UD hw5) 13 0 i e0;clear hL10 ht10 hok10 T7 U7 U8 U9 U10;go_upto_block 8 with fail;refine(T11.pG 13 i).mono ?_;rintro e w12 ⟨rfl,T12⟩;have:=AAD (T12.facts 0 rfl);go_wp2_with fail;have T13:=T12.fY 0 rfl (iq 13) (iq 0) i (.string ⟨#[]⟩) (.slice bo11 (l7.length+1) cap11);refine nX (T13.facts 0 rfl) Tryz.results74 ?_;exact T13.res (.head _) HQ3.out rfl
theorem Kz:Reads 46 pb L lo (cH (lk L) (jG (lk L) f) false):=by
 intro i w hi h;have HU:=aN (show cH (lk L) (jG (lk L) f) false i=cH (lk L) (jG (lk L) f) false i from rfl);go_in;go_upto_region 1 with fail;have S1:=SV.new h;generalize World.alloc w _=w1 at S1 ⊢;go_upto_block 1 with fail;refine(S1.eK (MM pb L lo f hL false i w1 hi S1.ps)).mono ?_;rintro e w3 (⟨x,hr,rfl,hg⟩|⟨t3,j3,k3,n3,a3,s3,o3,m3,c3,hr,rfl,S3⟩)
 ·exact jQ
 have H3:=aN hr;clear hr;have:=AAD (S3.facts 0 rfl);go_wp2_with fail;have S4:=S3.fY 0 rfl k3 n3 a3 s3 (.slice o3 m3 c3);refine nX (S4.facts 0 rfl) Tryz.results46 ?_;exact DQ
theorem avD:Reads 208 pb L lo (cH (lk L) (jG (lk L) f) true):=by
 intro i w hi h;have HU:=aN (show cH (lk L) (jG (lk L) f) true i=cH (lk L) (jG (lk L) f) true i from rfl);go_in;go_upto_region 1 with fail;have S1:=SV.new h;generalize World.alloc w _=w1 at S1 ⊢;go_upto_block 1 with fail;refine(S1.eK (MM pb L lo f hL true i w1 hi S1.ps)).mono ?_;rintro e w3 (⟨x,hr,rfl,hg⟩|⟨t3,j3,k3,n3,a3,s3,o3,m3,c3,hr,rfl,S3⟩)
 ·exact jQ
 have H3:=aN hr;clear hr;have:=AAD (S3.facts 0 rfl);go_wp2_with fail;have S4:=S3.fY 0 rfl k3 n3 a3 s3 (.slice o3 m3 c3);refine nX (S4.facts 0 rfl) Tryz.results208 ?_;exact DQ
end
def ajX(L:List Tk)(f:Nat)(inr:Bool)(label:dL)(i:Nat)(h:(eF L i||!labelled L i)=true):jG L (f+1) inr label i=mS L (cH L (jG L f) false) (cH L (jG L f) true) inr label i:=by
 conv=>lhs;unfold jG
 rw[aF h]
def aAx(L:List Tk)(f:Nat)(inr:Bool)(label:dL)(i:Nat)(h:(eF L i||!labelled L i)=false):jG L (f+1) inr label i=aH (jG L f inr (tok L i).text (i+2)) λx j=>.ok (.mk 14 0 i (tok L i).text [x],j):=by
 conv=>lhs;unfold jG
 rw[aC qC]
def ayN(pb:Nat)(L:List T3)(hX:qZ L)(lo f:Nat)(ih:axW pb L (lo+1) f):axW pb L lo (f+1):=by
 intro inr label i w hi h;have hbd:=h.bd;have hnot:∀ (x:Bool) (w:World),(Op.unary .not (.bool x)).run Tryz.prog w=.ok (.bool (!x)) w:=λ_ _=>rfl
 generalize hc:(eF (lk L) i||!labelled (lk L) i)=c;have HC:=aN hc;clear hc;go_in;go_upto_region 1 with fail;have S2:=SV.new h;generalize World.alloc w _=w2 at S2 ⊢;go_cut [15] (λv15 wx=>v15=.bool c/\SV pb L w wx i [(w.heap.size,Cg)] [])
 case first=>
  have hA:=DU pb L i w2 S2.ps
  cases ha:eF (lk L) i with
  | true=>
   rw[ha]at hA;have hcc:=HC.out;rw[ha]at hcc;simp only[Bool.true_or]at hcc
   exact Pn
  | false=>
   rw[ha]at hA;have hcc:=HC.out;rw[ha]at hcc;simp only[Bool.false_or]at hcc
   subst hcc;clear ha;go_wp2_with (first|(go_at_call 135;refine(S2.eT (E:=λe=>e=_) hA).mono ?_;rintro e w3 ⟨rfl,S3⟩)|(go_at_call 136;refine(S3.eT (E:=λe=>e=_) (MY pb L i w3 S3.ps)).mono ?_;rintro e w4 ⟨rfl,S4⟩));exact IL
 case rest=>
  obtain⟨rfl,S3⟩:=hcut;clear S2
  cases c with
  | true=>
   have HU:=aN (ajX (lk L) f inr label i HC.out);go_upto_block 2 with fail;refine(S3.eK (atX pb L hX (lo+1) _ _ (Kz pb L (lo+1) f ih) (avD pb L (lo+1) f ih) (aaS (lk L) f false) (aaS (lk L) f true) inr label i aB wc S3.ps)).mono ?_;rintro e w4 (⟨x,hr,rfl,hg⟩|⟨t4,j4,k4,n4,a4,s4,o4,m4,c4,hr,rfl,S4⟩)
   ·exact jQ
   have H4:=aN hr;clear hr;have:=AAD (S4.facts 0 rfl);go_wp2_with fail;have S5:=S4.fY 0 rfl k4 n4 a4 s4 (.slice o4 m4 c4);refine nX (S5.facts 0 rfl) Tryz.results114 ?_;exact S5.res (.head _) (by simp[HU.out,aH,H4.out]<;>rfl) rfl
  | false=>
   have hl:labelled (lk L) i=true:=by
    have:=HC.out;simp only[Bool.or_eq_false_iff,Bool.not_eq_false']at this
    exact this.2
   have hn:iN (lk L) i=.ok ((tok (lk L) i).text,i+1):=by
    unfold labelled at hl;simp only[bA]at hl
    unfold iN;rw[aF hl.1]
   have hlt:i+1<L.length:=by
    unfold labelled at hl;simp only[bA]at hl
    exact zE hl.2
   have HU:=aN (aAx (lk L) f inr label i HC.out);have HN:=aN hn;clear hl hn;generalize (tok (lk L) i).text=tx at HU HN;obtain⟨c1,_⟩:=S3.ps.cells;go_upto_region 4 with fail;clear c1;go_upto_block 4 with fail;refine(S3.Bn (rM pb L i wc S3.ps)).mono ?_;rintro e w4 (⟨x,hr,rfl,hg⟩|⟨s2,j2,hr,rfl,S4⟩)
   ·rw[HN.out]at hr;cases hr
   obtain⟨rfl,rfl⟩:tx=s2/\i+1=j2:=by rw[HN.out]at hr;cases hr;exact⟨rfl,rfl⟩
   clear hr S3;obtain⟨c1,f1⟩:=S4.ps.cells;go_upto_region 6 with fail;have S5:=S4.go (i+2) aB (iq ((i:Int)+1+1)) (by congr 1);replace S5:SV pb L w (w4.setCell (AAF pb 1) (iq ((i:Int)+1+1))) (i+2) _ _:=S5;generalize World.setCell w4 _ _=w5 at S5 ⊢;clear c1 f1;go_upto_block 6 with fail;refine(S5.eK (ih inr tx (i+2) w5 aB S5.ps)).mono ?_;rintro e w6 (⟨x,hr,rfl,hg⟩|⟨t6,j6,k6,n6,a6,s6,o6,m6,c6,hr,rfl,S6⟩)
   ·exact jQ
   have H6:=aN hr;clear hr;have S7:=S6.lit (dO.one (S6.tr _ (.head _))) (tg k6 n6 a6 s6 o6 m6 c6) rfl 14 0 i tx 1 1 rfl;have:=AAD (S7.facts 0 rfl);go_wp2_with fail;have S8:=S7.fY 0 rfl (iq 14) (iq 0) i tx (.slice (some (AAF w6.heap.size 0)) 1 1);refine nX (S8.facts 0 rfl) Tryz.results114 ?_;exact S8.res (.head _) (by simp[HU.out,aH,H6.out]<;>rfl) rfl
def aEX(pb:Nat)(L:List T3)(hX:qZ L):∀ f lo,L.length+1<=f+lo->axW pb L lo f:=by
 intro f
 induction f with
 | zero=>intro lo hlo inr label i w hi h;exact absurd h.le aB
 | succ f ih=>intro lo hlo;exact ayN pb L hX lo f (ih (lo+1) aB)
def Wo(pb:Nat)(L:List T3)(hX:qZ L):Reads 46 pb L 0 (rW (lk L)):=
 Kz pb L 0 ((lk L).length+1) (aEX pb L hX _ 0 AM)
def YK{p:Prop}(h:p:=by
 try have:=AAD (Sq.facts 0 rfl)
 go_simp;refine gU ((Sq.leaf 40 0 0 e0).pG 40 0) λw18 Sq=>?_;refine kX aMB Sq.ps.cells.1 λaMA=>?_;clear aMB Kx;exact yE):p:=h
def YY{p:Prop}(h:p:=by
 try have:=AAD (Sq.facts 0 rfl)
 go_simp;refine gU (Sq.Mn) λw19 Sq=>?_;refine kX aMB Sq.ps.cells.1 λaMA=>?_;clear aMB Kx;exact yE):p:=h
def YL{p:Prop}(h:p:=by
 try have:=AAD (Sq.facts 0 rfl)
 go_simp;have Sq:=Sq.lit (dO.two (Sq.tr (node 40 0 [],vT 40 0 0 ⟨#[]⟩ none 0 0) oL) (Sq.tr (none_,vT 10 0 0 ⟨#[]⟩ none 0 0) oL)) #[.int .i64 40,.int .i64 0,.int .i64 0,.string ⟨#[]⟩,.slice none 0 0,.int .i64 10,.int .i64 0,.int .i64 0,.string ⟨#[]⟩,.slice none 0 0] rfl 15 0 j3 e0 2 2 rfl;refine kX aMB Sq.ps.cells.1 λaMA=>?_;clear aMB Kx;generalize World.alloc _ (.cells #[iq 40,iq 0,iq 0,.string ⟨#[]⟩,.slice none 0 0,iq 10,iq 0,iq 0,.string ⟨#[]⟩,.slice none 0 0] 24)=w20 at Sq aMA ⊢;exact yE):p:=h
def Ya{p:Prop}(h:p:=by
 try have:=AAD (Sq.facts 0 rfl)
 go_simp;refine gU (Sq.pG 15 j3) λw21 Sq=>?_;refine kX aMB Sq.ps.cells.1 λaMA=>?_;clear aMB Kx;exact yE):p:=h
def EW{p:Prop}(h:p:=by
 try have:=AAD (Sq.facts 0 rfl)
 go_simp;have Sq:=Sq.oF Cg sZ rfl _ rfl;refine kX aMB Sq.ps.cells.1 λaMA=>?_;clear aMB Kx;generalize World.alloc _ (.cells sZ 24)=w5 at Sq aMA ⊢;exact yE):p:=h
def awU{p:Prop}(h:p:=by
 try have:=AAD (Sq.facts 0 rfl)
 go_simp;have Sq:=Sq.aDv 0 rfl;unfold AY at Sq;refine kX aMB Sq.ps.cells.1 λaMA=>?_;clear aMB Kx;exact yE):p:=h
def aBT{p:Prop}(h:p:=by
 go_wp2
 go_meet
 case rel=>exact⟨_,_,rfl,Sq.less (λp hp=>by rw[cO.1 hp];exact .head _),⟨_,rfl⟩⟩):p:=h
theorem yE{p:Prop}(h:p:=by
 first
 | (refine aaW ?_;exact aBT)
 | (refine Kt 0 ?_;exact yE)
 | (refine Kt 1 ?_;exact yE)
 | (refine Kt 2 ?_;exact yE)
 | (refine Kt 3 ?_;exact yE)
 | (refine qG [4,8] ?_;refine rB (λKx aMB=>?_) (rB (λKx aMB=>?_) .nil);exact YK;exact EW)
 | (refine qG [5,8] ?_;refine rB (λKx aMB=>?_) (rB (λKx aMB=>?_) .nil);exact YY;exact EW)
 | (refine qG [6,8] ?_;refine rB (λKx aMB=>?_) (rB (λKx aMB=>?_) .nil);exact YL;exact EW)
 | (refine qG [7,8] ?_;refine rB (λKx aMB=>?_) (rB (λKx aMB=>?_) .nil);exact Ya;exact EW)
 | (refine qG [8] ?_;refine rB (λKx aMB=>?_) .nil;exact EW)
 | (refine qG [9] ?_;refine rB (λKx aMB=>?_) .nil;exact awU)
 | (refine qG [7] ?_;refine rB (λKx aMB=>?_) .nil;exact Ya)
 | (refine qG [6] ?_;refine rB (λKx aMB=>?_) .nil;exact YL)
 | (refine qG [5] ?_;refine rB (λKx aMB=>?_) .nil;exact YY)
 | (refine qG [4] ?_;refine rB (λKx aMB=>?_) .nil;exact YK)):p:=h
def Zw{p:Prop}(h:p:=by
 go_simp;refine GR aMB Sq ?_;clear aMB Kx;exact Bt):p:=h
def YQ{p:Prop}(h:p:=by
 go_simp;refine(Sq.GQ (BZ pb L 0 (rW (lk L)) (Wo pb L hX) (adY (lk L)) s2 j11 (aS _) _ Sq.ps)).mono ?_;rintro e w13 (⟨x,hr,rfl,hg⟩|⟨l13,j13,o13,c13,hr,rfl,Sq⟩)
 ·unfold gM;exact⟨rfl,aU.err x (by simp[HU.out,aH,H2.out,H3.out,H6.out,H7.out,H8.out,H9.out,H10.out,H11.out,hr]) hg⟩
 have H13:=aN hr;clear hr;have:=AAD (Sq.facts 0 rfl);refine GR aMB Sq ?_;clear aMB Kx;exact Bt):p:=h
def avQ{p:Prop}(h:p:=by
 refine Kh aQ (.tmp 39) (.tmp 42) rfl Sq oL oL aD (by have:=FR (adY (lk L)) H13.out;have:=Sq.ps.le;omega) 15 1 j3 e0 aD rfl rfl (λao14 c14 w14 Sq=>?_);have:=AAD (Sq.facts 0 rfl);refine GR aMB Sq ?_;clear aMB Kx;exact Bt):p:=h
def avF{p:Prop}(h:p:=by
 go_simp;refine aMB _ _ ?_;clear aMB Kx;exact Bt):p:=h
def aBa{p:Prop}(h:p:=by
 have S15:=Sq.put 0 rfl 4 (.slice ao14 (2+l13.length) c14) aI;generalize World.setCell _ (AAF B5 4) _=w15 at S15 ⊢;have:=AAD (S15.facts 0 rfl);have:=AAD (S15.facts 1 rfl);have S16:=S15.lit (dO.one (S15.tr _ (.head _))) (tg 15 1 j3 ⟨#[]⟩ ao14 (2+l13.length) c14) rfl 14 0 i s2 1 1 rfl;have:=AAD (S16.facts 1 rfl);go_wp2_with fail;have S17:=S16.fY 1 rfl (iq 14) (iq 0) i s2 (.slice (some (AAF w15.heap.size 0)) 1 1);refine nX (S17.facts 1 rfl) Tryz.results52 ?_;exact S17.res (.head _) (by simp[HU.out,aH,H2.out,H3.out,H6.out,H7.out,H8.out,H9.out,H10.out,H11.out,H13.out]<;>rfl) rfl):p:=h
theorem Bt{p:Prop}(h:p:=by
 first
 | (refine Gk ?_;exact aBa)
 | (refine tZ 0 ?_;exact Bt)
 | (refine tZ 2 ?_;exact Bt)
 | (refine tZ 3 ?_;exact Bt)
 | (refine tZ 6 ?_;exact Bt)
 | (refine kL [1,4] ?_;refine qP (λKx aMB=>?_) (qP (λKx aMB=>?_) .nil);exact Zw;exact YQ)
 | (refine kL [4] ?_;refine qP (λKx aMB=>?_) .nil;exact YQ)
 | (refine kL [5] ?_;refine qP (λKx aMB=>?_) .nil;exact avQ)
 | (refine kL [7] ?_;refine qP (λKx aMB=>?_) .nil;exact avF)
 | (refine kL [1] ?_;refine qP (λKx aMB=>?_) .nil;exact Zw)):p:=h
def aeP(pb:Nat)(L:List T3)(hX:qZ L):Reads 52 pb L 0 (fC (lk L)):=by
 intro i w hi h;have hbd:=h.bd
 have HU:=aN (show fC (lk L) i=aH (iN (lk L) i) λs j=>aH (aW (lk L) j cU) λ_ j1=>aH (fV (lk L) j1 [bB,jL]) λ_ j2=>aH (fV (lk L) j2 [gB]) λ_ j3=>
  aH (aW (lk L) j3 cJ) λ_ j4=>aH (fV (lk L) j4 [pO]) λ_ j5=>aH (aW (lk L) j5 dA) λ_ j6=>aH (aW (lk L) j6 aT) λ_ j7=>
  aH (iO (lk L) (rW (lk L)) s j7) λg j8=>.ok (.mk 14 0 i s [.mk 15 1 j1 e0 (node 40 0 []::none_::g)],j8)from rfl)
 go_in;go_upto_region 1 with fail;have S1:=SV.new h;generalize World.alloc w _=w1 at S1 ⊢;obtain⟨c1,_⟩:=S1.ps.cells;go_upto_region 2 with fail;clear c1;go_upto_block 2 with fail;refine(S1.Bn (rM pb L i w1 S1.ps)).mono ?_;rintro e w2 (⟨x,hr,rfl,hg⟩|⟨s2,j2,hr,rfl,S2⟩)
 ·exact jQ
 have H2:=aN hr;clear hr;go_upto_block 3 with fail;refine(S2.kG cU).mono ?_;rintro e w3 (⟨x,hr,rfl,hg⟩|⟨j3,hr,rfl,S3⟩)
 ·exact Hc
 have H3:=aN hr;clear hr;go_upto_region 4 with fail;go_cut [5] (λv5 wx=>∃ (B5:Nat) (ao:iD),v5=.pointer (some (AAF B5 0))/\SV pb L w wx j3 [(B5,tg 15 0 j3 ⟨#[]⟩ ao 2 2),(w.heap.size,Cg)] [(node 15 j3 [node 40 0 [],none_],vT 15 0 j3 e0 ao 2 2)]/\∃ B,ao=some ⟨B,0,none⟩)
 case first=>
  have Sq:=S3.drew;refine fW (S:=(λw'=>w'.cell? (AAF pb 1)=some (.int .i64 (j3:Nat)))) aQ Sq.ps.cells.1 (λaMA=>?_);generalize World.drew w3=w4 at *;exact yE
 case rest=>
  obtain⟨B5,ao,rfl,S4,⟨B,rfl⟩⟩:=hcut;clear S1 S2 S3;have:=AAD (S4.facts 0 rfl);have S5:=(S4.put 0 rfl 1 (iq 1) aI).OV 15 1 j3 e0;go_upto_region 6 with fail;generalize World.setCell _ (AAF B5 1) _=w5 at S5 ⊢;clear S4;go_upto_block 6 with fail;refine(S5.El [bB,jL] aI _ rfl 2 rfl).mono ?_;rintro e w6 (⟨x,hr,rfl,hg⟩|⟨j6,hr,rfl,S6⟩)
  ·unfold gM;go_wp2_with fail;exact⟨rfl,aU.err x (by simp[HU.out,aH,H2.out,H3.out,hr]) hg⟩
  have H6:=aN hr;clear hr;go_upto_block 7 with fail;refine(S6.El [gB] aI _ rfl 1 rfl).mono ?_;rintro e w7 (⟨x,hr,rfl,hg⟩|⟨j7,hr,rfl,S7⟩)
  ·unfold gM;go_wp2_with fail;exact⟨rfl,aU.err x (by simp[HU.out,aH,H2.out,H3.out,H6.out,hr]) hg⟩
  have H7:=aN hr;clear hr;go_upto_block 8 with fail;refine(S7.kG cJ).mono ?_;rintro e w8 (⟨x,hr,rfl,hg⟩|⟨j8,hr,rfl,S8⟩)
  ·unfold gM;go_wp2_with fail;exact⟨rfl,aU.err x (by simp[HU.out,aH,H2.out,H3.out,H6.out,H7.out,hr]) hg⟩
  have H8:=aN hr;clear hr;go_upto_block 9 with fail;refine(S8.El [pO] aI _ rfl 1 rfl).mono ?_;rintro e w9 (⟨x,hr,rfl,hg⟩|⟨j9,hr,rfl,S9⟩)
  ·unfold gM;go_wp2_with fail;exact⟨rfl,aU.err x (by simp[HU.out,aH,H2.out,H3.out,H6.out,H7.out,H8.out,hr]) hg⟩
  have H9:=aN hr;clear hr;go_upto_block 10 with fail;refine(S9.kG dA).mono ?_;rintro e w10 (⟨x,hr,rfl,hg⟩|⟨j10,hr,rfl,S10⟩)
  ·unfold gM;go_wp2_with fail;exact⟨rfl,aU.err x (by simp[HU.out,aH,H2.out,H3.out,H6.out,H7.out,H8.out,H9.out,hr]) hg⟩
  have H10:=aN hr;clear hr;go_upto_block 11 with fail;refine(S10.kG aT).mono ?_;rintro e w11 (⟨x,hr,rfl,hg⟩|⟨j11,hr,rfl,S11⟩)
  ·unfold gM;go_wp2_with fail;exact⟨rfl,aU.err x (by simp[HU.out,aH,H2.out,H3.out,H6.out,H7.out,H8.out,H9.out,H10.out,hr]) hg⟩
  have H11:=aN hr;clear hr;go_upto_region 12 with fail;refine qW aQ ?_;change wpAny _ _ _ _ _ _ _ (World.drew _);have Sq:=S11.drew;generalize World.drew w11=w12 at Sq ⊢;have:=AAD (Sq.facts 0 rfl);exact Bt
def acR(B4 B5 B6:Nat)(x y z u v:Value)(p:Value)(b0:Bool)(a:Int)(older:List PanicEntry)(w:World)(h4:TV w B4 x y z u v)(h5:w.heap[B5]?=some (.cells #[p] 3 (0,0)))(h6:w.heap[B6]?=some (.cells #[.bool b0] 4 (0,0)))(h45:B4≠B5)(h46:B4≠B6)(h56:B5≠B6)(N:Nat)(hN4:N<=B4)(hN5:N<=B5)(hN6:N<=B6):CallsD Tryz.prog 75 #[pq B4,pq B5,pq B6] (.panicking ({ v:=.iface 113 (.agg #[iq a]),recovered:=false }::older)) w λe u' w'=>e=.returned (.tuple #[])/\u'=.panicking ({ v:=.iface 113 (.agg #[iq a]),recovered:=true }::older)/\Below N w w'/\TV w' B4 (iq 0) (iq 0) (iq 0) (.string ⟨#[]⟩) (.slice none 0 0)/\w'.cell? (AAF B5 0)=some (.int .i64 a)/\w'.cell? (AAF B6 0)=some (.bool false):=by
 have h1:=agV;refine callsD_of_wpS Tryz.func75 rfl λc₀ cs hu=>?_
 apply wpS_seq
 apply vV
 simp[wpOpsS,go_sem,recoverD,hu,Tryz.ntmps75,Exit.thenS]
 refine wpS_of_wp ?_;go_upto_region 7 with fail;have hb:=aJ w (.cells #[iq a] 113);have n0:=aP w (.cells #[iq a] 113);have hlt4:=h4.lt;have hlt5:=(aX.1 h5).1;have hlt6:=(aX.1 h6).1;replace h4:=h4.below hb;replace h5:=(hb.block _ hlt5).trans h5;replace h6:=(hb.block _ hlt6).trans h6;replace hb:=hb.mono (show N<=w.heap.size by omega);generalize World.alloc w _=w1 at h4 h5 h6 hb n0 ⊢;have hBn:w.heap.size≠B4:=by omega
 have c0:w1.cell? (AAF w.heap.size 0)=some (.int .i64 a):=aK w1 _ 0 _ _ _ n0;have c5:w1.cell? (AAF B5 0)=some p:=aK w1 _ 0 _ _ _ h5;have f5:=aY h5 0;have c6:w1.cell? (AAF B6 0)=some (.bool b0):=aK w1 _ 0 _ _ _ h6;have f6:=aY h6 0;have:=AAD h4;have d5:=(axC h45 w1 0 (iq 0) (iq 0) (iq 0) (.string ⟨#[]⟩) (.slice none 0 0)).trans c5;have d6:=(axC h46 w1 0 (iq 0) (iq 0) (iq 0) (.string ⟨#[]⟩) (.slice none 0 0)).trans c6;have t2:=h4.set (iq 0) (iq 0) (iq 0) (.string ⟨#[]⟩) (.slice none 0 0);have P:Below N w ((((((((w1.setCell (AAF B4 0) (iq 0)).setCell (AAF B4 1) (iq 0)).setCell (AAF B4 2) (iq 0)).setCell (AAF B4 3) (.string ⟨#[]⟩)).setCell (AAF B4 4) (.slice none 0 0)).setCell (AAF B5 0) (iq a)).setCell (AAF B6 0) (.bool false)).drew)/\
  TV ((((((((w1.setCell (AAF B4 0) (iq 0)).setCell (AAF B4 1) (iq 0)).setCell (AAF B4 2) (iq 0)).setCell (AAF B4 3) (.string ⟨#[]⟩)).setCell (AAF B4 4) (.slice none 0 0)).setCell (AAF B5 0) (iq a)).setCell (AAF B6 0) (.bool false)).drew) B4 (iq 0) (iq 0) (iq 0) (.string ⟨#[]⟩) (.slice none 0 0)/\
  ((((((((w1.setCell (AAF B4 0) (iq 0)).setCell (AAF B4 1) (iq 0)).setCell (AAF B4 2) (iq 0)).setCell (AAF B4 3) (.string ⟨#[]⟩)).setCell (AAF B4 4) (.slice none 0 0)).setCell (AAF B5 0) (iq a)).setCell (AAF B6 0) (.bool false)).drew).cell? (AAF B5 0)=some (.int .i64 a)/\
  ((((((((w1.setCell (AAF B4 0) (iq 0)).setCell (AAF B4 1) (iq 0)).setCell (AAF B4 2) (iq 0)).setCell (AAF B4 3) (.string ⟨#[]⟩)).setCell (AAF B4 4) (.slice none 0 0)).setCell (AAF B5 0) (iq a)).setCell (AAF B6 0) (.bool false)).drew).cell? (AAF B6 0)=some (.bool false):=by
  have b5:=jH hb hN4 (iq 0) (iq 0) (iq 0) (.string ⟨#[]⟩) (.slice none 0 0);generalize ((((w1.setCell (AAF B4 0) (iq 0)).setCell (AAF B4 1) (iq 0)).setCell (AAF B4 2) (iq 0)).setCell (AAF B4 3) (.string ⟨#[]⟩)).setCell (AAF B4 4) (.slice none 0 0)=w2 at d5 d6 t2 b5 ⊢;have e5:(w2.setCell (AAF B5 0) (iq a)).cell? (AAF B5 0)=some (.int .i64 a):=vM _ _ _ d5;have e6:(w2.setCell (AAF B5 0) (iq a)).cell? (AAF B6 0)=some (.bool b0):=(kY _ _ _ _ (by simpa using h56)).trans d6;refine⟨((b5.setCell (p:=(AAF B5 0)) hN5 _).setCell (p:=(AAF B6 0)) hN6 _).drew,?_,?_,vM _ _ _ e6⟩
  ·exact(dJ _ _ _ _ (by simpa using h46)).trans ((dJ _ _ _ _ (by simpa using h45)).trans t2)
  ·exact(kY _ _ _ _ (by simpa using h56.symm)).trans e5
 clear d5 d6 t2
 go_region
 all_goals
  go_wp2_with fail;generalize World.drew _=wz at P ⊢
  simp[bodyPostS,results,Tryz.results75]
  exact P
def atE(B4 B5 B6:Nat)(w:World):CallsD Tryz.prog 75 #[pq B4,pq B5,pq B6] .returning w λe u' w'=>e=.returned (.tuple #[])/\u'=.returning/\w'=w:=by
 have h1:=aBg;refine callsD_of_wpS Tryz.func75 rfl λc₀ cs hu=>?_
 apply wpS_seq
 apply vV
 simp[wpOpsS,go_sem,recoverD,hu,Tryz.ntmps75,Exit.thenS]
 refine wpS_of_wp ?_;go_wp2_with fail
 cases c₀
 simp_all [bodyPostS,results,Tryz.results75]
def aGF(w:World)(r:Except Nat T)(e:Ending)(w':World):Prop:=iY w w'/\match r with
 | .ok t=>∃ k n a s ao m c,e=.returned (.tuple #[tg k n a s ao m c,iq 0,.bool true])/\iB (Fr w) w' t (vT k n a s ao m c)
 | .error x=>e=.returned (.tuple #[tg 0 0 0 ⟨#[]⟩ none 0 0,iq x,.bool false])
def PS.fresh{w w1:World}{v:Value}{L:List T3}(hT:fJ w v L)(hbd:L.length<=1000000)(b:iY w w1):PS (w1.alloc (.cells #[v,iq 0] 115)) w1.heap.size L 0:=by
 obtain⟨ao,cap,rfl,h⟩:=hT;refine⟨⟨ao,cap,aP w1 _,λhne=>?_⟩,aS _,hbd⟩;obtain⟨bl,off,rfl,hlt,hc⟩:=h hne;have:=b.size;refine⟨bl,off,rfl,by simp;omega,by omega,λj hj i u hu=>?_⟩;exact((aJ w1 _).cell (p:=(AAF bl (off+j*3+i))) (show bl<w1.heap.size by omega)).trans ((b.cell (p:=(AAF bl (off+j*3+i))) hlt).trans (hc j hj i u hu))
def aFY(pb i:Nat)(w:World)(k1:w.cell? (AAF pb 1)=some (.int .i64 i)):AAA 76 #[pq pb] w λe w'=>e=gM i/\w'=w:=by
 exact SW
def arF(K:FuncId)(hK:∀ args w,(callFunc K args).run Tryz.prog w=.ok (.enter K args) w)(L:List T3)(read:Nat->R T)(hR:∀ pb w,PS w pb L 0->AAA K #[pq pb] w (aU pb L w (read 0)))(v:Value)(w:World)(hT:fJ w v L)(hbd:L.length<=1000000):AAA 47 #[v,.func (.func K) #[] #[]] w (aGF w (uN (lk L) read)):=by
 have HA:=aN (show uN (lk L) read=match read 0 with | .ok (t,j)=>if j<(lk L).length then .error j else .ok t | .error e=>.error e from rfl);have hmf:∀ (fn:Fn) (first cap:Array Value) (w:World),(Instr.makeFunc fn first cap).run Tryz.prog w=.ok (.func fn first cap) w:=λ_ _ _ _=>rfl
 have hfm:=hT;obtain⟨ao,cap,rfl,-⟩:=hfm;have hfr:=λ(w1:World) (b:iY w w1)=>PS.fresh hT hbd b
 have HF:=aN hfr;clear hfr hT
 go_enter_defers Tryz.func47,Tryz.ntmps47
 go_upto_region 1 with fail;have b0:iY w (((w.alloc (.cells sZ 24)).alloc (.cells #[iq 0] 3)).alloc (.cells #[.bool false] 4)):=by
  have h1:=aJ w (.cells sZ 24);have h2:=aJ (w.alloc (.cells sZ 24)) (.cells #[iq 0] 3);have h3:=aJ ((w.alloc (.cells sZ 24)).alloc (.cells #[iq 0] 3)) (.cells #[.bool false] 4);exact(h1.trans (h2.mono h1.size)).trans (h3.mono (aZ h1.size h2.size))
 have n4:TV (((w.alloc (.cells sZ 24)).alloc (.cells #[iq 0] 3)).alloc (.cells #[.bool false] 4)) w.heap.size (iq 0) (iq 0) (iq 0) (.string ⟨#[]⟩) (.slice none 0 0):=
  (lP _ _ _ dW).trans ((lP _ _ _ aI).trans (aP w _))
 have n5:(((w.alloc (.cells sZ 24)).alloc (.cells #[iq 0] 3)).alloc (.cells #[.bool false] 4)).heap[w.heap.size+1]?=some (.cells #[iq 0] 3 (0,0)):=by
  rw[lP _ _ _ aI];have:=aP (w.alloc (.cells sZ 24)) (.cells #[iq 0] 3)
  rwa[show (w.alloc (.cells sZ 24)).heap.size=w.heap.size+1 by simp]at this
 have n6:(((w.alloc (.cells sZ 24)).alloc (.cells #[iq 0] 3)).alloc (.cells #[.bool false] 4)).heap[w.heap.size+1+1]?=some (.cells #[.bool false] 4 (0,0)):=by
  have:=aP ((w.alloc (.cells sZ 24)).alloc (.cells #[iq 0] 3)) (.cells #[.bool false] 4)
  rwa[show ((w.alloc (.cells sZ 24)).alloc (.cells #[iq 0] 3)).heap.size=w.heap.size+1+1 by simp]at this
 have hz:(((w.alloc (.cells sZ 24)).alloc (.cells #[iq 0] 3)).alloc (.cells #[.bool false] 4)).heap.size=w.heap.size+1+1+1:=by simp
 generalize World.alloc (World.alloc (World.alloc w _) _) _=w1 at b0 n4 n5 n6 hz ⊢;have hq:=HF.out w1 b0;rw[hz]at hq;go_upto_region 3 with fail;have b1:=aJ w1 (.cells #[.slice ao L.length cap,iq 0] 115);replace n4:=n4.below b1;replace n5:=(b1.block _ aB).trans n5;replace n6:=(b1.block _ aB).trans n6;have B2:=b0.trans (b1.mono b0.size);have hz2:w.heap.size+1+1+1<(w1.alloc (.cells #[.slice ao L.length cap,iq 0] 115)).heap.size:=by simp;omega
 generalize World.alloc w1 _=w2 at hq n4 n5 n6 B2 hz2 ⊢;clear b0 b1 hz;have h45:w.heap.size≠w.heap.size+1:=by omega
 have h46:w.heap.size≠w.heap.size+1+1:=by omega
 have h47:w.heap.size≠w.heap.size+1+1+1:=by omega
 have h56:w.heap.size+1≠w.heap.size+1+1:=by omega
 have h57:w.heap.size+1≠w.heap.size+1+1+1:=by omega
 have h67:w.heap.size+1+1≠w.heap.size+1+1+1:=by omega
 have hN5:w.heap.size<=w.heap.size+1:=by omega
 have hN6:w.heap.size<=w.heap.size+1+1:=by omega
 generalize hB7:w.heap.size+1+1+1=pb at hq hz2 h47 h57 h67 ⊢;generalize hB6:w.heap.size+1+1=B6 at n6 h46 h56 h67 hN6 ⊢;generalize hB5:w.heap.size+1=B5 at n5 h45 h56 h57 hN5 ⊢;have l4:w.heap.size<w2.heap.size:=by omega
 have l5:B5<w2.heap.size:=by omega
 have l6:B6<w2.heap.size:=by omega
 have lpb:w.heap.size<=pb:=by omega
 clear hB5 hB6 hB7 hz2;go_upto_block 3 with fail;refine(hR pb w2 hq).mono ?_;intro e w3 hp
 rcases hp.split with ⟨t,j,k,n,a,s,o3,m,c,hr1,rfl,ht,hok⟩|⟨x,hr1,rfl,hg⟩
 ·have g3:=hok.1;have B3:iY w w3:=B2.grown g3 B2.size (λj hj=>by cases hj;exact lpb);have hs3:=g3.size;replace n4:TV w3 _ _ _ _ _ _:=(g3.block _ l4 (λe=>by cases e;exact h47 rfl)).trans n4;replace n5:=(g3.block _ l5 (λe=>by cases e;exact h57 rfl)).trans n5;replace n6:=(g3.block _ l6 (λe=>by cases e;exact h67 rfl)).trans n6;have hjl:=hok.2.le;have HR:=aN hr1;obtain⟨k1,_⟩:=hok.2.cells;have k2:=(axC h47 w3 1 k n a s (.slice o3 m c)).trans k1;have t4:=n4.set k n a s (.slice o3 m c);have n5':=(Aw h45 w3 k n a s (.slice o3 m c)).trans n5;have n6':=(Aw h46 w3 k n a s (.slice o3 m c)).trans n6;have B4:=jH B3 (aG _) k n a s (.slice o3 m c);have hsz4:w3.heap.size<=(((((w3.setCell (AAF w.heap.size 0) (iq k)).setCell (AAF w.heap.size 1) (iq n)).setCell (AAF w.heap.size 2) (iq a)).setCell (AAF w.heap.size 3) (.string s)).setCell (AAF w.heap.size 4) (.slice o3 m c)).heap.size:=by simp[World.setCell]
  have htr:iB (λb=>w2.heap.size<=b) (((((w3.setCell (AAF w.heap.size 0) (iq k)).setCell (AAF w.heap.size 1) (iq n)).setCell (AAF w.heap.size 2) (iq a)).setCell (AAF w.heap.size 3) (.string s)).setCell (AAF w.heap.size 4) (.slice o3 m c)) t (vT k n a s o3 m c):=
   ht.kept (λb hb _=>hb) hsz4 (λb hb _=>Aw (by unfold Fr at hb;omega) _ _ _ _ _ _)
  have:=AAD n4;clear hok ht hq k1 hp hr1 n5 n6;go_upto_region 4 with fail;generalize World.setCell _ (AAF w.heap.size 4) _=w4 at k2 t4 n5' n6' B4 htr hsz4 ⊢;have hs4:w2.heap.size<=w4.heap.size:=aZ hs3 hsz4
  by_cases hlt:j<L.length
  ·have x1:(j:Int)<(L.length:Int):=by omega
   have HE:=aN (show uN (lk L) read=.error j by rw[HA.out,HR.out];show (if j<(L.map T3.tk).length then _ else _)=_;rw[bN,aF hlt]);clear HA HR;go_upto_block 5 with fail;refine(aFY pb j w4 k2).mono ?_;rintro e w5 ⟨rfl,rfl⟩;unfold gM;go_wp2_with fail;refine Ck (f:=75) (args:=#[pq w.heap.size,pq B5,pq B6]) aI AO ?_;refine(acR w.heap.size B5 B6 _ _ _ _ _ _ _ j [] w5 t4 n5' n6' h45 h46 h56 w.heap.size (aG _) hN5 hN6).mono ?_;rintro e u' w6 ⟨rfl,rfl,hb,ht,hc5,hc6⟩;have:=AAD ht;have P:aGF w (uN (lk L) read) (.returned (.tuple #[tg 0 0 0 ⟨#[]⟩ none 0 0,iq j,.bool false])) w6:=by
    rw[HE.out];exact⟨B4.trans hb,rfl⟩
   exact Is
  ·have x1:¬ (j:Int)<(L.length:Int):=by omega
   have HE:=aN (show uN (lk L) read=.ok t by rw[HA.out,HR.out];show (if j<(L.map T3.tk).length then _ else _)=_;rw[bN,aC hlt]);clear HA HR;have c5:w4.cell? (AAF B5 0)=some (.int .i64 0):=aK w4 _ 0 _ _ _ n5';have f5:=aY n5' 0;have c6:w4.cell? (AAF B6 0)=some (.bool false):=aK w4 _ 0 _ _ _ n6';have f6:=aY n6' 0;have d5:=(axC h45 w4 0 k n a s (.slice o3 m c)).trans c5;have d6:=(axC h46 w4 0 k n a s (.slice o3 m c)).trans c6;have t5:=t4.set k n a s (.slice o3 m c);have B5w:=jH B4 (aG _) k n a s (.slice o3 m c);have ht5:iB (λb=>w2.heap.size<=b) (((((w4.setCell (AAF w.heap.size 0) (iq k)).setCell (AAF w.heap.size 1) (iq n)).setCell (AAF w.heap.size 2) (iq a)).setCell (AAF w.heap.size 3) (.string s)).setCell (AAF w.heap.size 4) (.slice o3 m c)) t (vT k n a s o3 m c):=
    htr.kept (λb hb _=>hb) AN (λb hb _=>Aw aB _ _ _ _ _ _)
   have:=AAD t4;go_wp2_with fail;generalize World.setCell (World.setCell (World.setCell (World.setCell (World.setCell w4 _ _) _ _) _ _) _ _) _ _=w5 at d5 d6 t5 B5w ht5 ⊢;have q5:(w5.setCell (AAF B5 0) (iq 0)).cell? (AAF B5 0)=some (.int .i64 0):=vM _ _ _ d5;have q6:(w5.setCell (AAF B5 0) (iq 0)).cell? (AAF B6 0)=some (.bool false):=(kY _ _ _ _ (by simpa using h56)).trans d6;have r5:((w5.setCell (AAF B5 0) (iq 0)).setCell (AAF B6 0) (.bool true)).cell? (AAF B5 0)=some (.int .i64 0):=(kY _ _ _ _ (by simpa using h56.symm)).trans q5;have r6:((w5.setCell (AAF B5 0) (iq 0)).setCell (AAF B6 0) (.bool true)).cell? (AAF B6 0)=some (.bool true):=vM _ _ _ q6;have r4:TV ((w5.setCell (AAF B5 0) (iq 0)).setCell (AAF B6 0) (.bool true)) w.heap.size k n a s (.slice o3 m c):=
    (dJ _ _ _ _ (by simpa using h46)).trans ((dJ _ _ _ _ (by simpa using h45)).trans t5)
   have P:aGF w (uN (lk L) read) (.returned (.tuple #[tg k n a s o3 m c,iq 0,.bool true])) ((w5.setCell (AAF B5 0) (iq 0)).setCell (AAF B6 0) (.bool true)):=by
    rw[HE.out];refine⟨(B5w.setCell (p:=(AAF B5 0)) hN5 _).setCell (p:=(AAF B6 0)) hN6 _,k,n,a,s,o3,m,c,rfl,ht5.kept (λb hb _=>by unfold Fr;omega) AN (λb hb _=>?_)⟩;rw[dJ _ _ _ _ (show b≠B6 by omega),dJ _ _ _ _ (show b≠B5 by omega)]
   generalize (w5.setCell (AAF B5 0) (iq 0)).setCell (AAF B6 0) (.bool true)=w6 at r4 r5 r6 P ⊢;clear ht5 B5w t5 d5 d6 htr t4 n5' n6' c5 c6 f5 f6;refine Ck (f:=75) (args:=#[pq w.heap.size,pq B5,pq B6]) aI AO ?_;refine(atE w.heap.size B5 B6 w6).mono ?_;rintro e u' w7 ⟨rfl,rfl,rfl⟩;have:=AAD r4
   exact Is
 ·have B3:iY w w3:=B2.grown hg B2.size (λj hj=>by cases hj;exact lpb);have n4:TV w3 _ _ _ _ _ _:=(hg.block _ l4 (λe=>by cases e;exact h47 rfl)).trans n4;have n5:=(hg.block _ l5 (λe=>by cases e;exact h57 rfl)).trans n5;have n6:=(hg.block _ l6 (λe=>by cases e;exact h67 rfl)).trans n6;have HE:=aN (show uN (lk L) read=.error x by rw[HA.out,hr1]);clear HA hp hr1 hq;unfold gM;go_wp2_with fail;refine Ck (f:=75) (args:=#[pq w.heap.size,pq B5,pq B6]) aI AO ?_;refine(acR w.heap.size B5 B6 _ _ _ _ _ _ _ x [] w3 n4 n5 n6 h45 h46 h56 w.heap.size (aG _) hN5 hN6).mono ?_;rintro e u' w6 ⟨rfl,rfl,hb,ht,hc5,hc6⟩;have:=AAD ht;have P:aGF w (uN (lk L) read) (.returned (.tuple #[tg 0 0 0 ⟨#[]⟩ none 0 0,iq x,.bool false])) w6:=by
   rw[HE.out];exact⟨B3.trans hb,rfl⟩
  exact Is
end
