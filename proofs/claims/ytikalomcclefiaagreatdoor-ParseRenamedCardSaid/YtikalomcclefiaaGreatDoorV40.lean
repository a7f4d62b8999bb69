/- Part 40. -/
import Derived.Test.YtikalomcclefiaaGreatDoorV39
set_option linter.all false
set_option maxHeartbeats 0
set_option maxRecDepth 100000
namespace Go.Proofs.YtikalomcclefiaaGreatDoor
section
open Go.RowKit Lx Px
def aCX: ∀ args w,(callFunc 216 args).run Tryz.prog w=.ok (.enter 216 args) w:=
 enters_of Tryz.func216 aD rfl
def aFL: ∀ args w,(callFunc 228 args).run Tryz.prog w=.ok (.enter 228 args) w:=
 enters_of Tryz.func228 aD rfl
def aaJ(L:List Tk)(i:Nat)(n:Int)(what bounds:T)(j2:Nat):R T:=aH (pR L 12 j2) λxs j3=>.ok (.mk 48 n i e0 (what::bounds::xs),j3)
def Oz(L:List Tk)(i:Nat)(n:Int)(what:T)(j1:Nat):R T:=
 aH (if cD L j1 [cJ]then aH (eR L 3 (pS L) (j1+1)) λl j'=>aH (aW L j' dA) λ_ j2=>.ok (gQ l,j2)else .ok (node 40 0 [],j1)) λbounds j2=>aaJ L i n what bounds j2
def OC(L:List Tk)(rd:Nat->R T)(i:Nat)(n:Int)(j:Nat):R T:=
 aH (if cD L j [cJ]then aH (eR L 30 rd (j+1)) λl j'=>aH (aW L j' dA) λ_ j2=>.ok (gQ l,j2)else mI L j) λwhat j1=>Oz L i n what j1
def aBv(L:List Tk)(f i:Nat):mU L (f+1) i=aH (if (tok L i).kind=2 then aH (gO L 1 99 i) λn j=>.ok ((n:Int),j)else .ok (0,i)) λn j=>OC L (mU L f) i n j:=by
 conv=>lhs;unfold mU
 rfl
def NF{L:List Tk}:∀ (n:Nat) (acc:List T) (j:Nat) (l:List T) (j':Nat),jC L n acc j=.ok (l,j')->l.length<=acc.length+n:=by
 intro n
 induction n with
 | zero=>intro acc j l j' h;unfold jC at h;cases h;simp
 | succ n ih=>
  intro acc j l j' h;rw[Gf]at h
  split at h
  ·cases hr:dS L j with
   | error a=>rw[hr]at h;cases h
   | ok xj=>
    exact Pm
  ·cases h;simp
def JH{p:Prop}(h:p:=by
 go_simp;refine GR aMB Sq ?_;clear aMB Kx;exact BR):p:=h
def JQ{p:Prop}(h:p:=by
 go_simp;refine GR aMB Sq ?_;clear aMB Kx;exact BR):p:=h
def Yi{p:Prop}(h:p:=by
 go_simp;have Sq:=Sq.lit (dO.two (Sq.tr (x,vT k1 n1 a1 s1 o1 m1 c1) Sm) (Sq.tr (y,vT k2 n2 a2 s2 o2 m2 c2) oL)) #[.int .i64 k1,.int .i64 n1,.int .i64 a1,.string s1,.slice o1 m1 c1,.int .i64 k2,.int .i64 n2,.int .i64 a2,.string s2,.slice o2 m2 c2] rfl 40 0 0 e0 2 2 rfl;refine GR aMB Sq ?_;clear aMB Kx;exact BR):p:=h
def ER{p:Prop}(h:p:=by
 go_simp;refine(Sq.GQ (Hu pb L hX 12 aD j2 _ Sq.ps)).mono ?_;rintro e w17 (⟨x,hr,rfl,hg⟩|⟨l17,j17,o17,c17,hr,rfl,Sq⟩)
 ·unfold gM;exact⟨rfl,aU.err x (by simp[HU.out,aH,aaJ,hr]) hg⟩
 have H17:=aN hr;clear hr;have:=AAD (Sq.facts 0 rfl);have:=AAD (Sq.facts 1 rfl);refine GR aMB Sq ?_;clear aMB Kx;exact BR):p:=h
def awN{p:Prop}(h:p:=by
 refine Kh aQ (.tmp 42) (.tmp 44) rfl Sq oL oL aD (aZ (NF _ _ _ _ _ H17.out) aD) 48 n i e0 aD rfl rfl (λao18 c18 w18 Sq=>?_);have:=AAD (Sq.facts 2 rfl);refine GR aMB Sq ?_;clear aMB Kx;exact BR):p:=h
def auQ{p:Prop}(h:p:=by
 go_simp;refine aMB _ _ ?_;clear aMB Kx;exact BR):p:=h
def aBc{p:Prop}(h:p:=by
 have S19:=Sq.put 2 rfl 4 (.slice ao18 (2+l17.length) c18) aI;generalize World.setCell _ (AAF B4 4) _=w19 at S19 ⊢;have:=AAD (S19.facts 2 rfl);have:=AAD (S19.facts 3 rfl);go_wp2_with fail;have S20:=S19.fY 3 rfl (iq 48) n i (.string ⟨#[]⟩) (.slice ao18 (2+l17.length) c18);refine nX (S20.facts 3 rfl) Tryz.results216 ?_;exact S20.res (.head _) (by simp[HU.out,aH,aaJ,H17.out]<;>rfl) rfl):p:=h
theorem BR{p:Prop}(h:p:=by
 first
 | (refine Gk ?_;exact aBc)
 | (refine tZ 3 ?_;exact BR)
 | (refine tZ 6 ?_;exact BR)
 | (refine kL [0,1,4] ?_;refine qP (λKx aMB=>?_) (qP (λKx aMB=>?_) (qP (λKx aMB=>?_) .nil));exact JH;exact JQ;exact ER)
 | (refine kL [1,4] ?_;refine qP (λKx aMB=>?_) (qP (λKx aMB=>?_) .nil);exact JQ;exact ER)
 | (refine kL [2,4] ?_;refine qP (λKx aMB=>?_) (qP (λKx aMB=>?_) .nil);exact Yi;exact ER)
 | (refine kL [4] ?_;refine qP (λKx aMB=>?_) .nil;exact ER)
 | (refine kL [5] ?_;refine qP (λKx aMB=>?_) .nil;exact awN)
 | (refine kL [7] ?_;refine qP (λKx aMB=>?_) .nil;exact auQ)
 | (refine kL [2] ?_;refine qP (λKx aMB=>?_) .nil;exact Yi)
 | (refine kL [1] ?_;refine qP (λKx aMB=>?_) .nil;exact JQ)
 | (refine kL [0,4] ?_;refine qP (λKx aMB=>?_) (qP (λKx aMB=>?_) .nil);exact JH;exact ER)
 | (refine kL [0] ?_;refine qP (λKx aMB=>?_) .nil;exact JH)
 | (refine kL [0,1] ?_;refine qP (λKx aMB=>?_) (qP (λKx aMB=>?_) .nil);exact JH;exact JQ)):p:=h
def axH(pb:Nat)(L:List T3)(hX:qZ L)(lo f:Nat)(ih:Reads 216 pb L (lo+1) (mU (lk L) f)):Reads 216 pb L lo (mU (lk L) (f+1)):=by
 intro i w hi h;have HU:=aN (aBv (lk L) f i);have hbd:=h.bd;have hf0:=Eo;go_in;go_upto_region 1 with fail;have S1:=SV.new h;generalize World.alloc w _=w1 at S1 ⊢;obtain⟨c1,_⟩:=S1.ps.cells;have S2:=S1.leaf 48 0 i e0;go_upto_region 2 with (go_at_call 87;refine(S2.pG 48 i).mono ?_;rintro e w2 ⟨rfl,S3⟩);clear c1;have S4:=S3.EU (tg 48 0 i ⟨#[]⟩ none 0 0);generalize World.alloc w2 _=w4 at S4 ⊢;generalize w2.heap.size=B4 at S4 ⊢;have S5:=S4.less (ts':=[]) (λ_ h=>by cases h);clear S1 S2 S3 S4;have hT:=fS pb L i 0 aD w4 S5.ps;generalize hkk:(tok (lk L) i).kind=tk;rw[show (tok (L.map T3.tk) (i+0)).kind=tk from hkk]at hT;have HK:=aN hkk;clear hkk;go_upto_if 14 with (go_at_call 113;refine(S5.eT (E:=λe=>∃ p:Int,e=_) hT).mono ?_;rintro e w5 ⟨⟨p,rfl⟩,S6⟩);clear hT S5;go_cut [] (λwx=>∃ (n:Int) (j:Nat),SV pb L w wx j [(B4,tg 48 n i ⟨#[]⟩ none 0 0),(w.heap.size,Cg)] []/\i<=j/\mU (lk L) (f+1) i=OC (lk L) (mU (lk L) f) i n j)
 case first=>
  by_cases hk:tk=2
  ·subst hk;have HK2:=aN (show (tok (lk L) i).kind=2 from HK.out);go_upto_block 3 with fail;refine(S6.JM hX 1 99).mono ?_;rintro e w7 (⟨x,hr,rfl,hg⟩|⟨n7,j7,hr,rfl,S7⟩)
   ·unfold gM;go_wp2_with fail;exact⟨rfl,aU.err x (by simp[HU.out,aH,HK2.out,hr]) hg⟩
   have H7:=aN hr;clear hr;have hj7:=vW (lk L) 1 99 i _ _ H7.out;have:=AAD (S7.facts 0 rfl)
   go_wp2
   go_meet
   case rel=>exact⟨n7,j7,S7.put 0 rfl 1 (iq n7) aI,by omega,by simp[HU.out,aH,HK2.out,H7.out]⟩
  ·have hd:decide (tk=2)=false:=bX hk;have HK2:=aN (show ¬ (tok (lk L) i).kind=2 by rw[HK.out];exact hk)
   go_wp2
   go_meet
   case rel=>exact⟨0,i,S6,aG _,by rw[HU.out,aC HK2.out];rfl⟩
 case rest=>
  clear S6;obtain⟨n,j,S7,hij,hq⟩:=hcut;have HU:=aN hq;clear hq HK;have S8:=S7.leaf 40 0 0 e0;go_upto_region 5 with (go_at_call 87;refine(S8.pG 40 0).mono ?_;rintro e w8 ⟨rfl,S9⟩);have S10:=(S9.less (ts':=[]) (λ_ h=>by cases h)).oF Cg sZ rfl _ rfl;have S11:=S10.oF (tg 40 0 0 ⟨#[]⟩ none 0 0) (tg 40 0 0 ⟨#[]⟩ none 0 0) rfl (w8.heap.size+1) aI;generalize World.alloc (World.alloc w8 _) _=w11 at S11 ⊢;generalize w8.heap.size+1=B11 at S11 ⊢;generalize w8.heap.size=B10 at S11 ⊢;clear S7 S8 S9 S10;have hC:=S11.takeC cJ _ rfl;go_upto_if 21 with (go_at_call 123;refine hC.mono ?_;rintro e w12 ⟨rfl,S12⟩);clear hC S11;go_cut [] (λwx=>∃ (x:T) (j1:Nat) (k1 n1 a1:Int) (s1:dL) (o1:iD) (m1 c1:Nat),SV pb L w wx j1 [(B11,tg 40 0 0 ⟨#[]⟩ none 0 0),(B10,tg k1 n1 a1 s1 o1 m1 c1),(B4,tg 48 n i ⟨#[]⟩ none 0 0),(w.heap.size,Cg)] [(x,vT k1 n1 a1 s1 o1 m1 c1)]/\mU (lk L) (f+1) i=Oz (lk L) i n x j1)
  case first=>
   cases hs:cD (lk L) j [cJ] with
   | true=>
    rw[hs]at S12;replace S12:SV pb L w w12 (j+1) _ _:=S12;have HS:=aN hs;clear hs;have hM:=rK _ aCX pb L (lo+1) (mU (lk L) f) ih (acL (lk L) f) 30 aD aD (j+1) aB w12 S12.ps;go_upto_block 6 with fail;refine(S12.GQ hM).mono ?_;rintro e w13 (⟨x,hr,rfl,hg⟩|⟨l13,j13,o13,c13,hr,rfl,S13⟩)
    ·exact Qp
    have H13:=aN hr;clear hr;go_upto_block 6 with fail;refine(S13.Yp (aZ (Cb aD H13.out) aD)).mono ?_;rintro e w14 ⟨a14,hl14,rfl,S14⟩;have:=AAD (S14.facts 1 rfl);have S15:=S14.fY 1 rfl (iq 40) (iq 0) a14 (.string ⟨#[]⟩) (.slice o13 l13.length c13);unfold AY at S15;go_upto_region 7 with fail;generalize World.setCell _ (AAF B10 4) _=w15 at S15 ⊢;go_upto_block 7 with fail;refine(S15.kG dA).mono ?_;rintro e w16 (⟨x,hr,rfl,hg⟩|⟨j16,hr,rfl,S16⟩)
    ·unfold gM;go_wp2_with fail;exact⟨rfl,aU.err x (by simp[HU.out,aH,OC,HS.out,H13.out,hr]) hg⟩
    have H16:=aN hr;clear hr
    go_wp2
    go_meet
    case rel=>exact⟨gQ l13,j16,_,_,_,_,_,_,_,S16,by simp[HU.out,aH,OC,HS.out,H13.out,H16.out]⟩
   | false=>
    rw[hs]at S12;replace S12:SV pb L w w12 j _ _:=S12;have HS:=aN hs;clear hs;go_upto_block 8 with fail;refine(S12.eK (Ka pb L j w12 S12.ps)).mono ?_;rintro e w13 (⟨x,hr,rfl,hg⟩|⟨t13,j13,k13,n13,a13,s13,o13,m13,c13,hr,rfl,S13⟩)
    ·exact Qp
    have H13:=aN hr;clear hr;have:=AAD (S13.facts 1 rfl)
    go_wp2
    go_meet
    case rel=>exact⟨t13,j13,_,_,_,_,_,_,_,S13.fY 1 rfl k13 n13 a13 s13 (.slice o13 m13 c13),by simp[HU.out,aH,OC,HS.out,H13.out]⟩
  case rest=>
   clear S12;obtain⟨x,j1,k1,n1,a1,s1,o1,m1,c1,S12,hq⟩:=hcut;have HU:=aN hq;clear hq;have hC:=S12.takeC cJ _ rfl;go_upto_if 32 with (go_at_call 123;refine hC.mono ?_;rintro e w13 ⟨rfl,S13⟩);clear hC S12;go_cut [] (λwx=>∃ (y:T) (j2:Nat) (k2 n2 a2:Int) (s2:dL) (o2:iD) (m2 c2:Nat),SV pb L w wx j2 [(B11,tg k2 n2 a2 s2 o2 m2 c2),(B10,tg k1 n1 a1 s1 o1 m1 c1),(B4,tg 48 n i ⟨#[]⟩ none 0 0),(w.heap.size,Cg)] [(y,vT k2 n2 a2 s2 o2 m2 c2),(x,vT k1 n1 a1 s1 o1 m1 c1)]/\mU (lk L) (f+1) i=aaJ (lk L) i n x y j2)
   case first=>
    cases hs:cD (lk L) j1 [cJ] with
    | true=>
     rw[hs]at S13;replace S13:SV pb L w w13 (j1+1) _ _:=S13;have HS:=aN hs;clear hs;have hM:=rK _ aFL pb L 0 (pS (lk L)) (λi w _ h=>avI pb L i w h) (XV (lk L)) 3 aD aD (j1+1) (aS _) w13 S13.ps;go_upto_block 10 with fail;refine(S13.GQ hM).mono ?_;rintro e w14 (⟨x,hr,rfl,hg⟩|⟨l14,j14,o14,c14,hr,rfl,S14⟩)
     ·unfold gM;go_wp2_with fail;exact⟨rfl,aU.err x (by simp[HU.out,aH,Oz,HS.out,hr]) hg⟩
     have H14:=aN hr;clear hr;go_upto_block 10 with fail;refine(S14.Yp (aZ (Cb aD H14.out) aD)).mono ?_;rintro e w15 ⟨a15,hl15,rfl,S15⟩;have:=AAD (S15.facts 0 rfl);have S16:=S15.fY 0 rfl (iq 40) (iq 0) a15 (.string ⟨#[]⟩) (.slice o14 l14.length c14);unfold AY at S16;go_upto_region 11 with fail;generalize World.setCell _ (AAF B11 4) _=w16 at S16 ⊢;go_upto_block 11 with fail;refine(S16.kG dA).mono ?_;rintro e w17 (⟨x,hr,rfl,hg⟩|⟨j17,hr,rfl,S17⟩)
     ·unfold gM;go_wp2_with fail;exact⟨rfl,aU.err x (by simp[HU.out,aH,Oz,HS.out,H14.out,hr]) hg⟩
     have H17:=aN hr;clear hr
     go_wp2
     go_meet
     case rel=>exact⟨gQ l14,j17,_,_,_,_,_,_,_,S17,by simp[HU.out,aH,Oz,HS.out,H14.out,H17.out]⟩
    | false=>
     rw[hs]at S13;replace S13:SV pb L w w13 j1 _ _:=S13;have HS:=aN hs;clear hs
     go_wp2
     go_meet
     case rel=>exact⟨node 40 0 [],j1,_,_,_,_,_,_,_,S13.leaf 40 0 0 e0,by simp[HU.out,aH,Oz,HS.out]⟩
   case rest=>
    clear S13;obtain⟨y,j2,k2,n2,a2,s2,o2,m2,c2,S13,hq⟩:=hcut;have HU:=aN hq;clear hq;go_upto_region 12 with fail;refine qW aQ ?_;change wpAny _ _ _ _ _ _ _ (World.drew _);have Sq:=S13.drew;generalize World.drew wc=w14 at Sq ⊢;have:=AAD (Sq.facts 0 rfl);have:=AAD (Sq.facts 1 rfl);exact BR
end
