/- Part 41. -/
import Derived.Test.YtikalomcclefiaaGreatDoorV40
set_option linter.all false
set_option maxHeartbeats 0
set_option maxRecDepth 100000
namespace Go.Proofs.YtikalomcclefiaaGreatDoor
section
open Go.RowKit Lx Px
def aoJ: ∀ args w,(callFunc 116 args).run Tryz.prog w=.ok (.enter 116 args) w:=
 enters_of Tryz.func116 aD rfl
def aAM(pb:Nat)(L:List T3)(hX:qZ L):Reads 216 pb L 0 (IQ (lk L)):=by
 have:∀ f lo,L.length+1<=f+lo->Reads 216 pb L lo (mU (lk L) f):=by
  intro f
  induction f with
  | zero=>intro lo hlo i w hi h;exact absurd h.le aB
  | succ f ih=>intro lo hlo;exact axH pb L hX lo f (ih (lo+1) aB)
 exact Qf
def acI(pb:Nat)(L:List T3)(hX:qZ L)(a:Nat)(lab:dL)(i:Nat)(w:World)(h:PS w pb L i):AAA 190 #[pq pb,a,lab] w (aU pb L w (sM (lk L) a i)):=by
 have HU:=aN (show sM (lk L) a i=aH (eR (lk L) 60 (IQ (lk L)) i) λl j=>bK (lk L) (node 47 a l) j from rfl);go_in;go_upto_region 1 with fail;have S1:=SV.new h;generalize World.alloc w _=w1 at S1 ⊢;have hM:=rK _ aCX pb L 0 (IQ (lk L)) (aAM pb L hX) (aeX (lk L)) 60 aD aD i (aS _) w1 S1.ps;go_upto_block 1 with fail;refine(S1.GQ hM).mono ?_;rintro e w2 (⟨x,hr,rfl,hg⟩|⟨l2,j2,o2,c2,hr,rfl,S2⟩)
 ·exact iU
 have H2:=aN hr;clear hr;go_upto_block 1 with fail;refine gU (S2.pG 47 a) λw3 S3=>?_;go_upto_block 1 with fail;refine(S3.sR 47 0 a ⟨#[]⟩ o2 l2.length c2).mono ?_;rintro e w4 (⟨x,hr,rfl,hg⟩|⟨j4,hr,rfl,S4⟩)
 ·exact xD
 have H4:=aN hr;clear hr;have:=AAD (S4.facts 0 rfl);go_wp2_with fail;have S5:=S4.fY 0 rfl (iq 47) (iq 0) a (.string ⟨#[]⟩) (.slice o2 l2.length c2);refine nX (S5.facts 0 rfl) Tryz.results190 ?_;exact S5.res (.head _) (by simp[HU.out,aH,bK,H2.out,H4.out]<;>rfl) rfl
def Xb(L:List Tk)(stmt:Nat->R T)(a:Nat)(label:dL)(params:T)(n:Int)(ret:T)(j2:Nat):R T:=
 aH (aW L j2 aT) λ_ j3=>aH (iO L stmt label j3) λg j4=>.ok (.mk 15 n a e0 (params::ret::g),j4)
def Ju(L:List Tk)(stmt:Nat->R T)(a:Nat)(label:dL)(params:T)(n:Int)(j1:Nat):R T:=
 aH (if iT L j1 [gP]then aH (aW L (j1+1) cJ) λ_ k1=>aH (dS L k1) λx k2=>aH (pR L 3 k2) λxs k3=>aH (aW L k3 dA) λ_ k4=>.ok (gQ (x::xs),k4)
  else .ok (none_,j1)) λret j2=>Xb L stmt a label params n ret j2
def Ip(L:List Tk)(stmt:Nat->R T)(a:Nat)(label:dL)(params:T)(j:Nat):R T:=
 aH (if iT L j [gB]then aH (aW L (j+1) cJ) λ_ j1=>aH (fV L j1 [pO]) λ_ j2=>aH (aW L j2 dA) λ_ j3=>.ok ((1:Int),j3)
  else if iT L j [gE]then .ok (2,j+1)else .ok (0,j)) λn j1=>Ju L stmt a label params n j1
def aDE(L:List Tk)(stmt:Nat->R T)(a:Nat)(label:dL)(i:Nat):iE L stmt a label i =
 aH (if cD L i [cJ]then aH (eR L 8 (mI L) (i+1)) λl j=>aH (aW L j dA) λ_ j'=>.ok (gQ l,j')else .ok (node 40 0 [],i)) λparams j=>Ip L stmt a label params j:=rfl
def Kc{p:Prop}(h:p:=by
 try have:=AAD (Sq.facts 0 rfl)
 go_simp;have Sq:=Sq.lit (dO.two (Sq.tr (x,vT k1 n1 a1 s1 o1 m1 c1) Sm) (Sq.tr (y,vT k2 n2 a2 s2 o2 m2 c2) oL)) #[.int .i64 k1,.int .i64 n1,.int .i64 a1,.string s1,.slice o1 m1 c1,.int .i64 k2,.int .i64 n2,.int .i64 a2,.string s2,.slice o2 m2 c2] rfl 40 0 0 e0 2 2 rfl;refine kX aMB ⟨LP,LP⟩ λaMA=>?_;clear aMB Kx;generalize World.alloc _ (.cells #[iq k1,iq n1,iq a1,.string s1,.slice o1 m1 c1,iq k2,iq n2,iq a2,.string s2,.slice o2 m2 c2] 24)=w17 at Sq aMA ⊢;exact vB):p:=h
def JC{p:Prop}(h:p:=by
 try have:=AAD (Sq.facts 0 rfl)
 go_simp;refine(Sq.GQ (BZ pb L lo stmt hS up lab j15 aB _ Sq.ps)).mono ?_;rintro e w18 (⟨x,hr,rfl,hg⟩|⟨l18,j18,o18,c18,hr,rfl,Sq⟩)
 ·unfold gM;exact⟨rfl,aU.err x (by simp[HU.out,aH,Xb,H15.out,hr]) hg⟩
 have H18:=aN hr;clear hr;refine kX aMB ⟨LP,LP⟩ λaMA=>?_;clear aMB Kx;exact vB):p:=h
def Yc{p:Prop}(h:p:=by
 refine Kh aQ (.tmp 54) (.tmp 57) rfl Sq oL oL aD (by have:=FR up H18.out;have:=Sq.ps.le;omega) 15 0 a e0 aD rfl rfl (λao19 c19 w19 Sq=>?_);refine kX aMB ⟨LP,LP⟩ λaMA=>?_;clear aMB Kx;exact vB):p:=h
def YR{p:Prop}(h:p:=by
 try have:=AAD (Sq.facts 0 rfl)
 go_simp;refine gU (Sq.pG 15 a) λw20 Sq=>?_;refine kX aMB ⟨LP,LP⟩ λaMA=>?_;clear aMB Kx;exact vB):p:=h
def Ca{p:Prop}(h:p:=by
 try have:=AAD (Sq.facts 0 rfl)
 go_simp;have Sq:=Sq.oF Cg sZ rfl _ rfl;refine kX aMB ⟨LP,LP⟩ λaMA=>?_;clear aMB Kx;generalize World.alloc _ (.cells sZ 24)=w21 at Sq aMA ⊢;exact vB):p:=h
def amJ{p:Prop}(h:p:=by
 try have:=AAD (Sq.facts 0 rfl)
 go_simp;have Sq:=Sq.fY 0 rfl (iq 15) (iq 0) a (.string ⟨#[]⟩) (.slice ao19 (2+l18.length) c19);unfold AY at Sq;refine kX aMB ⟨LP,LP⟩ λaMA=>?_;clear aMB Kx;exact vB):p:=h
def azV{p:Prop}(h:p:=by
 go_wp2
 go_meet
 case rel=>exact⟨_,l18,j18,ao19,c19,rfl,Sq.less (λp hp=>by rw[cO.1 hp];exact .head _),H18.out⟩):p:=h
theorem vB{p:Prop}(h:p:=by
 first
 | (refine aaW ?_;exact azV)
 | (refine Kt 0 ?_;exact vB)
 | (refine Kt 1 ?_;exact vB)
 | (refine Kt 2 ?_;exact vB)
 | (refine Kt 4 ?_;exact vB)
 | (refine Kt 5 ?_;exact vB)
 | (refine qG [3,6,9] ?_;refine rB (λKx aMB=>?_) (rB (λKx aMB=>?_) (rB (λKx aMB=>?_) .nil));exact Kc;exact JC;exact Ca)
 | (refine qG [6,9] ?_;refine rB (λKx aMB=>?_) (rB (λKx aMB=>?_) .nil);exact JC;exact Ca)
 | (refine qG [7,9] ?_;refine rB (λKx aMB=>?_) (rB (λKx aMB=>?_) .nil);exact Yc;exact Ca)
 | (refine qG [8,9] ?_;refine rB (λKx aMB=>?_) (rB (λKx aMB=>?_) .nil);exact YR;exact Ca)
 | (refine qG [9] ?_;refine rB (λKx aMB=>?_) .nil;exact Ca)
 | (refine qG [10] ?_;refine rB (λKx aMB=>?_) .nil;exact amJ)
 | (refine qG [8] ?_;refine rB (λKx aMB=>?_) .nil;exact YR)
 | (refine qG [7] ?_;refine rB (λKx aMB=>?_) .nil;exact Yc)
 | (refine qG [6] ?_;refine rB (λKx aMB=>?_) .nil;exact JC)
 | (refine qG [3,9] ?_;refine rB (λKx aMB=>?_) (rB (λKx aMB=>?_) .nil);exact Kc;exact Ca)
 | (refine qG [3] ?_;refine rB (λKx aMB=>?_) .nil;exact Kc)
 | (refine qG [3,6] ?_;refine rB (λKx aMB=>?_) (rB (λKx aMB=>?_) .nil);exact Kc;exact JC)):p:=h
def Xx(pb:Nat)(L:List T3)(hX:qZ L)(lo:Nat)(stmt:Nat->R T)(hS:Reads 46 pb L lo stmt)(up:∀ i,Up (i+1) (stmt i))(a:Nat)(lab:dL)(i:Nat)(hi:lo<=i)(w:World)(h:PS w pb L i):AAA 167 #[pq pb,a,lab] w (aU pb L w (iE (lk L) stmt a lab i)):=by
 have HU:=aN (aDE (lk L) stmt a lab i);have hbd:=h.bd;go_in;go_upto_region 1 with fail;have S1:=SV.new h;generalize World.alloc w _=w1 at S1 ⊢;have S2:=S1.leaf 40 0 0 e0;go_upto_block 1 with fail;refine gU (S2.pG 40 0) λw2 S3=>?_;go_upto_block 1 with fail;refine gU (S3.Mn) λw3 S4=>?_;go_upto_region 2 with fail;have S10:=(S4.less (ts':=[]) (λ_ h=>by cases h)).oF (tg 40 0 0 ⟨#[]⟩ none 0 0) (tg 40 0 0 ⟨#[]⟩ none 0 0) rfl _ rfl;have S11:=S10.oF (tg 10 0 0 ⟨#[]⟩ none 0 0) (tg 10 0 0 ⟨#[]⟩ none 0 0) rfl (w3.heap.size+1) aI;generalize World.alloc (World.alloc w3 _) _=w11 at S11 ⊢;generalize w3.heap.size+1=B8 at S11 ⊢;generalize w3.heap.size=B7 at S11 ⊢;clear S1 S2 S3 S4 S10;have hC:=S11.takeC cJ _ rfl;go_upto_if 14 with (go_at_call 123;refine hC.mono ?_;rintro e w12 ⟨rfl,S12⟩);clear hC S11;go_cut [] (λwx=>∃ (x:T) (j:Nat) (k1 n1 a1:Int) (s1:dL) (o1:iD) (m1 c1:Nat),SV pb L w wx j [(B8,tg 10 0 0 ⟨#[]⟩ none 0 0),(B7,tg k1 n1 a1 s1 o1 m1 c1),(w.heap.size,Cg)] [(x,vT k1 n1 a1 s1 o1 m1 c1)]/\i<=j/\iE (lk L) stmt a lab i=Ip (lk L) stmt a lab x j)
 case first=>
  cases hs:cD (lk L) i [cJ] with
  | true=>
   rw[hs]at S12;replace S12:SV pb L w w12 (i+1) _ _:=S12;have HS:=aN hs;clear hs;have hM:=rK _ aoJ pb L 0 (mI (lk L)) (λi w _ h=>Ka pb L i w h) (oX (lk L)) 8 aD aD (i+1) (aS _) w12 S12.ps;go_upto_block 3 with fail;refine(S12.GQ hM).mono ?_;rintro e w13 (⟨x,hr,rfl,hg⟩|⟨l13,j13,o13,c13,hr,rfl,S13⟩)
   ·exact rV
   have H13:=aN hr;clear hr;have hj13:=iZ (lk L) (oX (lk L)) 8 (i+1) _ _ H13.out;go_upto_block 3 with fail;refine(S13.Yp (aZ (Cb aD H13.out) aD)).mono ?_;rintro e w14 ⟨a14,hl14,rfl,S14⟩;have:=AAD (S14.facts 1 rfl);have S15:=S14.fY 1 rfl (iq 40) (iq 0) a14 (.string ⟨#[]⟩) (.slice o13 l13.length c13);unfold AY at S15;go_upto_region 4 with fail;generalize World.setCell _ (AAF B7 4) _=w15 at S15 ⊢;go_upto_block 4 with fail;refine(S15.kG dA).mono ?_;rintro e w16 (⟨x,hr,rfl,hg⟩|⟨j16,hr,rfl,S16⟩)
   ·unfold gM;go_wp2_with fail;exact⟨rfl,aU.err x (by simp[HU.out,aH,HS.out,H13.out,hr]) hg⟩
   have H16:=aN hr;clear hr;have hj16:=bM (lk L) j13 dA _ _ H16.out
   go_wp2
   go_meet
   case rel=>exact⟨gQ l13,j16,_,_,_,_,_,_,_,S16,by omega,by simp[HU.out,aH,HS.out,H13.out,H16.out]⟩
  | false=>
   rw[hs]at S12;replace S12:SV pb L w w12 i _ _:=S12;have HS:=aN hs;clear hs
   go_wp2
   go_meet
   case rel=>exact⟨node 40 0 [],i,_,_,_,_,_,_,_,S12.leaf 40 0 0 e0,aG _,by simp[HU.out,aH,HS.out]⟩
 case rest=>
  clear S12;obtain⟨x,j,k1,n1,a1,s1,o1,m1,c1,S12,hij,hq⟩:=hcut;have HU:=aN hq;clear hq;have hC:=S12.Li [gB] aI #[.string ⟨#[79,80,84,73,79,78,83]⟩] rfl 1 rfl _ rfl;go_upto_if 24 with (go_at_call 124;refine hC.mono ?_;rintro e w13 ⟨rfl,S13⟩);clear hC S12;go_cut [9] (λv9 wx=>∃ (n:Int) (j1:Nat),v9=.int .i64 n/\SV pb L w wx j1 [(B8,tg 10 0 0 ⟨#[]⟩ none 0 0),(B7,tg k1 n1 a1 s1 o1 m1 c1),(w.heap.size,Cg)] [(x,vT k1 n1 a1 s1 o1 m1 c1)]/\i<=j1/\iE (lk L) stmt a lab i=Ju (lk L) stmt a lab x n j1)
  case first=>
   cases hs:iT (lk L) j [gB] with
   | true=>
    rw[hs]at S13;replace S13:SV pb L w w13 (j+1) _ _:=S13;have HS:=aN hs;clear hs;go_upto_block 7 with fail;refine(S13.kG cJ).mono ?_;rintro e w14 (⟨x,hr,rfl,hg⟩|⟨j14,hr,rfl,S14⟩)
    ·unfold gM;go_wp2_with fail;exact⟨rfl,aU.err x (by simp[HU.out,aH,Ip,HS.out,hr]) hg⟩
    have H14:=aN hr;clear hr;go_upto_block 8 with fail;refine(S14.El [pO] aI _ rfl 1 rfl).mono ?_;rintro e w15 (⟨x,hr,rfl,hg⟩|⟨j15,hr,rfl,S15⟩)
    ·unfold gM;go_wp2_with fail;exact⟨rfl,aU.err x (by simp[HU.out,aH,Ip,HS.out,H14.out,hr]) hg⟩
    have H15:=aN hr;clear hr;go_upto_block 9 with fail;refine(S15.kG dA).mono ?_;rintro e w16 (⟨x,hr,rfl,hg⟩|⟨j16,hr,rfl,S16⟩)
    ·unfold gM;go_wp2_with fail;exact⟨rfl,aU.err x (by simp[HU.out,aH,Ip,HS.out,H14.out,H15.out,hr]) hg⟩
    have H16:=aN hr;clear hr;have h14:=bM (lk L) _ cJ _ _ H14.out;have h15:=oZ (lk L) _ _ _ _ H15.out;have h16:=bM (lk L) _ dA _ _ H16.out
    go_wp2
    go_meet
    case rel=>exact⟨1,j16,rfl,S16,by omega,by simp[HU.out,aH,Ip,HS.out,H14.out,H15.out,H16.out]⟩
   | false=>
    rw[hs]at S13;replace S13:SV pb L w w13 j _ _:=S13;have HS:=aN hs;clear hs;have hC:=S13.Li [gE] aI #[.string ⟨#[82,69,67,85,82,83,73,86,69]⟩] rfl 1 rfl _ rfl;go_upto_if 34 with (go_at_call 124;refine hC.mono ?_;rintro e w14 ⟨rfl,S14⟩);clear hC S13
    cases hs2:iT (lk L) j [gE] with
    | true=>
     rw[hs2]at S14;replace S14:SV pb L w w14 (j+1) _ _:=S14;have HS2:=aN hs2;clear hs2
     go_wp2
     go_meet
     case rel=>exact⟨2,j+1,rfl,S14,by omega,by simp[HU.out,aH,Ip,HS.out,HS2.out]⟩
    | false=>
     rw[hs2]at S14;replace S14:SV pb L w w14 j _ _:=S14;have HS2:=aN hs2;clear hs2
     go_wp2
     go_meet
     case rel=>exact⟨0,j,rfl,S14,hij,by simp[HU.out,aH,Ip,HS.out,HS2.out]⟩
  case rest=>
   clear S13;obtain⟨n,j1,rfl,S13,hij1,hq⟩:=hcut;have HU:=aN hq;clear hq;have hC:=S13.Li [gP] aI #[.string ⟨#[82,69,84,85,82,78,83]⟩] rfl 1 rfl _ rfl;go_upto_if 37 with (go_at_call 124;refine hC.mono ?_;rintro e w14 ⟨rfl,S14⟩);clear hC S13;go_cut [] (λwx=>∃ (y:T) (j2:Nat) (k2 n2 a2:Int) (s2:dL) (o2:iD) (m2 c2:Nat),SV pb L w wx j2 [(B8,tg k2 n2 a2 s2 o2 m2 c2),(B7,tg k1 n1 a1 s1 o1 m1 c1),(w.heap.size,Cg)] [(y,vT k2 n2 a2 s2 o2 m2 c2),(x,vT k1 n1 a1 s1 o1 m1 c1)]/\i<=j2/\iE (lk L) stmt a lab i=Xb (lk L) stmt a lab x n y j2)
   case first=>
    cases hs:iT (lk L) j1 [gP] with
    | true=>
     rw[hs]at S14;replace S14:SV pb L w w14 (j1+1) _ _:=S14;have HS:=aN hs;clear hs;go_upto_block 14 with fail;refine(S14.kG cJ).mono ?_;rintro e w15 (⟨x,hr,rfl,hg⟩|⟨j15,hr,rfl,S15⟩)
     ·unfold gM;go_wp2_with fail;exact⟨rfl,aU.err x (by simp[HU.out,aH,Ju,HS.out,hr]) hg⟩
     have H15:=aN hr;clear hr;go_upto_block 15 with fail;refine(S15.eK (Ky pb L hX j15 w15 S15.ps)).mono ?_;rintro e w16 (⟨x,hr,rfl,hg⟩|⟨t16,j16,k16,n16,a16,s16,o16,m16,c16,hr,rfl,S16⟩)
     ·unfold gM;go_wp2_with fail;exact⟨rfl,aU.err x (by simp[HU.out,aH,Ju,HS.out,H15.out,hr]) hg⟩
     have H16:=aN hr;clear hr;have S17:=S16.lit (dO.one (S16.tr _ (.head _))) (tg k16 n16 a16 s16 o16 m16 c16) rfl 40 0 0 e0 1 1 rfl;go_upto_block 15 with fail;refine(S17.GQ (Hu pb L hX 3 aD j16 _ S17.ps)).mono ?_;rintro e w18 (⟨x,hr,rfl,hg⟩|⟨l18,j18,o18,c18,hr,rfl,S18⟩)
     ·unfold gM;go_wp2_with fail;exact⟨rfl,aU.err x (by simp[HU.out,aH,Ju,HS.out,H15.out,H16.out,hr]) hg⟩
     have H18:=aN hr;clear hr;go_upto_block 15 with (at_builtin;go_loud (refine IV rfl _ _ rfl S18 (.tail _ (.head _)) (.head _) aD (aZ (NF _ _ _ _ _ H18.out) aD) 40 0 0 e0 aD rfl rfl (λao19 c19 w19 S19=>?_)));refine(S19.Yp (l:=t16::l18) (by have:=NF _ _ _ _ _ H18.out;simp at this ⊢; omega)).mono ?_;rintro e w20 ⟨a20,hl20,rfl,S20⟩;have:=AAD (S20.facts 0 rfl);have S21:=S20.fY 0 rfl (iq 40) (iq 0) a20 (.string ⟨#[]⟩) (.slice ao19 (1+l18.length) c19);unfold AY at S21;go_upto_region 16 with fail;generalize World.setCell _ (AAF B8 4) _=w21 at S21 ⊢;go_upto_block 16 with fail;refine(S21.kG dA).mono ?_;rintro e w22 (⟨x,hr,rfl,hg⟩|⟨j22,hr,rfl,S22⟩)
     ·unfold gM;go_wp2_with fail;exact⟨rfl,aU.err x (by simp[HU.out,aH,Ju,HS.out,H15.out,H16.out,H18.out,hr]) hg⟩
     have H22:=aN hr;clear hr;have h15:=bM (lk L) _ cJ _ _ H15.out;have h16:=uV (lk L) _ _ _ H16.out;have h18:=JU (lk L) 3 _ _ _ H18.out;have h22:=bM (lk L) _ dA _ _ H22.out
     go_wp2
     go_meet
     case rel => exact ⟨gQ (t16 :: l18), j22, _, _, _, _, _, _, _, S22.less (λp hp => by
       rcases bO.1 hp with rfl | hp
       · exact .head _
       · rw [cO.1 hp]; simp), by omega, by simp [HU.out, aH, Ju, HS.out, H15.out, H16.out, H18.out, H22.out]⟩
    | false=>
     rw[hs]at S14;replace S14:SV pb L w w14 j1 _ _:=S14;have HS:=aN hs;clear hs
     go_wp2
     go_meet
     case rel=>exact⟨none_,j1,_,_,_,_,_,_,_,S14.leaf 10 0 0 e0,hij1,by simp[HU.out,aH,Ju,HS.out]⟩
   case rest=>
    clear S14;obtain⟨y,j2,k2,n2,a2,s2,o2,m2,c2,S14,hij2,hq⟩:=hcut;have HU:=aN hq;clear hq;go_upto_block 17 with fail;refine(S14.kG aT).mono ?_;rintro e w15 (⟨x,hr,rfl,hg⟩|⟨j15,hr,rfl,S15⟩)
    ·unfold gM;go_wp2_with fail;exact⟨rfl,aU.err x (by simp[HU.out,aH,Xb,hr]) hg⟩
    have H15:=aN hr;clear hr;have h15:=bM (lk L) _ aT _ _ H15.out;go_upto_region 18 with fail;go_cut [10] (λv10 wx=>∃ (B10:Nat) (g:List T) (j3:Nat) (ao:iD) (c:Nat),v10=.pointer (some (AAF B10 0))/\SV pb L w wx j3 [(B10,tg 15 0 a ⟨#[]⟩ ao (2+g.length) c),(B8,tg k2 n2 a2 s2 o2 m2 c2),(B7,tg k1 n1 a1 s1 o1 m1 c1),(w.heap.size,Cg)] [(.mk 15 0 a e0 (x::y::g),vT 15 0 a e0 ao (2+g.length) c)]/\iO (lk L) stmt lab j15=.ok (g,j3))
    case first=>
     have Sq:=S15.drew;refine fW (S:=(λw'=>TV w' B8 k2 n2 a2 s2 (.slice o2 m2 c2)/\TV w' B7 k1 n1 a1 s1 (.slice o1 m1 c1))) aQ ⟨LP,LP⟩ (λaMA=>?_);generalize World.drew w15=w16 at *;exact vB
    case rest=>
     obtain⟨B10,g,j3,ao,c,rfl,S16,hq⟩:=hcut;have H16:=aN hq;clear hq S15 S14;have:=AAD (S16.facts 0 rfl);have S17:=(S16.put 0 rfl 1 (iq n) aI).OV 15 n a e0;go_upto_region 20 with fail;generalize World.setCell wc (AAF B10 1) _=w17 at S17 ⊢;have:=AAD (S17.facts 0 rfl);have:=AAD (S17.facts 3 rfl);go_wp2_with fail;have S18:=S17.fY 3 rfl (iq 15) n a (.string ⟨#[]⟩) (.slice ao (2+g.length) c);refine nX (S18.facts 3 rfl) Tryz.results167 ?_;exact S18.res (.head _) (by simp[HU.out,aH,Xb,H15.out,H16.out]<;>rfl) rfl
end
