/- ParseWhole, part 32: what it stands on. -/
import Derived.Test.YtfdlmcgcckkkdaaGreatDoorV13
import Derived.Test.YtfdlmcgcckkkdaaGreatDoorV20
import Derived.Test.YtfdlmcgcckkkdaaGreatDoorV01
import Derived.BigQuiet
import Derived.Lib.AtoiErrMem
set_option linter.all false
set_option maxHeartbeats 40000000
set_option maxRecDepth 100000
namespace Go.Proofs.YtfdlmcgcckkkdaaGreatDoor
section
namespace Px
open Lx
variable (L:List Tk)
theorem oL{α:Type}{k:Nat}{r:R α}(h:Up k r:=by repeat (first|exact Up.err _|(exact Up.ok (by omega))|exact((aK L _ _).le (by omega))|exact((iM L _ _).le (by omega))|exact((hG L _).le (by omega))|exact((fM L _).le (by omega))|exact((iI L _ _ _).le (by omega))|exact((dD L _).le (by omega))|exact((bD L _).le (by omega))|exact((nI L _).le (by omega))|exact((dB L (fM L) _ _).le (by omega))|exact((dB L (bD L) _ _).le (by omega))|exact((dB L (dD L) _ _).le (by omega))|exact((lN L (bD L) _).le (by omega))|exact((jK L (bD L) _).le (by omega))|exact((gL L (bD L) _).le (by omega))|exact((eT L _).le (by omega))|exact((dW L _ _).le (by omega))|exact((gO L _ _).le (by omega))|exact((oH L _ _).le (by omega))|exact((lZ L _ _).le (by omega))|exact((xE L _ _).le (by omega))|exact((mG L _).le (by omega))|exact((cG L _ _).le (by omega))|exact((oY L _ _).le (by omega))|(refine Up.bind (k:=?_) (by first|exact aK L _ _|exact iM L _ _|exact hG L _|exact fM L _|exact iI L _ _ _|exact dD L _|exact bD L _|exact nI L _|exact dB L (fM L) _ _|exact dB L (bD L) _ _|exact dB L (dD L) _ _|exact lN L (bD L) _|exact jK L (bD L) _|exact gL L (bD L) _|exact eT L _|exact dW L _ _|exact gO L _ _|exact oH L _ _|exact lZ L _ _|exact xE L _ _|exact mG L _|exact cG L _ _|exact oY L _ _|exact Up.ok (Nat.le_refl _)) (fun _ _ _=>?_))|(refine Up.ite (fun _=>?_) (fun _=>?_)))):Up k r:=h
theorem eT(i:Nat):Up (i+1) (cQ L i):=by
 unfold cQ;exact oL
theorem dW(w:ByteArray)(i:Nat):Up i (fC L w i):=by
 unfold fC;exact oL
theorem gO(w:ByteArray)(i:Nat):Up i (gB L w i):=by
 unfold gB;exact oL
theorem oH(w:ByteArray)(i:Nat):Up i (kL L w i):=by
 unfold kL;exact oL
theorem lZ(w:ByteArray)(i:Nat):Up i (dX L w i):=by
 unfold dX;exact oL
theorem xE(label:ByteArray)(i:Nat):Up (i+1) (Cs L label i):=by
 unfold Cs;refine(iM L i [GP]).bind fun _ j hj=>?_;refine(aK L _ aS).le ?_
 split<;>omega
theorem FX{stmt:Nat→R T}(h:∀ i,Up (i+1) (stmt i))(label:ByteArray):∀ f acc i,Up (i+1) (fJ L stmt label f acc i):=by
 intro f
 induction f with
 | zero=>intro acc i;unfold fJ;exact .err _
 | succ f ih=>
  intro acc i;unfold fJ;exact Up.ite (fun _=>(xE L label i).bind fun _ j hj=>.ok hj) fun _=>(h i).bind fun x j hj=>(ih _ j).le (by omega)
theorem nP{stmt:Nat→R T}(h:∀ i,Up (i+1) (stmt i))(label:ByteArray)(i:Nat):Up (i+1) (fF L stmt label i):=FX L h label _ _ i
theorem mG(i:Nat):Up (i+1) (pA L i):=by
 unfold pA;exact oL
theorem cG(t:T)(i:Nat):Up (i+1) (aG L t i):=by
 unfold aG;exact oL
theorem oY(arg:Bool)(i:Nat):Up (i+1) (pD L arg i):=by
 unfold pD;exact oL
theorem yM: ∀ f i,Up (i+1) (gJ L f i):=by
 intro f
 induction f with
 | zero=>intro i;unfold gJ;exact .err _
 | succ f ih=>
  intro i;unfold gJ;refine Up.ite (fun _=>?_) (fun _=>?_)
  ·exact(iI L 1 100 i).bind fun n j hj=>(aK L j sLP).bind fun _ j1 h1=>(dB L ih L.length j1).bind fun l j2 h2=>(aK L j2 sRP).bind fun _ j3 h3=>.ok (by omega)
  ·refine(hG L i).bind fun s j hj=>?_;exact Up.ite (fun _=>Up.ite (fun _=>(dD L j).bind fun x j' h'=>.ok (by omega)) fun _=>.err _) fun _=>
    Up.ite (fun _=>(dB L (dD L) 2 (j+1)).bind fun l j' h'=>(aK L j' sRP).bind fun _ j2 h2=>.ok (by omega)) fun _=>.ok (by omega)
theorem oU(i:Nat):Up (i+1) (mY L i):=yM L _ i
theorem wI(i:Nat):Up (i+1) (bK L i):=by
 unfold bK;simp only
 split
 ·exact gL L (bD L) i
 ·refine Up.ite (fun _=>Up.ite (fun _=>?_) (fun _=>?_)) (fun _=>gL L (bD L) i)
  ·exact(dD L (i+4)).bind fun x j hj=>.ok (by omega)
  ·exact(dD L (i+3)).bind fun x j hj=>.ok (by omega)
theorem jF(i:Nat):Up (i+1) (bT L i):=by
 unfold bT;refine(hG L i).bind fun s j hj=>?_;simp only
 exact Up.ite (fun _=>Up.ite (fun _=>(dD L j).bind fun x j' h'=>.ok (by omega)) fun _=>.err _) fun _=>
  Up.ite (fun _=>(jK L (bD L) j).bind fun x j' h'=>.ok (by omega)) fun _=>
  Up.ite (fun _=>Up.ite (fun _=>.ok (by omega)) fun _=>(dB L (wI L) 60 (j+1)).bind fun l j' h'=>(aK L j' sRP).bind fun _ j2 h2=>.ok (by omega)) fun _=>.ok (by omega)
theorem FL: ∀ n acc j,Up j (fD L n acc j):=by
 intro n
 induction n with
 | zero=>intro acc j;unfold fD;exact .ok (Nat.le_refl _)
 | succ n ih=>
  intro acc j;unfold fD;exact Up.ite (fun _=>(jF L j).bind fun x j' hj=>(ih _ j').le (by omega)) (fun _=>.ok (Nat.le_refl _))
theorem wO(most i:Nat):Up i (lG L most i):=FL L most [] i
theorem Bg(i:Nat):Up (i+1) (qV L i):=by
 unfold qV;exact(bD L i).bind fun x j hj=>Up.ite (fun _=>(bD L (j+1)).bind fun y j' h'=>.ok (by omega)) fun _=>.ok (by omega)
theorem EA: ∀ f i,Up (i+1) (mI L f i):=by
 intro f
 induction f with
 | zero=>intro i;unfold mI;exact .err _
 | succ f ih=>
  intro i;unfold mI;refine Up.bind (k:=i) (Up.ite (fun _=>(iI L 1 99 i).bind fun n j hj=>.ok (by omega)) fun _=>.ok (Nat.le_refl _)) fun n j hj=>?_;refine Up.bind (k:=i+1) (Up.ite (fun _=>(dB L ih 30 (j+1)).bind fun l j' h'=>(aK L j' sRP).bind fun _ j2 h2=>.ok (by omega)) fun _=>(fM L j).le (by omega)) fun what j1 h1=>?_;refine Up.bind (k:=i+1) (Up.ite (fun _=>(dB L (Bg L) 3 (j1+1)).bind fun l j' h'=>(aK L j' sRP).bind fun _ j2 h2=>.ok (by omega)) fun _=>.ok h1) fun bounds j2 h2=>?_;exact(wO L 12 j2).bind fun aSq j3 h3=>.ok (by omega)
theorem Et(i:Nat):Up (i+1) (Gh L i):=EA L _ i
theorem zG(k:Int)(a:Nat){item:Nat→R T}(h:∀ i,Up (i+1) (item i))(i:Nat):Up i (fO L k a item i):=by
 unfold fO;refine Up.bind (k:=i) (Up.ite (fun _=>(mG L i).le (by omega)) fun _=>.ok (Nat.le_refl _)) fun w j hj=>?_;refine Up.bind (k:=i) (Up.ite (fun _=>(aK L (j+1) sLP).bind fun _ j1 h1=>(iI L 1 99 j1).bind fun n j2 h2=>(aK L j2 sRP).bind fun _ j3 h3=>.ok (by omega)) fun _=>.ok hj) fun n j1 h1=>?_
 refine Up.bind (k := i) (Up.ite (fun _ => (aK L (j1 + 1) sLP).bind fun _ k1 g1 => (dB L h 16 k1).bind fun l k2 g2 => (aK L k2 sRP).bind fun _ k3 g3 =>
   Up.ite (fun _ => (aK L k3 sLP).bind fun _ k4 g4 => (dB L (oU L) 32 k4).bind fun m k5 g5 => (aK L k5 sRP).bind fun _ k6 g6 => .ok (by omega)) fun _ => .ok (by omega)) fun _ => .ok h1) fun lm j2 h2 => ?_
 exact(cG L _ j2).le (by omega)
theorem uX(k:Int)(a i:Nat):Up i (fH L k a i):=by
 unfold fH;exact Up.ite (fun _=>(hG L i).bind fun s j hj=>(cG L _ j).le (by omega)) fun _=>(cG L _ i).le (by omega)
theorem GZ{inner:Nat→R T}(h:∀ i,Up (i+1) (inner i)):∀ f acc i,Up i (gV L inner f acc i):=by
 intro f
 induction f with
 | zero=>intro acc i;unfold gV;exact .err _
 | succ f ih=>
  intro acc i;unfold gV;exact Up.ite (fun _=>(aK L (i+1) sLP).bind fun _ j hj=>(dB L (bD L) 8 j).bind fun l j1 h1=>(aK L j1 sRP).bind fun _ j2 h2=>(h j2).bind fun x j3 h3=>(ih _ j3).le (by omega)) fun _=>.ok (Nat.le_refl _)
theorem Ad{stmt:Nat→R T}(h:∀ i,Up (i+1) (stmt i))(a:Nat)(label:ByteArray)(i:Nat):Up i (eX L stmt a label i):=by
 unfold eX;refine Up.bind (k:=i) (Up.ite (fun _=>(dB L (fM L) 8 (i+1)).bind fun l j hj=>(aK L j sRP).bind fun _ j' h'=>.ok (by omega)) fun _=>.ok (Nat.le_refl _)) fun params j hj=>?_;refine Up.bind (k:=i) (Up.ite (fun _=>(aK L (j+1) sLP).bind fun _ j1 h1=>(iM L j1 [iV]).bind fun _ j2 h2=>(aK L j2 sRP).bind fun _ j3 h3=>.ok (by omega)) fun _=>Up.ite (fun _=>.ok (by omega)) fun _=>.ok hj) fun n j1 h1=>?_;refine Up.bind (k:=i) (Up.ite (fun _=>(aK L (j1+1) sLP).bind fun _ k1 g1=>(jF L k1).bind fun x k2 g2=>(wO L 3 k2).bind fun xs k3 g3=>(aK L k3 sRP).bind fun _ k4 g4=>.ok (by omega)) fun _=>.ok h1) fun ret j2 h2=>?_;exact(aK L j2 aS).bind fun _ j3 h3=>(nP L h label j3).bind fun g j4 h4=>.ok (by omega)
theorem OS{stmt:Nat→R T}(h:∀ i,Up (i+1) (stmt i))(a:Nat)(label:ByteArray)(i:Nat):Up i (doP L stmt a label i):=by
 unfold doP;refine Up.ite (fun _=>(nP L h label (i+1)).bind fun g j hj=>.ok (by omega)) fun _=>Up.ite (fun _=>?_) fun _=>Up.ite (fun _=>?_) fun _=>.err _
 ·exact(nI L i).bind fun r j h0=>(aK L j sEQ).bind fun _ j1 h1=>(bD L j1).bind fun x j2 h2=>(gO L wTO j2).bind fun t j3 h3=>(gO L wBY j3).bind fun b j4 h4=>
   (dW L eM j4).bind fun wh j5 h5=>(dW L eL j5).bind fun un j6 h6=>(aK L j6 aS).bind fun _ j7 h7=>(nP L h label j7).bind fun g j8 h8=>.ok (by omega)
 ·exact(dW L eM i).bind fun wh j h0=>(dW L eL j).bind fun un j1 h1=>(aK L j1 aS).bind fun _ j2 h2=>(nP L h label j2).bind fun g j3 h3=>.ok (by omega)
theorem FZ{inner:Nat→R T}(h:∀ i,Up (i+1) (inner i))(a:Nat)(label:ByteArray)(i:Nat):Up i (iA L inner a label i):=by
 unfold iA;refine Up.bind (k:=i) (Up.ite (fun _=>(eT L i).le (by omega)) fun _=>.ok (Nat.le_refl _)) fun x j hj=>(aK L j aS).bind fun _ j1 h1=>(GZ L h _ [x] j1).bind fun l j2 h2=>?_;refine Up.bind (k:=i) (Up.ite (fun _=>(h (j2+1)).bind fun y j3 h3=>.ok (by omega)) fun _=>.ok (by omega)) fun l2 j3 h3=>(xE L label j3).bind fun _ j4 h4=>.ok (by omega)
theorem GD{inner:Nat→R T}(h:∀ i,Up (i+1) (inner i))(a i:Nat):Up i (qA L inner a i):=by
 unfold qA;exact(bD L i).bind fun x j h0=>(iM L j [kY]).bind fun _ j1 h1=>(h j1).bind fun y j2 h2=>Up.ite (fun _=>(h (j2+1)).bind fun z j3 h3=>.ok (by omega)) fun _=>.ok (by omega)
theorem LH(a i:Nat):Up i (Dw L a i):=by
 unfold Dw;exact(lN L (bD L) i).bind fun x j hj=>(cG L _ j).le (by omega)
theorem LL(a i:Nat):Up i (Dg L a i):=by
 unfold Dg;exact Up.ite (fun _=>(eT L i).bind fun x j hj=>(cG L _ j).le (by omega)) fun _=>(cG L _ i).le (by omega)
theorem Ey(a i:Nat):Up i (wQ L a i):=by
 unfold wQ;exact(hG L i).bind fun s j hj=>(cG L _ j).le (by omega)
theorem Pa{inner:Nat→R T}(h:∀ i,Up (i+1) (inner i))(a i:Nat):Up i (onP L inner a i):=by
 unfold onP;simp only
 exact(oY L _ i).bind fun c j h0=>Up.ite (fun _=>(cG L _ (j+1)).le (by omega)) fun _=>(h j).bind fun x j1 h1=>.ok (by omega)
theorem BH(a i:Nat):Up i (jP L a i):=by
 unfold jP;exact(hG L i).bind fun s j h0=>(oH L Jw j).bind fun x j1 h1=>(oH L wIN j1).bind fun y j2 h2=>(cG L _ j2).le (by omega)
theorem KB(a i:Nat):Up i (DE L a i):=by
 unfold DE;exact(nI L i).bind fun r j h0=>(oH L wIN j).bind fun x j1 h1=>(cG L _ j1).le (by omega)
theorem KA(a i:Nat):Up i (DS L a i):=by
 unfold DS;exact(mG L i).bind fun s j h0=>(lZ L wW j).bind fun r j1 h1=>(dW L pM j1).bind fun x j2 h2=>(cG L _ j2).le (by omega)
theorem CS(a i:Nat):Up i (mJ L a i):=by
 unfold mJ;exact(mG L i).bind fun s j h0=>(lZ L kP j).bind fun r j1 h1=>(dW L pM j1).bind fun x j2 h2=>(cG L _ j2).le (by omega)
theorem IC(a i:Nat):Up i (vQ L a i):=by
 unfold vQ;exact(mG L i).bind fun s j h0=>(lZ L kP j).bind fun r j1 h1=>(iM L j1 [hZ]).bind fun _ j2 h2=>(eT L j2).bind fun x j3 h3=>(cG L _ j3).le (by omega)
theorem Gl(a i:Nat):Up i (qH L a i):=by
 unfold qH;exact(mG L i).bind fun s j h0=>(iM L j [pM]).bind fun _ j1 h1=>(eT L j1).bind fun x j2 h2=>(cG L _ j2).le (by omega)
theorem Ea(a i:Nat):Up i (mH L a i):=by
 unfold mH;exact(dB L (Et L) 60 i).bind fun l j hj=>(cG L _ j).le (by omega)
theorem dM{α:Type}{c:Prop}[Decidable c]{x r:α}{o:Option α}(h:(if c then some x else o)=some r):x=r∨o=some r:=by
 by_cases hc:c
 ·rw[if_pos hc]at h;exact .inl (Option.some.inj h)
 ·rw[if_neg hc]at h;exact .inr h
theorem Ed{stmt inner:Nat→R T}(h:∀ i,Up (i+1) (stmt i))(g:∀ i,Up (i+1) (inner i))(w:ByteArray)(a:Nat)(label:ByteArray)(i:Nat)(r:R T)(hr:gW L stmt inner w a label i=some r):Up i r:=by
 unfold gW at hr;have end1:=fun t=>(cG L t i).le (Nat.le_succ i)
 rcases dM hr with rfl|hr
 ·exact Ad L h a label i
 rcases dM hr with rfl|hr
 ·exact(aK L i aS).bind fun _ j hj=>(nP L h label j).bind fun g j1 h1=>.ok (by omega)
 rcases dM hr with rfl|hr
 ·exact OS L h a label i
 rcases dM hr with rfl|hr
 ·exact FZ L g a label i
 rcases dM hr with rfl|hr
 ·exact GD L g a i
 rcases dM hr with rfl|hr
 ·exact LH L a i
 rcases dM hr with rfl|hr
 ·exact LL L a i
 rcases dM hr with rfl|hr
 ·exact(iM L i [wTO]).bind fun _ j hj=>(Ey L a j).le (by omega)
 rcases dM hr with rfl|hr
 ·exact Ey L a i
 rcases dM hr with rfl|hr
 ·exact uX L 28 a i
 rcases dM hr with rfl|hr
 ·exact uX L 29 a i
 rcases dM hr with rfl|hr
 ·exact end1 _
 rcases dM hr with rfl|hr
 ·exact Pa L g a i
 rcases dM hr with rfl|hr
 ·exact(oY L true i).bind fun c j hj=>(cG L _ j).le (by omega)
 rcases dM hr with rfl|hr
 ·exact(oY L true i).bind fun c j hj=>(cG L _ j).le (by omega)
 rcases dM hr with rfl|hr
 ·exact BH L a i
 rcases dM hr with rfl|hr
 ·exact KB L a i
 rcases dM hr with rfl|hr
 ·exact zG L 38 a (nI L) i
 rcases dM hr with rfl|hr
 ·exact zG L 39 a (bD L) i
 rcases dM hr with rfl|hr
 ·exact KA L a i
 rcases dM hr with rfl|hr
 ·exact IC L a i
 rcases dM hr with rfl|hr
 ·exact CS L a i
 rcases dM hr with rfl|hr
 ·exact Gl L a i
 rcases dM hr with rfl|hr
 ·exact Ea L a i
 cases hr
theorem Iq{stmt inner:Nat→R T}(h:∀ i,Up (i+1) (stmt i))(g:∀ i,Up (i+1) (inner i))(inr:Bool)(label:ByteArray)(i:Nat):Up (i+1) (iT L stmt inner inr label i):=by
 unfold iT;simp only
 refine Up.ite (fun _=>.ok (Nat.le_refl _)) fun _=>Up.ite (fun _=>?_) fun _=>Up.ite (fun _=>.err _) fun _=>?_
 ·exact(nI L i).bind fun r j h0=>(aK L j sEQ).bind fun _ j1 h1=>(bD L j1).bind fun x j2 h2=>(aK L j2 aS).bind fun _ j3 h3=>.ok (by omega)
 ·split
  ·exact .err _
  ·exact Ed L h g _ _ _ _ _ ‹_›
theorem iR{lab:Bool→ByteArray→Nat→R T}(h:∀ b l i,Up (i+1) (lab b l i))(inr:Bool)(i:Nat):Up (i+1) (cH L lab inr i):=by
 unfold cH;exact Up.ite (fun _=>(dB L (fM L) 4 (i+1)).bind fun l j h0=>(aK L j sRP).bind fun _ j1 h1=>(aK L j1 bY).bind fun _ j2 h2=>(h inr e0 j2).bind fun x j3 h3=>.ok (by omega)) fun _=>h inr e0 i
theorem DT: ∀ f inr label i,Up (i+1) (qK L f inr label i):=by
 intro f
 induction f with
 | zero=>intro inr label i;unfold qK;exact .err _
 | succ f ih=>
  intro inr label i;unfold qK;exact Up.ite (fun _=>Iq L (fun i=>iR L ih false i) (fun i=>iR L ih true i) inr label i) fun _=>(ih _ _ (i+2)).bind fun x j hj=>.ok (by omega)
theorem uL(i:Nat):Up (i+1) (qJ L i):=iR L (DT L _) false i
end Px
end
section
open Go.RowKit Lx Px
theorem DW: ∀ (l:Bs) (d b:Nat) (r:Nat×Nat),(46:UInt8)∉l→mN l d b false=some r→r.1=d+l.length∧∀ c∈l,iP (c.toNat:Int)=true:=by
 intro l
 induction l with
 | nil=>intro d b r _ h;unfold mN at h;cases h;exact⟨rfl,fun c hc=>by cases hc⟩
 | cons c l ih=>
  intro d b r hn h;simp only[List.mem_cons,not_or]at hn
  unfold mN at h
  by_cases hd:iP (c.toNat:Int)=true
  ·rw[if_pos hd]at h;obtain⟨h1,h2⟩:=ih _ _ _ hn.2 h;refine⟨by rw[h1,List.length_cons];omega,fun x hx=>?_⟩
   rcases List.mem_cons.1 hx with rfl|hx
   ·exact hd
   ·exact h2 x hx
  ·rw[if_neg hd,if_neg]at h
   ·cases h
   ·rintro⟨h1,_⟩;exact hn.1 (UInt8.toNat.inj (by have:(46:UInt8).toNat=46:=rfl;omega))
theorem JF{c:UInt8}(h:iP (c.toNat:Int)=true):Lib.digitVal c=some (c.toNat - 48)∧48≤c.toNat∧c.toNat≤57:=by
 unfold iP at h;simp only[Bool.and_eq_true,decide_eq_true_eq]at h
 unfold Lib.digitVal;rw[if_pos (by omega)];exact⟨rfl,by omega,by omega⟩
theorem CH: ∀ (l:Bs) (a:Nat),(∀ c∈l,iP (c.toNat:Int)=true)→Lib.decFrom a l=some (l.foldl (fun n c=>n*10+(c.toNat - 48)) a):=by
 intro l
 induction l with
 | nil=>intro a _;rfl
 | cons c l ih=>
  intro a h;unfold Lib.decFrom;rw[(JF (h c (by simp))).1];exact ih _ (fun x hx=>h x (by simp[hx]))
theorem IF{s:ByteArray}(h:bX 2 s=true)(hp:(46:UInt8)∉s.data.toList):s.size≤9∧Lib.atoi s.data.toList=some (Px.NH s.data.toList:Int):=by
 unfold bX at h;rw[if_neg (by decide),if_pos rfl]at h;unfold Kg at h
 cases hg:mN s.data.toList 0 0 false with
 | none=>rw[hg]at h;cases h
 | some r=>
  obtain⟨d,b⟩:=r;rw[hg]at h;simp only[Bool.and_eq_true,decide_eq_true_eq]at h
  obtain⟨h1,h2⟩:=DW _ _ _ _ hp hg;have hsz:s.data.toList.length=s.size:=by simp
  simp only at h1
  refine⟨by omega,?_⟩;generalize s.data.toList=l at h2 h1
  cases l with
  | nil=>simp at h1;omega
  | cons c l=>
   have hc:=JF (h2 c (by simp));have h45:(c==45)=false:=beq_eq_false_iff_ne.2 (fun e=>by have:=hc.2;rw[e]at this;simp at this);have h43:(c==43)=false:=beq_eq_false_iff_ne.2 (fun e=>by have:=hc.2;rw[e]at this;simp at this);unfold Lib.atoi;simp only[h45,h43,Bool.false_eq_true,if_false]
   unfold Lib.decNat;rw[if_neg (by simp),CH _ 0 h2];rfl
theorem Jt(l:Bs):decide (0≤Lib.indexByte l 46)=decide ((46:UInt8)∈l):=by
 have hge:=Lib.indexByte_ge l 46
 by_cases h:(46:UInt8)∈l
 ·rw[decide_eq_true h,decide_eq_true]
  rcases Int.lt_or_le (Lib.indexByte l 46) 0 with hlt|hle
  ·obtain⟨k,hk⟩:=List.getElem?_of_mem h;exact absurd hk (Lib.indexByte_none (by omega) k)
  ·exact hle
 ·rw[decide_eq_false h,decide_eq_false];intro hle;obtain⟨o,ho⟩:=Int.eq_ofNat_of_zero_le hle;exact h (List.mem_of_getElem? (Lib.indexByte_some ho).1)
def wE: Option Nat→Ending
 | some n=>.returned (.tuple #[.int .i64 n,.bool true])
 | none=>.returned (.tuple #[.int .i64 0,.bool false])
theorem BD(t:Tk)(p:Int)(ht:bX t.kind t.text=true∨t.kind=0)(w:World):Calls Tryz.prog 243 #[.agg #[.int .i64 t.kind,.string t.text,.int .i64 p]] w fun e w'=>e=wE (iU t)∧Below w.heap.size w w':=by
 obtain⟨k,s⟩:=t;simp only at ht ⊢
 have b1:=aC w (.cells #[.int .i64 k,.string s,.int .i64 p] 43);have n1:=heap_alloc_new w (.cells #[.int .i64 k,.string s,.int .i64 p] 43)
 by_cases hk:k=2
 ·subst hk;have hC:=fun W=>Tryz.strings_Contains_one s 46 W
  simp only[Jt]at hC
  by_cases hp:(46:UInt8)∈s.data.toList
  ·have HW:=hdq (show iU ⟨2,s⟩=none by unfold iU;rw[if_neg (fun h=>h.2 hp)]);rw[decide_eq_true hp]at hC;clear hp;go_enter Tryz.func243,Tryz.ntmps243;go_upto_region 1 with fail;generalize w.alloc _=w1 at b1 n1 ⊢;have c0:w1.cell? ⟨w.heap.size,0,none⟩=some (.int .i64 2):=cell_of_row w1 _ 0 _ _ _ n1;have c1:w1.cell? ⟨w.heap.size,1,none⟩=some (.string s):=cell_of_row w1 _ 1 _ _ _ n1;go_wp2_with (go_at_call 244;refine(hC _).mono ?_;rintro e w2 ⟨rfl,rfl⟩)
   go_ret2
   rw[HW.out];exact⟨rfl,b1⟩
  ·have HW:=hdq (show iU ⟨2,s⟩=some (Px.NH s.data.toList)by unfold iU;rw[if_pos ⟨rfl,hp⟩]);obtain⟨h9,hat⟩:=IF (ht.resolve_right (by decide)) hp;rw[decide_eq_false hp]at hC;generalize Px.NH s.data.toList=v at HW hat;have hA:=fun W=>Tryz.strconv_Atoi s v (by omega) hat W
   clear hp hat;go_enter Tryz.func243,Tryz.ntmps243;go_upto_region 1 with fail;generalize w.alloc _=w1 at b1 n1 ⊢;have c0:w1.cell? ⟨w.heap.size,0,none⟩=some (.int .i64 2):=cell_of_row w1 _ 0 _ _ _ n1;have c1:w1.cell? ⟨w.heap.size,1,none⟩=some (.string s):=cell_of_row w1 _ 1 _ _ _ n1;go_upto_region 4 with (first|(go_at_call 244;refine(hC _).mono ?_;rintro e w2 ⟨rfl,rfl⟩)|(go_at_call 245;refine(hA _).mono ?_;rintro e w3 ⟨rfl,tt,hw3⟩;have b3:Below w2.heap.size w2 w3:=by { rw[hw3];exact Lib.bytesWorld_below _ _ _ };clear hw3));have B3:=b1.trans (b3.mono b1.size)
   go_quiet (fail)
   go_wp2_with fail
   go_ret2
   rw[HW.out];exact⟨rfl,B3.trans ⟨rfl,rfl,rfl,Nat.le_refl _,fun _ _=>rfl⟩⟩
 ·have HW:=hdq (show iU ⟨k,s⟩=none by unfold iU;rw[if_neg (fun h=>hk h.1)]);go_enter Tryz.func243,Tryz.ntmps243;go_upto_region 1 with fail;generalize w.alloc _=w1 at b1 n1 ⊢;have c0:w1.cell? ⟨w.heap.size,0,none⟩=some (.int .i64 k):=cell_of_row w1 _ 0 _ _ _ n1;have c1:w1.cell? ⟨w.heap.size,1,none⟩=some (.string s):=cell_of_row w1 _ 1 _ _ _ n1;go_wp2_with fail
  go_ret2
  rw[HW.out];exact⟨rfl,b1⟩
def iC(L:List T3):Prop:=∀ t,t∈L→bX t.kind t.text=true
theorem iC.at_{L:List T3}(h:iC L)(j:Nat):bX (tok (lk L) j).kind (tok (lk L) j).text=true∨(tok (lk L) j).kind=0:=by
 rcases Nat.lt_or_ge j L.length with h'|h'
 ·left
  rw[show tok (lk L) j=_ from Bw h'];have:L[j]! = L[j]:=by simp[List.getElem!_eq_getElem?_getD,List.getElem?_eq_getElem h']
  rw[this];exact h _ (List.getElem_mem h')
 ·right;rw[show tok (lk L) j=_ from wS h']
def AI(pb:Nat)(L:List T3)(w:World)(r:R Nat)(e:Ending)(w':World):Prop:=match r with
 | .ok (n,j)=>e=.returned (.int .i64 n)∧Ok pb L j w w'
 | .error a=>e=pan a∧w.grownBy w' (some pb)
theorem AI.ok{pb:Nat}{L:List T3}{w w':World}{r:R Nat}{s:Nat}{j:Nat}(h:r=.ok (s,j))(k:Ok pb L j w w'):AI pb L w r (.returned (.int .i64 s)) w':=by rw[h];exact⟨rfl,k⟩
theorem AI.err{pb:Nat}{L:List T3}{w w':World}{r:R Nat}(a:Nat)(h:r=.error a)(k:w.grownBy w' (some pb)):AI pb L w r (pan a) w':=by rw[h];exact⟨rfl,k⟩
theorem Ct(pb:Nat)(L:List T3)(hX:iC L)(lo hi i:Nat)(w:World)(h:PS w pb L i):Calls Tryz.prog 238 #[pq pb,lo,hi] w (AI pb L w (fA (lk L) lo hi i)):=by
 have HU:=hdq (show fA (lk L) lo hi i=match iU (tok (lk L) (i+0)) with|some n=>if lo≤n∧n≤hi then .ok (n,i+1)else .error i|none=>.error i from rfl);have S1:=SV.begin h;have hT:=aX pb L i 0 (by decide) w h;have hW:=fun p W=>BD (tok (lk L) (i+0)) p (hX.at_ (i+0)) W
 have hbd:=h.bd
 cases hq:iU (tok (lk L) (i+0)) with
 | none=>
  rw[hq]at hW HU;unfold wE at hW;have HE:=hdq (show fA (lk L) lo hi i=.error i from HU.out);clear hq;go_enter Tryz.func238,Tryz.ntmps238;go_upto_block 3 with (first|(go_at_call 125;refine(S1.aQ (E:=fun e=>∃ p:Int,e=_) hT).mono ?_;rintro e w2 ⟨⟨p,rfl⟩,S2⟩)|(go_at_call 243;refine(S2.aQ (E:=fun e=>e=_) (hW p w2)).mono ?_;rintro e w3 ⟨rfl,S3⟩));refine S3.sX.mono ?_;rintro e wf ⟨rfl,hg⟩;unfold pan;go_wp2_with fail;exact⟨rfl,AI.err i HE.out hg⟩
 | some n=>
  rw[hq]at hW HU;unfold wE at hW
  have hlt : i < L.length := pK (i := i) (by
    intro e
    have : iU (tok (lk L) (i + 0)) = none := by unfold iU; rw [if_neg]; rintro ⟨h1, _⟩; rw [show (tok (lk L) (i + 0)).kind = 0 from e] at h1; cases h1
    rw [this] at hq; cases hq)
  clear hq
  by_cases hb:lo≤n∧n≤hi
  ·have HE:=hdq (show fA (lk L) lo hi i=.ok (n,i+1)by rw[HU.out];show (if lo≤n∧n≤hi then _ else _)=_;rw[if_pos hb]);have hb1:¬ (n:Int)<(lo:Int):=by omega
   have hb2:¬ (hi:Int)<(n:Int):=by omega
   clear HU hb;go_enter Tryz.func238,Tryz.ntmps238;go_upto_region 4 with (first|(go_at_call 125;refine(S1.aQ (E:=fun e=>∃ p:Int,e=_) hT).mono ?_;rintro e w2 ⟨⟨p,rfl⟩,S2⟩)|(go_at_call 243;refine(S2.aQ (E:=fun e=>e=_) (hW p w2)).mono ?_;rintro e w3 ⟨rfl,S3⟩));obtain⟨c1,f1⟩:=S3.ps.cells;go_wp2_with fail;go_ret;exact AI.ok HE.out (S3.ok.trans ⟨dJ w3 pb 1 (.int .i64 ((i:Int)+1)),S3.ps.set (i+1) (by omega)⟩)
  ·have HE:=hdq (show fA (lk L) lo hi i=.error i by rw[HU.out];show (if lo≤n∧n≤hi then _ else _)=_;rw[if_neg hb])
   by_cases hb1:(n:Int)<(lo:Int)
   ·clear HU hb;go_enter Tryz.func238,Tryz.ntmps238;go_upto_block 3 with (first|(go_at_call 125;refine(S1.aQ (E:=fun e=>∃ p:Int,e=_) hT).mono ?_;rintro e w2 ⟨⟨p,rfl⟩,S2⟩)|(go_at_call 243;refine(S2.aQ (E:=fun e=>e=_) (hW p w2)).mono ?_;rintro e w3 ⟨rfl,S3⟩));refine S3.sX.mono ?_;rintro e wf ⟨rfl,hg⟩;unfold pan;go_wp2_with fail;exact⟨rfl,AI.err i HE.out hg⟩
   ·have hb2:(hi:Int)<(n:Int):=by omega
    clear HU hb;go_enter Tryz.func238,Tryz.ntmps238;go_upto_block 3 with (first|(go_at_call 125;refine(S1.aQ (E:=fun e=>∃ p:Int,e=_) hT).mono ?_;rintro e w2 ⟨⟨p,rfl⟩,S2⟩)|(go_at_call 243;refine(S2.aQ (E:=fun e=>e=_) (hW p w2)).mono ?_;rintro e w3 ⟨rfl,S3⟩));refine S3.sX.mono ?_;rintro e wf ⟨rfl,hg⟩;unfold pan;go_wp2_with fail;exact⟨rfl,AI.err i HE.out hg⟩
theorem SV.jO{pb:Nat}{L:List T3}{w0 w:World}{j:Nat}{rv ts}(S:SV pb L w0 w j rv ts)(hX:iC L)(lo hi:Nat):Calls Tryz.prog 238 #[pq pb,lo,hi] w fun e w'=>(∃ a,fA (lk L) lo hi j=.error a∧e=pan a∧w0.grownBy w' (some pb))∨(∃ n j',fA (lk L) lo hi j=.ok (n,j')∧e=.returned (.int .i64 n)∧SV pb L w0 w' j' rv ts):=by
 refine(Ct pb L hX lo hi j w S.ps).mono ?_;intro e w' hp
 cases hr:fA (lk L) lo hi j with
 | ok sj=>rw[hr]at hp;obtain⟨s,j'⟩:=sj;exact .inr ⟨s,j',rfl,hp.1,S.step hp.2⟩
 | error a=>rw[hr]at hp;exact .inl ⟨a,rfl,hp.1,S.ok.1.trans hp.2⟩
theorem Cp(L:List Tk)(f i:Nat):gJ L (f+1) i =
 if (tok L i).kind=2 then aB (fA L 1 100 i) fun n j=>aB (aM L j sLP) fun _ j1=>aB (eD L L.length (gJ L f) j1) fun l j2=>aB (aM L j2 sRP) fun _ j3=>.ok (.mk 42 n i e0 l,j3)
 else aB (fN L i) fun s j=>
  if s=wP then(if (tok L j).kind=4 then aB (bH L j) fun x j'=>.ok (.mk 41 0 i s [x],j')else .error j)
  else if sgn L j [sLP]then aB (eD L 2 (bH L) (j+1)) fun l j'=>aB (aM L j' sRP) fun _ j2=>.ok (.mk 41 0 i s l,j2)
  else .ok (.mk 41 0 i s [],j):=by conv=>lhs;unfold gJ
theorem uI: ∀ args w,(callFunc 239 args).run Tryz.prog w=.ok (.enter 239 args) w:=
 enters_of Tryz.func239 (by decide) rfl
theorem EZ: ∀ args w,(callFunc 145 args).run Tryz.prog w=.ok (.enter 145 args) w:=
 enters_of Tryz.func145 (by decide) rfl
theorem KX{L:List Tk}{read:Nat→R T}:∀ (n:Nat) (acc:List T) (j:Nat) (l:List T) (j':Nat),gK L read n acc j=.ok (l,j')→l.length≤acc.length+n:=by
 intro n
 induction n with
 | zero=>intro acc j l j' h;unfold gK at h;cases h;simp
 | succ n ih=>
  intro acc j l j' h;unfold gK at h
  split at h
  ·cases hr:read (j+1) with
   | error a=>rw[hr]at h;cases h
   | ok xj=>
    obtain⟨x,j1⟩:=xj;rw[hr]at h;have:=ih _ _ _ _ h;rw[List.length_append]at this
    simp at this;omega
  ·cases h;simp
theorem eW{L:List Tk}{read:Nat→R T}{most i:Nat}{l:List T}{j:Nat}(h1:1≤most)(h:eD L most read i=.ok (l,j)):l.length≤most:=by
 unfold eD at h
 cases hr:read i with
 | error a=>rw[hr]at h;cases h
 | ok xj=>
  obtain⟨x,j1⟩:=xj;rw[hr]at h;have:=KX _ _ _ _ _ h
  simp at this;omega
theorem Cx(pb:Nat)(L:List T3)(hX:iC L)(lo f:Nat)(ih:Reads 239 pb L (lo+1) (gJ (lk L) f)):Reads 239 pb L lo (gJ (lk L) (f+1)):=by
 intro i w hi h;have hu:=Cp (lk L) f i;rw[List.length_map]at hu;have HU:=hdq hu;clear hu;have hbd:=h.bd;have hf0:=pG;go_enter Tryz.func239,Tryz.ntmps239;go_upto_region 1 with fail;have S1:=SV.new h;generalize World.alloc w _=w1 at S1 ⊢;obtain⟨c1,_⟩:=S1.ps.cells;go_upto_region 2 with fail;have hT:=aX pb L i 0 (by decide) w1 S1.ps;clear c1
 by_cases hk:(tok (lk L) i).kind=2
 ·have hlt:i<L.length:=pK (by rw[hk];decide);rw[show (tok (L.map T3.tk) (i+0)).kind=2 from hk]at hT;have HK:=hdq hk;clear hk;go_upto_block 3 with (go_at_call 125;refine(S1.aQ (E:=fun e=>∃ p:Int,e=_) hT).mono ?_;rintro e w2 ⟨⟨p,rfl⟩,S2⟩);refine(S2.jO hX 1 100).mono ?_;rintro e w3 (⟨x,hr,rfl,hg⟩|⟨n3,j3,hr,rfl,S3⟩)
  ·unfold pan;go_wp2_with fail;exact⟨rfl,aD.err x (by simp[HU.out,aB,HK.out,hr]) hg⟩
  have H3:=hdq hr;clear hr;have hj3:=iI (lk L) 1 100 i _ _ H3.out;go_upto_block 4 with fail;refine(S3.dR sLP).mono ?_;rintro e w4 (⟨x,hr,rfl,hg⟩|⟨j4,hr,rfl,S4⟩)
  ·unfold pan;go_wp2_with fail;exact⟨rfl,aD.err x (by simp[HU.out,aB,HK.out,H3.out,hr]) hg⟩
  have H4:=hdq hr;clear hr;have hj4:=aK (lk L) j3 sLP _ _ H4.out;obtain⟨ao,cap,k0⟩:=S4.ps.row;have hM:=eI _ uI pb L (lo+1) (gJ (lk L) f) ih (yM (lk L) f) L.length (by omega) (by omega) j4 (by omega) w4 S4.ps;go_upto_block 5 with fail;refine(S4.pL hM).mono ?_;rintro e w5 (⟨x,hr,rfl,hg⟩|⟨l5,j5,o5,c5,hr,rfl,S5⟩)
  ·unfold pan;go_wp2_with fail;exact⟨rfl,aD.err x (by simp[HU.out,aB,HK.out,H3.out,H4.out,hr]) hg⟩
  have H5:=hdq hr;clear hr;go_upto_block 6 with fail;refine(S5.dR sRP).mono ?_;rintro e w6 (⟨x,hr,rfl,hg⟩|⟨j6,hr,rfl,S6⟩)
  ·unfold pan;go_wp2_with fail;exact⟨rfl,aD.err x (by simp[HU.out,aB,HK.out,H3.out,H4.out,H5.out,hr]) hg⟩
  have H6:=hdq hr;clear hr;have:=TV.facts (S6.facts 0 rfl);go_wp2_with fail;have S7:=(S6.bN 0 rfl (.int .i64 42) n3 i (.string ⟨#[]⟩) (.slice o5 l5.length c5)).Cc 42 n3 i e0;refine rtv (S7.facts 0 rfl) Tryz.results239 ?_;exact S7.res (.head _) (by simp[HU.out,aB,HK.out,H3.out,H4.out,H5.out,H6.out]<;>rfl) rfl
 ·generalize hkk:(tok (lk L) i).kind=tk at hk;rw[show (tok (L.map T3.tk) (i+0)).kind=tk from hkk]at hT;have HK:=hdq (show ¬ (tok (lk L) i).kind=2 by rw[hkk];exact hk);clear hkk;go_upto_block 8 with (go_at_call 125;refine(S1.aQ (E:=fun e=>∃ p:Int,e=_) hT).mono ?_;rintro e w2 ⟨⟨p,rfl⟩,S2⟩);refine(S2.pB (fT pb L i w2 S2.ps)).mono ?_;rintro e w3 (⟨x,hr,rfl,hg⟩|⟨s3,j3,hr,rfl,S3⟩)
  ·unfold pan;go_wp2_with fail;exact⟨rfl,aD.err x (by simp[HU.out,aB,HK.out,hr]) hg⟩
  have H3:=hdq hr;clear hr;have hj3:=hG (lk L) i _ _ H3.out;go_upto_region 9 with fail;have S4:=S3.yV (tg 41 0 i s3 none 0 0);generalize World.alloc w3 _=w4 at S4 ⊢;generalize w3.heap.size=B4 at S4 ⊢;have:=TV.facts (S4.facts 0 rfl)
  by_cases hp:s3=⟨#[80]⟩
  ·subst hp;have hT:=aX pb L j3 0 (by decide) w4 S4.ps
   by_cases hk4:(tok (lk L) j3).kind=4
   ·rw[show (tok (L.map T3.tk) (j3+0)).kind=4 from hk4]at hT;have HP:=hdq (show (⟨#[80]⟩:ByteArray)=wP from rfl);have HK4:=hdq hk4;clear hk4;go_upto_block 12 with (go_at_call 125;refine(S4.aQ (E:=fun e=>∃ p:Int,e=_) hT).mono ?_;rintro e w5 ⟨⟨p,rfl⟩,S5⟩);refine(S5.aN (eC pb L j3 w5 S5.ps)).mono ?_;rintro e w6 (⟨x,hr,rfl,hg⟩|⟨t6,j6,k6,n6,a6,s6,o6,m6,c6,hr,rfl,S6⟩)
    ·unfold pan;go_wp2_with fail;exact⟨rfl,aD.err x (by simp[HU.out,aB,HK.out,H3.out,HP.out,HK4.out,hr]) hg⟩
    have H6:=hdq hr;clear hr;have S7:=S6.lit (aW.one (S6.tr _ (.head _))) (tg k6 n6 a6 s6 o6 m6 c6) rfl 41 0 i wP 1 1 rfl;have:=TV.facts (S7.facts 0 rfl);have S8:=S7.put 0 rfl 4 (.slice (some ⟨w6.heap.size,0,none⟩) 1 1) (by simp);go_upto_region 16 with fail;generalize World.setCell _ ⟨B4,4,none⟩ _=w8 at S8 ⊢;have:=TV.facts (S8.facts 0 rfl);have:=TV.facts (S8.facts 1 rfl);go_wp2_with fail;have S9:=S8.bN 1 rfl (.int .i64 41) (.int .i64 0) i (.string ⟨#[80]⟩) (.slice (some ⟨w6.heap.size,0,none⟩) 1 1);refine rtv (S9.facts 1 rfl) Tryz.results239 ?_;exact S9.res (.head _) (by rw[HU.out,if_neg HK.out];simp[aB,H3.out,HP.out,HK4.out,H6.out]) rfl
   ·generalize hkk:(tok (lk L) j3).kind=tk4 at hk4;rw[show (tok (L.map T3.tk) (j3+0)).kind=tk4 from hkk]at hT;have HP:=hdq (show (⟨#[80]⟩:ByteArray)=wP from rfl);have HK4:=hdq (show ¬ (tok (lk L) j3).kind=4 by rw[hkk];exact hk4);clear hkk;go_upto_block 11 with (go_at_call 125;refine(S4.aQ (E:=fun e=>∃ p:Int,e=_) hT).mono ?_;rintro e w5 ⟨⟨p,rfl⟩,S5⟩);refine S5.sX.mono ?_;rintro e wf ⟨rfl,hg⟩;unfold pan;go_wp2_with fail;exact⟨rfl,aD.err _ (by rw[HU.out,if_neg HK.out];simp[aB,H3.out,HP.out,HK4.out]) hg⟩
  ·have h1:(s3.toList == [80])=false:=beq_eq_false_iff_ne.2 fun e=>hp (by rw[← kK,e];decide +kernel)
   have h3:decide (s3=⟨#[80]⟩)=false:=decide_eq_false hp;have HP:=hdq (show ¬ s3=wP from hp);clear hp
   cases hs:sgn (lk L) j3 [sLP] with
   | true=>
    have hC:=S4.AM sLP hs;have HS:=hdq hs;clear hs;go_upto_block 14 with (go_at_call 135;refine hC.mono ?_;rintro e w5 ⟨rfl,S5⟩);refine(S5.pL (eI _ EZ pb L 0 (bH (lk L)) (fun i w _ h=>eC pb L i w h) (dD (lk L)) 2 (by decide) (by decide) (j3+1) (Nat.zero_le _) w5 S5.ps)).mono ?_;rintro e w6 (⟨x,hr,rfl,hg⟩|⟨l6,j6,o6,c6,hr,rfl,S6⟩)
    ·unfold pan;go_wp2_with fail;exact⟨rfl,aD.err x (by simp[HU.out,aB,HK.out,H3.out,HP.out,HS.out,hr]) hg⟩
    have H6:=hdq hr;clear hr;have:=TV.facts (S6.facts 0 rfl);have S7:=(S6.put 0 rfl 4 (.slice o6 l6.length c6) (by simp)).Cc 41 0 i s3;go_upto_region 15 with fail;generalize World.setCell _ ⟨B4,4,none⟩ _=w7 at S7 ⊢;go_upto_block 15 with fail;refine(S7.dR sRP).mono ?_;rintro e w8 (⟨x,hr,rfl,hg⟩|⟨j8,hr,rfl,S8⟩)
    ·unfold pan;go_wp2_with fail;exact⟨rfl,aD.err x (by simp[HU.out,aB,HK.out,H3.out,HP.out,HS.out,H6.out,hr]) hg⟩
    have H8:=hdq hr;clear hr;have:=TV.facts (S8.facts 0 rfl);have:=TV.facts (S8.facts 1 rfl);go_wp2_with fail;have S9:=S8.bN 1 rfl (.int .i64 41) (.int .i64 0) i s3 (.slice o6 l6.length c6);refine rtv (S9.facts 1 rfl) Tryz.results239 ?_;exact S9.res (.head _) (by simp[HU.out,aB,HK.out,H3.out,HP.out,HS.out,H6.out,H8.out]<;>rfl) rfl
   | false=>
    have hC:=S4.Af sLP hs;have HS:=hdq hs;clear hs;go_upto_region 16 with (go_at_call 135;refine hC.mono ?_;rintro e w5 ⟨rfl,S5⟩);have:=TV.facts (S5.facts 0 rfl);have:=TV.facts (S5.facts 1 rfl);go_wp2_with fail;have S9:=(S5.bN 1 rfl (.int .i64 41) (.int .i64 0) i s3 (.slice none 0 0)).leaf 41 0 i s3;refine rtv (S9.facts 1 rfl) Tryz.results239 ?_;exact S9.res (.head _) (by simp[HU.out,aB,HK.out,H3.out,HP.out,HS.out]<;>rfl) rfl
theorem tC(pb:Nat)(L:List T3)(hX:iC L):Reads 239 pb L 0 (mY (lk L)):=by
 have:∀ f lo,L.length+1≤f+lo→Reads 239 pb L lo (gJ (lk L) f):=by
  intro f
  induction f with
  | zero=>intro lo hlo i w hi h;exact absurd h.le (by omega)
  | succ f ih=>intro lo hlo;exact Cx pb L hX lo f (ih (lo+1) (by omega))
 exact this ((lk L).length+1) 0 (by rw[List.length_map];omega)
end
end Go.Proofs.YtfdlmcgcckkkdaaGreatDoor
