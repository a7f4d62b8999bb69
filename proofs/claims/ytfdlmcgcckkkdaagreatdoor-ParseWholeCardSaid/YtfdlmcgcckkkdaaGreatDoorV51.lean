/- ParseWhole, part 51: what it stands on. -/
import Derived.Test.YtfdlmcgcckkkdaaGreatDoorV11
import Derived.Test.YtfdlmcgcckkkdaaGreatDoorV50
set_option linter.all false
set_option maxHeartbeats 40000000
set_option maxRecDepth 100000
namespace Go.Proofs.YtfdlmcgcckkkdaaGreatDoor
section
namespace Px
open Lx
theorem kN{read:List Tk→Nat→R T}{L:List Tk}:(jS read L).2.2=0↔L.length≤5000∧Gd L∧∃ t,Bb L (read L)=.ok t∧lH t=true∧jS read L=(t,0,0):=by
 unfold jS
 split
 ·rename_i h
  exact⟨fun g=>absurd g (show ¬ (2:Int)=0 by decide),fun g=>absurd g.1 (by omega)⟩
 ·rename_i h
  cases hb:jY L 0 with
  | some i=>exact⟨fun g=>absurd g (show ¬ (50:Int)=0 by decide),fun g=>by rw[(At L 0).2 g.2.1]at hb;cases hb⟩
  | none=>
   have hg:=(At L 0).1 hb;simp only
   cases ha:Bb L (read L) with
   | error a=>exact⟨fun g=>absurd g (show ¬ (70:Int)=0 by decide),fun g=>by obtain⟨_,_,t,e,_⟩:=g;cases e⟩
   | ok t=>
    simp only
    split
    ·rename_i h4
     refine⟨fun g=>absurd g (show ¬ (2:Int)=0 by decide),fun g=>?_⟩;obtain⟨_,_,t2,e,h5,_⟩:=g
     cases e
     unfold lH at h5;simp only[Bool.and_eq_true,decide_eq_true_eq]at h5
     omega
    ·rename_i h4
     exact⟨fun _=>⟨by omega,hg,t,rfl,by unfold lH;simp only[Bool.and_eq_true,decide_eq_true_eq];omega,rfl⟩,fun _=>rfl⟩
end Px
end
section
namespace Px
open Lx
theorem bind_some{α β:Type}{r:R α}{f:α→Nat→R β}{y:β}{l:Nat}(e:aB r f=.ok (y,l)):∃ x j,r=.ok (x,j)∧f x j=.ok (y,l):=by
 cases h:r with
 | error a=>rw[h]at e;cases e
 | ok xj=>rw[h]at e;exact⟨xj.1,xj.2,rfl,e⟩
theorem Sn{L:List Tk}{i l:Nat}{ss:List ByteArray}{x:Unit}(e:gU L i ss=.ok (x,l)):wrd L i ss=true∧l=i+1:=by
 unfold gU at e
 by_cases h:wrd L i ss=true
 ·rw[if_pos h]at e;cases e;exact⟨h,rfl⟩
 ·rw[if_neg h]at e;cases e
theorem yX{L:List Tk}{i:Nat}{ss ts:List ByteArray}(h:wrd L i ss=true)(g:∀ s,s∈ss→mV s ts=false):wrd L i ts=false:=by
 unfold Px.wrd at h ⊢;rw[Bool.and_eq_true,uR]at h;rw[g _ h.2,Bool.and_false]
theorem nT.wd{A:List Tk}{s:Bool}{i j:Nat}{ss:List ByteArray}(h:wrd A i ss=true)(b:nT A s (i+1) j):nT A s i j:=
 (nT.one (bF (by rw[lT h];decide)) (bF (by rw[lT h];decide)) (fun _=>bF (by rw[lT h];decide)) (Sm (by rw[lT h];decide))).app b
theorem TU{γ:Type}{r:R T}{g:Nat→R (List T)}{F:List T→Nat→R γ}:(aB r fun x j=>aB (g j) fun xs k=>F (x::xs) k)=aB (aB r fun x j=>aB (g j) fun xs k=>.ok (x::xs,k)) F:=by
 cases r with
 | error a=>rfl
 | ok xj=>
  show aB (g xj.2) _=aB (aB (g xj.2) _) _
  cases g xj.2<;>rfl
section
variable {A B:List Tk} {n:Nat} {s:Bool} {α β:Type}
def LeS(A B:List Tk)(n:Nat)(j:Nat):Prop:=j+2≤n∧keyword A j [sY]=keyword B j [sY]
theorem Sl{i:Nat}{r1 r2:R α}(h:Ex A s (Le2 n) i r1 r2):Ex A s (LeS A B n) i r1 r2:=h.cond fun _ _ c=>c.1
structure St (A B:List Tk) (n lo:Nat) (r1 r2:Nat→R T):Prop where
 ex:∀ i,lo≤i→Ex A false (LeS A B n) i (r1 i) (r2 i)
 up:∀ i,Up (i+1) (r1 i)
 se:∀ i,Se A (r1 i)
variable (H:Agr A B n)
include H
theorem LM{j:Nat}(hj:j+2≤n)(h:wrd A j [sY]=false):LeS A B n j:=⟨hj,by rw[Sd h,Sd (by rw[← H.wrd (by omega)];exact h)]⟩
theorem TM(label:ByteArray)(i:Nat):Ex A false (Le0 n) i (Cs A label i) (Cs B label i):=by
 refine(mF H i [GP]).bind fun _ j _ _=>?_;intro x l e
 by_cases h:label.size≠0∧wrd A j [label]=true
 ·rw[if_pos h]at e;have g:=Ex.Ur (by rw[lT h.2];decide) (by rw[lT h.2];decide) (mT H (s:=false) (j+1) aS (by decide +kernel) (by decide +kernel) (by intro h;cases h)) x l e;have:=aK A (j+1) aS x l e;refine⟨g.1,fun c=>?_⟩
  dsimp only[Le0]at c
  rw[if_pos ⟨h.1,by rw[← H.wrd (by omega)];exact h.2⟩];exact g.2 c
 ·rw[if_neg h]at e;have g:=mT H (s:=false) j aS (by decide +kernel) (by decide +kernel) (by intro h;cases h) x l e;have:=aK A j aS x l e;refine⟨g.1,fun c=>?_⟩
  dsimp only[Le0]at c
  rw[if_neg fun k=>h ⟨k.1,by rw[H.wrd (by omega)];exact k.2⟩];exact g.2 c
theorem Tw{lo:Nat}{r1 r2:Nat→R T}(h:St A B n lo r1 r2)(label:ByteArray):∀ f1 f2 acc i,lo≤i→n<i+f2→Ex A false (Le0 n) i (fJ A r1 label f1 acc i) (fJ B r2 label f2 acc i):=by
 intro f1
 induction f1 with
 | zero=>intro f2 acc i _ _;unfold fJ;exact .err
 | succ f1 ih=>
  intro f2 acc i hi hf;have key:∀ f2,n<i+(f2+1)→Ex A false (Le0 n) i (fJ A r1 label (f1+1) acc i) (fJ B r2 label (f2+1) acc i):=by
   intro f2 hf x l e;have hse:=zE r1 label (f1+1) acc i x l e;have hup:=Rw A h.up label (f1+1) acc i x l e;unfold fJ at e ⊢
   by_cases hk:keyword A i [GP]=true
   ·rw[if_pos hk]at e;have g:=((TM H label i).bind (C:=Le0 n) (f1:=fun _ j=>.ok (acc,j)) (f2:=fun _ j=>.ok (acc,j)) fun _ _ _ _=>.ok) x l e;refine⟨g.1,fun c=>?_⟩;rw[← mX H g.1 (by omega) c hse,if_pos hk];exact g.2 c
   ·rw[if_neg hk]at e;obtain⟨y,j,hr,e2⟩:=bind_some e;obtain⟨b1,c1⟩:=h.ex i hi y j hr;have u:=h.up i y j hr;obtain⟨b2,c2⟩:=ih f2 (acc++[y]) j (by omega) (by omega) x l e2;have u2:=Rw A h.up label f1 _ j x l e2;refine⟨b1.app b2,fun c=>?_⟩
    dsimp only[Le0]at c
    rw[← mX H (b1.app b2) (by omega) c hse,if_neg hk,c1 ⟨by omega,mX H b2 (by omega) c (zE r1 label f1 _ j x l e2) _⟩];exact c2 c
  cases f2 with
  | zero=>exact(key n (by omega)).void fun l hl c=>by dsimp only[Le0]at c;omega
  | succ f2=>exact key f2 hf
theorem SM{lo:Nat}{r1 r2:Nat→R T}(h:St A B n lo r1 r2)(label:ByteArray)(i:Nat)(hi:lo≤i):Ex A false (Le0 n) i (fF A r1 label i) (fF B r2 label i):=
 Tw H h label _ _ _ i hi (by have:=H.b;omega)
theorem oX{lo:Nat}{r1 r2:Nat→R T}(h:St A B n lo r1 r2)(label:ByteArray)(i:Nat)(hi:lo≤i)(F:List T→T):Ex A false (Le2 n) i (aB (fF A r1 label i) fun g j=>.ok (F g,j)) (aB (fF B r2 label i) fun g j=>.ok (F g,j)):=
 (SM H h label i hi).bind fun _ _ _ _=>.ok
theorem zF(i:Nat){f1 f2:Unit→Nat→R β}(h:∀ j,i≤j→Ex A false (Le2 n) j (f1 () j) (f2 () j)):Ex A false (Le2 n) i (aB (aM A i aS) f1) (aB (aM B i aS) f2):=
 (mT H i aS (by decide +kernel) (by decide +kernel) (by intro h;cases h)).bind fun _ j _ hj=>h j hj
theorem Sp(k:Int)(a:Nat){r1 r2:Nat→R T}(h:Fam A false (Le2 n) 0 r1 r2)(i:Nat):Ex A false (Le2 n) i (fO A k a r1 i) (fO B k a r2 i):=by
 unfold fO;refine Ex.bind (C1:=Le2 n) (Ex.ite (n:=n) (fun hn=>by rw[H.wrd (by omega)]) (fun _=>Tf H i) fun _=>.ok) fun w j _ _=>?_;refine Ex.bind (C1:=Le2 n) (Ex.word H (Ex.TL H (C1:=Le0 n) (X1:=fun j=>fA A 1 99 j) (X2:=fun j=>fA B 1 99 j) (yZ H 1 99 _) fun _ _ _=>.ok) fun _=>.ok) fun m j1 _ _=>?_;refine Ex.bind (C1:=Le2 n) ?_ fun lm j2 _ _=>Sk (cB H _ j2)
 refine Ex.word H (Ex.TL H (C1:=Le2 n) (X1:=fun j=>eD A 16 r1 j) (X2:=fun j=>eD B 16 r2 j) (kZ H h 16 _ (Nat.zero_le _)) fun l k3 hk3=>?_) fun _=>.ok
 exact Ex.ite (n:=n) (fun hn=>by rw[H.wrd (by omega)]) (fun _=>Ex.TL H (C1:=Le2 n) (X1:=fun j=>eD A 32 (mY A) j) (X2:=fun j=>eD B 32 (mY B) j) (kZ H (Ts H) 32 _ (Nat.zero_le _)) fun _ _ _=>.ok) fun _=>.ok
theorem Sc(k:Int)(a i:Nat):Ex A false (Le2 n) i (fH A k a i) (fH B k a i):=
 Ex.ite (n:=n) (fun hn=>by rw[H.nm (by omega)]) (fun _=>(lE H i).bind fun _ j _ _=>Sk (cB H _ j)) fun _=>Sk (cB H _ i)
theorem Sr{lo:Nat}{r1 r2:Nat→R T}(h:St A B n lo r1 r2)(a:Nat)(label:ByteArray)(i:Nat)(hi:lo≤i):Ex A false (Le2 n) i (eX A r1 a label i) (eX B r2 a label i):=by
 unfold eX;refine Ex.bind (C1:=Le2 n) (Ex.ite (n:=n) (fun hn=>by rw[H.sgn (by omega)]) (fun hc=>Ex.brk H hc (kZ H (lo:=0) (fun i _=>Sk (wR H i)) 8 (i+1) (Nat.zero_le _)) fun _ _ _=>.ok) fun _=>.ok) fun params j _ _=>?_;refine Ex.bind (C1:=Le2 n) (Ex.word H (Ex.TL H (C1:=Le0 n) (X1:=fun j=>gU A j [iV]) (X2:=fun j=>gU B j [iV]) (mF H _ _) fun _ _ _=>.ok) fun _=>Ex.word H .ok fun _=>.ok) fun m j1 _ _=>?_;refine Ex.bind (C1:=Le2 n) (Ex.word H ?_ fun _=>.ok) fun ret j2 _ _=>?_
 ·have e:∀ (L:List Tk) k1,(aB (bT L k1) fun x k2=>aB (lG L 3 k2) fun xs k3=>aB (aM L k3 sRP) fun _ k4=>(.ok (gC (x::xs),k4):R T))=aB (aB (bT L k1) fun x j=>aB (lG L 3 j) fun xs k=>.ok (x::xs,k)) fun l k3=>aB (aM L k3 sRP) fun _ k4=>.ok (gC l,k4):=fun L k1=>TU (F:=fun l k3=>aB (aM L k3 sRP) fun _ k4=>.ok (gC l,k4))
  simp only[e]
  exact Ex.TL H (C1:=Le2 n) (X1:=fun k1=>aB (bT A k1) fun x j=>aB (lG A 3 j) fun xs k=>.ok (x::xs,k)) (X2:=fun k1=>aB (bT B k1) fun x j=>aB (lG B 3 j) fun xs k=>.ok (x::xs,k)) ((yT H _).bind fun _ j _ _=>(SS H 3 j).bind fun _ _ _ _=>.ok) fun _ _ _=>.ok
 ·exact zF H j2 fun j3 _=>oX H h label j3 (by omega) _
def UN(L:List Tk)(stmt:Nat→R T)(a:Nat)(label:ByteArray)(i:Nat):R T:=
 aB (Cr L i) fun r j=>aB (aM L j sEQ) fun _ j1=>aB (bM L j1) fun x j2=>aB (gB L wTO j2) fun t j3=>aB (gB L wBY j3) fun b j4=>
  aB (fC L eM j4) fun wh j5=>aB (fC L eL j5) fun un j6=>aB (aM L j6 aS) fun _ j7=>aB (fF L stmt label j7) fun g j8=>.ok (node 19 a (r::x::t::b::wh::un::g),j8)
def UM(L:List Tk)(stmt:Nat→R T)(a:Nat)(label:ByteArray)(i:Nat):R T:=
 if wrd L i [eM,eL]then
  aB (fC L eM i) fun wh j=>aB (fC L eL j) fun un j1=>aB (aM L j1 aS) fun _ j2=>aB (fF L stmt label j2) fun g j3=>.ok (node 18 a (wh::un::g),j3)
 else .error i
theorem UF{lo:Nat}{r1 r2:Nat→R T}(h:St A B n lo r1 r2)(a:Nat)(label:ByteArray)(i:Nat)(hi:lo≤i):Ex A false (Le2 n) i (doP A r1 a label i) (doP B r2 a label i):=by
 intro x l e;have hse:=Un (A:=A) r1 a label i x l e;have hup:=OS A h.up a label i x l e;unfold doP at e ⊢
 by_cases h1:sgn A i [aS]=true
 ·rw[if_pos h1]at e;have g:=((oX H h label (i+1) (by omega) fun g=>node 17 a g).skip (bR h1 (by decide +kernel)) (bR h1 (by decide +kernel)) (fun h=>by cases h) (oF h1)) x l e;have:=((nP A h.up label (i+1)).bind (fun g j hj=>Up.ok hj):Up (i+2) _) x l e;refine⟨g.1,fun c=>?_⟩
  dsimp only[Le2]at c
  rw[← H.sgn (by omega),if_pos h1];exact g.2 c
 ·rw[if_neg h1]at e;have hil:i<l:=by
   by_cases h2:dU A i=true
   ·rw[if_pos h2]at e;obtain⟨r,j,hr,e⟩:=bind_some e;have q1:=nI A i r j hr;obtain⟨_,j1,hr,e⟩:=bind_some e;have q2:=aK A j _ _ _ hr;obtain⟨_,j2,hr,e⟩:=bind_some e;have q3:=bD A j1 _ _ hr;obtain⟨_,j3,hr,e⟩:=bind_some e;have q4:=gO A _ j2 _ _ hr;obtain⟨_,j4,hr,e⟩:=bind_some e;have q5:=gO A _ j3 _ _ hr;obtain⟨_,j5,hr,e⟩:=bind_some e;have q6:=dW A _ j4 _ _ hr;obtain⟨_,j6,hr,e⟩:=bind_some e;have q7:=dW A _ j5 _ _ hr;obtain⟨_,j7,hr,e⟩:=bind_some e;have q8:=aK A j6 _ _ _ hr;obtain⟨_,j8,hr,e⟩:=bind_some e;have q9:=nP A h.up label j7 _ _ hr
    cases e;omega
   ·rw[if_neg h2]at e
    by_cases h3:wrd A i [eM,eL]=true
    ·rw[if_pos h3]at e;obtain⟨_,j5,hr,e⟩:=bind_some e;have q6:=dW A _ i _ _ hr;obtain⟨_,j6,hr,e⟩:=bind_some e;have q7:=dW A _ j5 _ _ hr;obtain⟨_,j7,hr,e⟩:=bind_some e;have q8:=aK A j6 _ _ _ hr;obtain⟨_,j8,hr,e⟩:=bind_some e;have q9:=nP A h.up label j7 _ _ hr
     cases e;omega
    ·rw[if_neg h3]at e;cases e
  have hB:Le2 n l→sgn B i [aS]=false:=fun c=>by dsimp only[Le2]at c;rw[← H.sgn (by omega)];simpa using h1
  by_cases h2:dU A i=true
  ·rw[if_pos h2]at e;have g:Ex A false (Le2 n) i (UN A r1 a label i) (UN B r2 a label i):=(Sa H (s:=false) i (Nat.zero_le _)).bind fun r j _ hj0=>(mT H (s:=false) j sEQ).bind fun _ j1 _ hj1=>(kF H j1 (Nat.zero_le _)).bind fun x j2 _ hj2=>(HV H wTO j2 (Nat.zero_le _)).bind fun t j3 _ hj3=>(HV H wBY j3 (Nat.zero_le _)).bind fun b j4 _ hj4=>
    (mZ H eM j4 (Nat.zero_le _)).bind fun wh j5 _ hj5=>(mZ H eL j5 (Nat.zero_le _)).bind fun un j6 _ hj6=>zF H j6 fun j7 hj7=>oX H h label j7 (by omega) fun g=>node 19 a (r::x::t::b::wh::un::g)
   obtain⟨g1,g2⟩:=g x l e;refine⟨g1,fun c=>?_⟩;rw[hB c,if_neg (by decide),← mE H g1 hil (by dsimp only[Le2]at c;omega) hse,if_pos h2];exact g2 c
  ·rw[if_neg h2]at e;have g:Ex A false (Le2 n) i (UM A r1 a label i) (UM B r2 a label i):=Ex.ite (n:=n) (fun hn=>by rw[H.wrd (by omega)]) (fun _=>(mZ H eM i (Nat.zero_le _)).bind fun wh j _ hj=>(mZ H eL j (Nat.zero_le _)).bind fun un j1 _ hj1=>zF H j1 fun j2 hj2=>oX H h label j2 (by omega) fun g=>node 18 a (wh::un::g)) fun _=>.err
   obtain⟨g1,g2⟩:=g x l e;refine⟨g1,fun c=>?_⟩;rw[hB c,if_neg (by decide),← mE H g1 hil (by dsimp only[Le2]at c;omega) hse,if_neg h2];exact g2 c
end
end Px
end
section
namespace Px
open Lx
section
variable {A B:List Tk} {n:Nat} {α β:Type} (H:Agr A B n)
theorem Ex.last{s:Bool}{C:Nat→Prop}{i:Nat}{r1 r2:R α}{F:α→β}(h:Ex A s C i r1 r2):Ex A s C i (aB r1 fun x j=>.ok (F x,j)) (aB r2 fun x j=>.ok (F x,j)):=by
 intro y l e;obtain⟨x,j,hr,e2⟩:=bind_some e
 cases e2
 exact⟨(h x l hr).1,fun c=>by rw[(h x l hr).2 c];rfl⟩
include H
theorem TO{lo:Nat}{r1 r2:Nat→R T}(h:St A B n lo r1 r2):∀ f1 f2 acc i,lo≤i→n<i+f2→Ex A false (LeS A B n) i (gV A r1 f1 acc i) (gV B r2 f2 acc i):=by
 intro f1
 induction f1 with
 | zero=>intro f2 acc i _ _;unfold gV;exact .err
 | succ f1 ih=>
  intro f2 acc i hi hf;have key:∀ f2,n<i+(f2+1)→Ex A false (LeS A B n) i (gV A r1 (f1+1) acc i) (gV B r2 (f2+1) acc i):=by
   intro f2 hf;unfold gV;refine Ex.ite (n:=n) (fun hn=>by rw[H.wrd (by omega)]) (fun hc=>?_) (fun _=>.ok) (fun j hj c=>by have:=c.1;omega);refine Ex.Ur (by rw[lT hc];decide) (by rw[lT hc];decide) ?_;refine Ex.TL H (C1:=Le2 n) (X1:=fun j=>eD A 8 (bM A) j) (X2:=fun j=>eD B 8 (bM B) j) (kZ H (kF H) 8 _ (Nat.zero_le _)) (fun l j2 hj2=>?_) (fun j l hj c=>by have:=c.1;dsimp only[Le2];omega);intro x l' e;obtain⟨y,j3,hr,e2⟩:=bind_some e;obtain⟨b1,c1⟩:=h.ex j2 (by omega) y j3 hr;have u:=h.up j2 y j3 hr;obtain⟨b2,c2⟩:=ih f2 _ j3 (by omega) (by omega) x l' e2;refine⟨b1.app b2,fun c=>?_⟩;have hle:=b2.le;have hc3:LeS A B n j3:=by
    cases f1 with
    | zero=>unfold gV at e2;cases e2
    | succ f1=>
     unfold gV at e2
     by_cases hw:wrd A j3 [sR]=true
     ·exact LM H (by have:=c.1;omega) (yX hw (by intro s hs;rw[List.mem_singleton.1 hs];decide +kernel))
     ·rw[if_neg hw]at e2;cases e2;exact c
   show aB (r2 j2) _=_
   rw[c1 hc3];exact c2 c
  cases f2 with
  | zero=>exact(key n (by omega)).void fun l hl c=>by have:=c.1;omega
  | succ f2=>exact key f2 hf
theorem Tz{lo:Nat}{r1 r2:Nat→R T}(h:St A B n lo r1 r2)(a:Nat)(label:ByteArray)(i:Nat)(hi:lo≤i):Ex A false (Le2 n) i (iA A r1 a label i) (iA B r2 a label i):=by
 unfold iA;refine Ex.bind (C1:=Le2 n) (Ex.ite (n:=n) (fun hn=>by rw[H.sgn (by omega)]) (fun hc=>lX H i (Nat.zero_le _)) fun _=>.ok) fun x j _ hj=>zF H j fun j1 hj1=>?_;intro y l e;obtain⟨m,j2,hr,e2⟩:=bind_some e;obtain⟨m2,j3,hr2,e3⟩:=bind_some e2;obtain⟨u,j4,hr3,e4⟩:=bind_some e3;obtain⟨b1,c1⟩:=TO H h (A.length+1) (B.length+1) [x] j1 (by omega) (by have:=H.b;omega) m j2 hr;have b3:=TM H label j3 u j4 hr3;have hle1:=b1.le;have hle3:=xE A label j3 u j4 hr3;have wE:wrd A j3 [GP]=true:=by
  unfold Cs at hr3;obtain⟨_,_,q,_⟩:=bind_some hr3;exact(Sn q).1
 have l3:j4=l:=by cases e4;rfl
 subst l3
 by_cases hw:wrd A j2 [eZ,yK]=true
 ·rw[if_pos hw]at hr2;obtain⟨z,j5,hr4,e5⟩:=bind_some hr2
  cases e5
  obtain⟨b2,c2⟩:=h.ex (j2+1) (by omega) z j3 hr4;have u2:=h.up (j2+1) z j3 hr4;refine⟨b1.app ((b2.wd hw).app b3.1),fun c=>?_⟩
  dsimp only[Le2]at c
  rw[c1 (LM H (by omega) (yX hw (by intro s hs;simp only[List.mem_cons,List.not_mem_nil,or_false]at hs;rcases hs with rfl|rfl<;>decide +kernel)))]
  show aB (if wrd B j2 [eZ,yK]=true then _ else _) _=_
  rw[← H.wrd (by omega),if_pos hw,c2 (LM H (by omega) (yX wE (by intro s hs;rw[List.mem_singleton.1 hs];decide +kernel)))]
  show aB (Cs B label j3) _=_
  rw[b3.2 (by dsimp only[Le0];omega)];exact e4
 ·rw[if_neg hw]at hr2
  cases hr2
  refine⟨b1.app b3.1,fun c=>?_⟩
  dsimp only[Le2]at c
  rw[c1 (LM H (by omega) (yX wE (by intro s hs;rw[List.mem_singleton.1 hs];decide +kernel)))]
  show aB (if wrd B j2 [eZ,yK]=true then _ else _) _=_
  rw[← H.wrd (by omega),if_neg hw]
  show aB (Cs B label j2) _=_
  rw[b3.2 (by dsimp only[Le0];omega)];exact e4
theorem Tn{lo:Nat}{r1 r2:Nat→R T}(h:St A B n lo r1 r2)(a i:Nat)(hi:lo≤i):Ex A false (LeS A B n) i (qA A r1 a i) (qA B r2 a i):=by
 unfold qA;refine Ex.bind (C1:=Le2 n) (kF H i (Nat.zero_le _)) (fun x j _ hj=>Ex.bind (C1:=Le0 n) (mF H j [kY]) (fun _ j1 _ hj1=>?_) fun j l _ c=>by have:=c.1;dsimp only[Le0];omega) fun j l _ c=>by have:=c.1;dsimp only[Le2];omega
 intro y l e;obtain⟨z,j2,hr,e2⟩:=bind_some e;obtain⟨b1,c1⟩:=h.ex j1 (by omega) z j2 hr;have u1:=h.up j1 z j2 hr
 by_cases hk:keyword A j2 [sY]=true
 ·rw[if_pos hk]at e2;obtain⟨z2,j3,hr2,e3⟩:=bind_some e2
  cases e3
  have hw:wrd A j2 [sY]=true:=by
   unfold keyword at hk;simp only[Bool.and_eq_true]at hk;exact hk.1.1
  obtain⟨b2,c2⟩:=h.ex (j2+1) (by omega) z2 l hr2;have u2:=h.up (j2+1) z2 l hr2;refine⟨b1.app (b2.wd hw),fun c=>?_⟩;have hkB:=mX H (b2.wd hw) (by omega) (by have:=c.1;omega) (h.se _ _ _ hr2) [sY];rw[c1 ⟨by have:=c.1;omega,hkB⟩]
  show (if keyword B j2 [sY]=true then _ else _)=_
  rw[← hkB,if_pos hk,c2 c];rfl
 ·rw[if_neg hk]at e2
  cases e2
  refine⟨b1,fun c=>?_⟩;rw[c1 c]
  show (if keyword B l [sY]=true then _ else _)=_
  rw[← c.2,if_neg hk]
theorem UA{lo:Nat}{r1 r2:Nat→R T}(h:St A B n lo r1 r2)(a i:Nat)(hi:lo≤i):Ex A false (LeS A B n) i (onP A r1 a i) (onP B r2 a i):=by
 intro y l e;unfold onP at e ⊢
 dsimp only at e ⊢
 obtain⟨c,j,hr,e2⟩:=bind_some e;have hse:=Uq (A:=A) h.se a i y l (by unfold onP;exact e);have hc:=Ss H (s:=false) (!(sgn A (i+1) [sLP]&&!(isName A (i+2)&&sgn A (i+3) [sRP]&&!sgn A (i+4) [bY]))) i c j hr;have uc:=oY A _ i c j hr;have key:nT A false j l∧j<l∧(LeS A B n l→(if keyword B j [jQ]=true then aG B (node 32 a [c,node 33 j []]) (j+1)else aB (r2 j) fun x j1=>.ok (node 32 a [c,x],j1))=.ok (y,l)):=by
  by_cases hk:keyword A j [jQ]=true
  ·rw[if_pos hk]at e2;have hw:wrd A j [jQ]=true:=by
    unfold keyword at hk;simp only[Bool.and_eq_true]at hk;exact hk.1.1
   have g:=cB H _ (j+1) y l e2;have u:=cG A _ (j+1) y l e2;refine⟨g.1.wd hw,by omega,fun k=>?_⟩;rw[← mX H (g.1.wd hw) (by omega) (by have:=k.1;omega) hse,if_pos hk];exact g.2 (by have:=k.1;dsimp only[Le0];omega)
  ·rw[if_neg hk]at e2;obtain⟨z,j2,hr2,e3⟩:=bind_some e2
   cases e3
   obtain⟨b,c2⟩:=h.ex j (by omega) z l hr2;have u:=h.up j z l hr2;refine⟨b,by omega,fun k=>?_⟩;rw[← mX H b (by omega) (by have:=k.1;omega) hse,if_neg hk,c2 k];rfl
 refine⟨hc.1.app key.1,fun k=>?_⟩;have k1:=k.1;have hp:(sgn A (i+1) [sLP]&&!(isName A (i+2)&&sgn A (i+3) [sRP]&&!sgn A (i+4) [bY]))=(sgn B (i+1) [sLP]&&!(isName B (i+2)&&sgn B (i+3) [sRP]&&!sgn B (i+4) [bY])):=by
  have hl:=key.2.1;rw[H.sgn (i:=i+1) (by omega),H.nm (i:=i+2) (by omega),H.sgn (i:=i+3) (by omega)]
  cases q1:sgn B (i+1) [sLP] with
  | false=>rfl
  | true=>
   cases q2:isName B (i+2) with
   | false=>rfl
   | true=>
    cases q3:sgn B (i+3) [sRP] with
    | false=>rfl
    | true=>
     rw[← H.sgn (i:=i+1) (by omega)]at q1;rw[← H.nm (i:=i+2) (by omega)]at q2;rw[← H.sgn (i:=i+3) (by omega)]at q3;have hb:=((hc.1.app key.1).head (by omega)).2;have hn:isName A i=true:=by
      cases hh:isName A i with
      | true=>rfl
      | false=>unfold pD fN at hr;rw[hh]at hr;cases hr
     have hb1:=hb (bF (by rw[kX hn];decide));obtain⟨d,d1,d2,d3,_,_⟩:=(hb1.head (by omega)).1 q1;have:d≠i+2:=fun e=>by rw[e,bF (by rw[kX q2];decide)]at d3;cases d3
     have:l - 1≠i+3:=fun e=>by rw[e,bR q3 (by decide +kernel)]at hse;cases hse
     rw[H.sgn (i:=i+4) (by omega)]
 rw[← hp,hc.2 (by have:=key.2.1;dsimp only[Le2];omega)];exact key.2.2 k
def ExO(A:List Tk)(C:Nat→Prop)(i:Nat)(o1 o2:Option (R T)):Prop:=(o1=none→o2=none)∧∀ r1,o1=some r1→∃ r2,o2=some r2∧Ex A false C i r1 r2
omit H in
theorem ExO.ite{C:Nat→Prop}{i:Nat}{c:Prop}[Decidable c]{r1 r2:R T}{o1 o2:Option (R T)}(h:Ex A false C i r1 r2)(g:ExO A C i o1 o2):ExO A C i (if c then some r1 else o1) (if c then some r2 else o2):=by
 by_cases hc:c
 ·rw[if_pos hc,if_pos hc];exact⟨fun e=>(by cases e),fun _ e=>by cases e;exact⟨_,rfl,h⟩⟩
 ·rw[if_neg hc,if_neg hc];exact g
omit H in
theorem ExO.none{C:Nat→Prop}{i:Nat}:ExO A C i none none:=⟨fun _=>rfl,fun _ e=>by cases e⟩
theorem Td{lo:Nat}{r1 r2 q1 q2:Nat→R T}(h:St A B n lo r1 r2)(g:St A B n lo q1 q2)(w:ByteArray)(a:Nat)(label:ByteArray)(i:Nat)(hi:lo≤i):ExO A (LeS A B n) i (gW A r1 q1 w a label i) (gW B r2 q2 w a label i):=by
 unfold gW;have file:=fun {β:Type} {f1 f2:ByteArray→Nat→R β} (hh:∀ s j,Ex A false (Le2 n) j (f1 s j) (f2 s j))=>((Tf H i).bind (C:=Le2 n) fun s j _ _=>hh s j:Ex A false (Le2 n) i (aB (pA A i) f1) (aB (pA B i) f2))
 refine .ite (Sl (Sr H h a label i hi)) (.ite (Sl (zF H i fun j hj=>oX H h label j (by omega) _)) (.ite (Sl (UF H h a label i hi)) (.ite (Sl (Tz H g a label i hi)) (.ite (Tn H g a i hi) (.ite (Sl ?_) (.ite (Sl ?_) (.ite (Sl ?_) (.ite (Sl ?_) (.ite (Sl (Sc H 28 a i)) (.ite (Sl (Sc H 29 a i)) (.ite (Sl (Sk (cB H _ i))) (.ite (UA H g a i hi) (.ite (Sl ?_) (.ite (Sl ?_) (.ite (Sl ?_) (.ite (Sl ?_) (.ite (Sl (Sp H 38 a (Sa H) i)) (.ite (Sl (Sp H 39 a (kF H) i)) (.ite (Sl ?_) (.ite (Sl ?_) (.ite (Sl ?_) (.ite (Sl ?_) (.ite (Sl ?_) .none)))))))))))))))))))))))
 ·exact(Su H (kF H) i (Nat.zero_le _)).bind fun x j _ _=>Sk (cB H _ j)
 ·exact Ex.ite (n:=n) (fun hn=>by rw[H.sgn (by omega)]) (fun _=>(lX H i (Nat.zero_le _)).bind fun x j _ _=>Sk (cB H _ j)) fun _=>Sk (cB H _ i)
 ·exact(mF H i [wTO]).bind fun _ j _ _=>(lE H j).bind fun s j _ _=>Sk (cB H _ j)
 ·exact(lE H i).bind fun s j _ _=>Sk (cB H _ j)
 ·exact(Ss H true i).bind fun x j _ _=>Sk (cB H _ j)
 ·exact(Ss H true i).bind fun x j _ _=>Sk (cB H _ j)
 ·exact(lE H i).bind fun s j _ _=>(wL H Jw j (Nat.zero_le _)).bind fun x j1 _ _=>(wL H wIN j1 (Nat.zero_le _)).bind fun y j2 _ _=>Sk (cB H _ j2)
 ·exact(Sa H i (Nat.zero_le _)).bind fun r j _ _=>(wL H wIN j (Nat.zero_le _)).bind fun x j1 _ _=>Sk (cB H _ j1)
 ·exact file fun s j=>(nX H wW j (Nat.zero_le _)).bind fun r j1 _ _=>(mZ H pM j1 (Nat.zero_le _)).bind fun x j2 _ _=>Sk (cB H _ j2)
 ·exact file fun s j=>(nX H kP j (Nat.zero_le _)).bind fun r j1 _ _=>(mF H j1 [hZ]).bind fun _ j2 _ _=>(lX H j2 (Nat.zero_le _)).bind fun x j3 _ _=>Sk (cB H _ j3)
 ·exact file fun s j=>(nX H kP j (Nat.zero_le _)).bind fun r j1 _ _=>(mZ H pM j1 (Nat.zero_le _)).bind fun x j2 _ _=>Sk (cB H _ j2)
 ·exact file fun s j=>(mF H j [pM]).bind fun _ j1 _ _=>(lX H j1 (Nat.zero_le _)).bind fun x j2 _ _=>Sk (cB H _ j2)
 ·exact(kZ H (Ud H) 60 i (Nat.zero_le _)).bind fun l j _ _=>Sk (cB H _ j)
theorem TS{i l:Nat}(h:pH A i=false)(hn:isName A i=true)(hi:i<l)(hl:l+2≤n)(hse:sgn A (l - 1) [aS]=true):pH B i=false:=by
 cases hb:pH B i with
 | false=>rfl
 | true=>
  unfold pH at hb;rw[Bool.and_eq_true]at hb;obtain⟨h1,h2⟩:=hb
  cases hr:bM B (i+1) with
  | error a=>rw[hr]at h2;cases h2
  | ok xj=>
   obtain⟨x,j⟩:=xj;rw[hr]at h2;have g:=kF H.symm (s:=true) (i+1) (Nat.zero_le _) x j hr;have hil:i+1≤l - 1:=by
    rcases Nat.lt_or_ge i (l - 1)with q|q
    ·exact q
    ·rw[show l - 1=i from by omega,bF (by rw[kX hn];decide)]at hse;cases hse
   have hj:j≤l - 1:=by
    rcases Nat.lt_or_ge (l - 1) j with q|q
    ·have:=g.1.UO (l - 1) hil q;rw[← H.sgn (by omega),hse]at this;cases this
    ·exact q
   have:=g.2 (by dsimp only[Le2];omega);unfold pH at h;rw[H.wrd (by omega),h1,this]at h;replace h:wrd A j [kY]=false:=h;rw[H.wrd (by omega)]at h;replace h2:wrd B j [kY]=true:=h2;rw[h]at h2;cases h2
omit H in
theorem Ux(L:List Tk)(r q:Nat→R T)(a:Nat)(label:ByteArray)(i:Nat):gW L r q wIF a label i=some (qA L q a i):=by
 unfold gW;rw[if_neg (by decide +kernel),if_neg (by decide +kernel),if_neg (by decide +kernel),if_neg (by decide +kernel),if_pos rfl]
theorem TJ{lo:Nat}{r1 r2 q1 q2:Nat→R T}(h:St A B n lo r1 r2)(g:St A B n lo q1 q2)(inr:Bool)(label:ByteArray)(i:Nat)(hi:lo≤i+1):Ex A false (LeS A B n) i (iT A r1 q1 inr label i) (iT B r2 q2 inr label i):=by
 intro x l e;have hse:=SL (A:=A) r1 g.se inr label i x l e;have hup:=Iq A h.up g.up inr label i x l e;unfold iT at e ⊢
 by_cases h1:sgn A i [aS]=true
 ·rw[if_pos h1]at e;cases e;exact⟨.one (bR h1 (by decide +kernel)) (bR h1 (by decide +kernel)) (fun h=>by cases h) (oF h1),fun c=>by rw[← H.sgn (by have:=c.1;omega),if_pos h1]⟩
 ·rw[if_neg h1]at e;have hB:LeS A B n l→¬ sgn B i [aS]=true:=fun c=>by rw[← H.sgn (by have:=c.1;omega)];exact h1
  by_cases h2:(dU A i&&!pH A i)=true
  ·rw[if_pos h2]at e
   have k := ((Sa H (s := false) i (Nat.zero_le _)).bind (C := Le2 n) (f1 := fun r j => aB (aM A j sEQ) fun _ j1 => aB (bM A j1) fun x j2 => aB (aM A j2 aS) fun _ j3 => .ok (node 24 i [r, x], j3)) (f2 := fun r j => aB (aM B j sEQ) fun _ j1 => aB (bM B j1) fun x j2 => aB (aM B j2 aS) fun _ j3 => .ok (node 24 i [r, x], j3))
     fun r j _ _ => (mT H (s := false) j sEQ).bind fun _ j1 _ _ => (kF H j1 (Nat.zero_le _)).bind fun x j2 _ _ => zF H j2 fun _ _ => .ok) x l e
   refine⟨k.1,fun c=>?_⟩;have hn:isName A i=true:=by
    rw[Bool.and_eq_true]at h2;have h2:=h2.1;unfold dU dQ at h2
    cases hh:isName A i with
    | true=>rfl
    | false=>rw[hh]at h2;cases h2
   rw[Bool.and_eq_true]at h2;have hch:=TS H (by simpa using h2.2) hn (by omega) c.1 hse;rw[if_neg (hB c),← mE H k.1 (by omega) (by have:=c.1;omega) hse,h2.1,hch];exact k.2 c.1
  ·rw[if_neg h2]at e
   dsimp only at e ⊢
   by_cases h3:isName A i=false∨(inr=true∧(wrd A i [aE,pT]=true∨wrd A i [fI,Ki]=true))∨(wrd A i [aE,pT]=true∧label.size=0)
   ·rw[if_pos h3]at e;cases e
   ·rw[if_neg h3]at e;have hn:isName A i=true:=by
     cases hh:isName A i with
     | true=>rfl
     | false=>exact absurd (.inl hh) h3
    have d:=Td H h g (tok A i).text i label (i+1) hi
    cases hr:gW A r1 q1 (tok A i).text i label (i+1) with
    | none=>rw[hr]at e;cases e
    | some r=>
     rw[hr]at e;replace e:r=.ok (x,l):=e;obtain⟨r',hr',hE⟩:=d.2 r hr;obtain⟨b,c2⟩:=hE x l e;have b0:nT A false i l:=(nT.one (bF (by rw[kX hn];decide)) (bF (by rw[kX hn];decide)) (fun _=>bF (by rw[kX hn];decide)) (Sm (by rw[kX hn];decide))).app b;refine⟨b0,fun c=>?_⟩;have c1:=c.1;have ha:=mE H b0 (by omega) (by omega) hse;have h2B:¬ (dU B i&&!pH B i)=true:=by
      rw[← ha]
      cases q:dU A i with
      | false=>simp
      | true=>
       rw[q]at h2;have hc:pH A i=true:=by simpa using h2
       unfold pH at hc;rw[Bool.and_eq_true]at hc;obtain⟨w1,w2⟩:=hc
       cases hx:bM A (i+1) with
       | error a=>rw[hx]at w2;cases w2
       | ok xj=>
        obtain⟨z,j⟩:=xj;rw[hx]at w2;have hj:j+1≤l:=by
         have ht:(tok A i).text=wIF:=by
          unfold Px.wrd at w1;rw[Bool.and_eq_true,uR]at w1;exact List.mem_singleton.1 w1.2
         rw[ht,Ux]at hr
         cases hr
         unfold qA at e;rw[hx]at e;replace e:aB (gU A j [kY]) _=.ok (x,l):=e;obtain⟨_,j1,e1,e2⟩:=bind_some e;obtain⟨y,j2,e3,e4⟩:=bind_some e2;have:=(Sn e1).2;have:=g.up j1 y j2 e3
         by_cases hk:keyword A j2 [sY]=true
         ·rw[if_pos hk]at e4;obtain⟨y2,j3,e5,e6⟩:=bind_some e4;have:=g.up (j2+1) y2 j3 e5
          cases e6;omega
         ·rw[if_neg hk]at e4;cases e4;omega
        have:=(kF H (s:=true) (i+1) (Nat.zero_le _) z j hx).2 (by dsimp only[Le2];omega);have hcB:pH B i=true:=by
         unfold pH;rw[← H.wrd (by omega),w1,this]
         show (true&&wrd B j [kY])=true
         rw[← H.wrd (by omega)];exact w2
        rw[hcB];decide
     rw[if_neg (hB c),if_neg h2B,← H.wrd (by omega),← H.wrd (by omega),← H.nm (by omega),if_neg h3,← H.t i (by omega),hr'];exact c2 c
theorem nZ{lo:Nat}{l1 l2:Bool→ByteArray→Nat→R T}(h:∀ b w,St A B n lo (l1 b w) (l2 b w))(inr:Bool):St A B n lo (cH A l1 inr) (cH B l2 inr):=by
 refine⟨fun i hi=>?_,fun i=>iR A (fun b w=>(h b w).up) inr i,fun i=>CF (fun b w=>(h b w).se) inr i⟩;unfold cH;refine Ex.ite (n:=n) (fun hn=>by rw[H.sgn (by omega)]) (fun hc=>?_) (fun _=>(h inr e0).ex i hi) (fun j hj c=>by have:=c.1;omega);refine Ex.brk H hc (C1:=Le2 n) (kZ H (lo:=0) (fun i _=>Sk (wR H i)) 4 (i+1) (Nat.zero_le _)) (fun l j1 hj1=>?_) (fun j l hj c=>by have:=c.1;dsimp only[Le2];omega);exact Ex.bind (C1:=Le0 n) (mT H j1 bY) (fun _ j2 _ hj2=>Ex.last ((h inr e0).ex j2 (by omega))) (fun j l hj c=>by have:=c.1;dsimp only[Le0];omega)
theorem Uz: ∀ f1 f2 inr label i,n<i+f2→Ex A false (LeS A B n) i (qK A f1 inr label i) (qK B f2 inr label i):=by
 intro f1
 induction f1 with
 | zero=>intro f2 inr label i _;unfold qK;exact .err
 | succ f1 ih=>
  intro f2 inr label i hf;have key:∀ f2,n<i+(f2+1)→Ex A false (LeS A B n) i (qK A (f1+1) inr label i) (qK B (f2+1) inr label i):=by
   intro f2 hf x l e;have hs:∀ b w,St A B n (i+1) (qK A f1 b w) (qK B f2 b w):=fun b w=>⟨fun k hk=>ih f2 b w k (by omega),DT A f1 b w,Ta f1 b w⟩
   have hse:=Ta (A:=A) (f1+1) inr label i x l e;have hup:=DT A (f1+1) inr label i x l e;unfold qK at e ⊢
   by_cases h1:(dU A i||!labelled A i)=true
   ·rw[if_pos h1]at e;have k:=TJ H (nZ H hs false) (nZ H hs true) inr label i (Nat.le_refl _) x l e;refine⟨k.1,fun c=>?_⟩;rw[← mE H k.1 (by omega) (by have:=c.1;omega) hse,← oZ H (by omega) (by have:=c.1;omega) hse,if_pos h1];exact k.2 c
   ·rw[if_neg h1]at e;obtain⟨y,j,hr,e2⟩:=bind_some e
    cases e2
    obtain⟨b,c2⟩:=(hs inr (tok A i).text).ex (i+2) (by omega) y l hr;have hlab:labelled A i=true:=by
     cases q:labelled A i with
     | true=>rfl
     | false=>rw[q]at h1;simp at h1
    have hl2:=hlab;unfold labelled at hl2;rw[Bool.and_eq_true]at hl2;have b1:nT A false (i+1) l:=(nT.one (bR hl2.2 (by decide +kernel)) (bR hl2.2 (by decide +kernel)) (fun h=>by cases h) (oF hl2.2)).app b;have b0:nT A false i l:=(nT.one (bF (by rw[kX hl2.1];decide)) (bF (by rw[kX hl2.1];decide)) (fun _=>bF (by rw[kX hl2.1];decide)) (Sm (by rw[kX hl2.1];decide))).app b1;refine⟨b0,fun c=>?_⟩;rw[← mE H b0 (by omega) (by have:=c.1;omega) hse,← oZ H (by omega) (by have:=c.1;omega) hse,if_neg h1,← H.t i (by have:=c.1;omega),c2 c];rfl
  cases f2 with
  | zero=>exact(key n (by omega)).void fun l hl c=>by have:=c.1;omega
  | succ f2=>exact key f2 hf
theorem Ui: St A B n 0 (qJ A) (qJ B):=
 nZ H (fun b w=>⟨fun i _=>Uz H _ _ b w i (by have:=H.b;omega),DT A _ b w,Ta _ b w⟩) false
theorem Sg: Ex A false (Le0 n) 0 (gH A 0) (gH B 0):=by
 refine(lE H 0).bind fun w j _ _=>(mT H j bY).bind fun _ j1 _ _=>(mF H j1 _).bind fun _ j2 _ _=>(mF H j2 _).bind fun _ j3 _ _=>?_;exact Ex.TL H (C1:=Le0 n) (X1:=fun j=>gU A j [iV]) (X2:=fun j=>gU B j [iV]) (mF H _ _) fun _ j7 _=>(mT H j7 aS (by decide +kernel) (by decide +kernel) (by intro h;cases h)).bind fun _ j8 _ _=>(SM H (Ui H) w j8 (Nat.zero_le _)).bind fun _ _ _ _=>.ok
end
theorem TE(L X:List Tk):Agr L (L++X) L.length:=⟨Nat.le_refl _,by rw[List.length_append];omega,fun k hk=>by unfold tok;rw[List.getD_eq_getElem?_getD,List.getD_eq_getElem?_getD,List.getElem?_append_left hk]⟩
theorem UL{L:List Tk}{t:T}(h:Bb L (gH L)=.ok t)(m:Nat)(hm:m<L.length):∃ e,Bb (L.take m) (gH (L.take m))=.error e:=by
 cases hh:Bb (L.take m) (gH (L.take m)) with
 | error e=>exact⟨e,rfl⟩
 | ok u=>
  have key:∀ {M:List Tk} {u:T},Bb M (gH M)=.ok u→∃ j,M.length≤j∧gH M 0=.ok (u,j):=by
   intro M u h;unfold Bb at h
   cases hp:gH M 0 with
   | error e=>rw[hp]at h;cases h
   | ok xj=>
    obtain⟨x,j⟩:=xj;rw[hp]at h;replace h:(if j<M.length then .error j else .ok x)=Except.ok u:=h
    by_cases hj:j<M.length
    ·rw[if_pos hj]at h;cases h
    ·rw[if_neg hj]at h;cases h;exact⟨j,by omega,rfl⟩
  obtain⟨j,hj,hp⟩:=key h;obtain⟨k,hk,hq⟩:=key hh;have hl:(L.take m).length=m:=by rw[List.length_take];omega
  have g:=Sg (TE (L.take m) (L.drop m)) u k hq;rw[List.take_append_drop,hl]at g;have hk2:k≤m:=by
   rcases Nat.lt_or_ge 0 k with q|q
   ·have:=g.1.in_ q;omega
   ·omega
  rw[g.2 hk2]at hp
  cases hp;omega
theorem Ue{L:List Tk}{t:T}(h:Bb L (gH L)=.ok t)(x:Tk):Bb (L++[x]) (gH (L++[x]))=.error L.length:=by
 unfold Bb at h
 cases hp:gH L 0 with
 | error e=>rw[hp]at h;cases h
 | ok xj=>
  obtain⟨y,j⟩:=xj;rw[hp]at h;replace h:(if j<L.length then .error j else .ok y)=Except.ok t:=h;have g:=Sg (TE L [x]) y j hp;have hj:j=L.length:=by
   by_cases hj:j<L.length
   ·rw[if_pos hj]at h;cases h
   ·rcases Nat.lt_or_ge 0 j with q|q
    ·have:=g.1.in_ q;omega
    ·omega
  subst hj;unfold Bb;rw[g.2 (Nat.le_refl _)]
  show (if L.length<(L++[x]).length then _ else _)=_
  rw[if_pos (by simp)]
end Px
end
section
namespace Px
open Lx
theorem TH{L:List Tk}(hl:L.length≤2000)(h:(jS gH L).2.2=0):(∀ m,m<L.length→(jS gH (L.take m)).2.2=70)∧∀ x:Tk,bX x.kind x.text=true→(jS gH (L++[x])).2=((L.length:Int),70):=by
 obtain⟨_,hg,t,ht,_,_⟩:=kN.1 h;have key:∀ {M:List Tk} {a:Nat},M.length≤5000→Gd M→Bb M (gH M)=.error a→(jS gH M).2=((a:Int),70):=by
  intro M a h1 h2 h3;unfold jS;rw[if_neg (by omega),(At M 0).2 h2];simp only
  rw[h3]
 refine⟨fun m hm=>?_,fun x hx=>?_⟩
 ·obtain⟨e,he⟩:=UL ht m hm;rw[key (by rw[List.length_take];omega) (fun y hy=>hg y (List.mem_of_mem_take hy)) he]
 ·refine key (by rw[List.length_append,List.length_singleton];omega) (fun y hy=>?_) (Ue ht x)
  rcases List.mem_append.1 hy with h|h
  ·exact hg y h
  ·rw[List.mem_singleton.1 h];exact hx
end Px
end
end Go.Proofs.YtfdlmcgcckkkdaaGreatDoor
