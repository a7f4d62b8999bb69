/- ParseWhole, part 50: what it stands on. -/
import Derived.Test.YtfdlmcgcckkkdaaGreatDoorV32
set_option linter.all false
set_option maxHeartbeats 40000000
set_option maxRecDepth 100000
namespace Go.Proofs.YtfdlmcgcckkkdaaGreatDoor
section
namespace Px
open Lx
structure Agr (A B:List Tk) (n:Nat):Prop where
 a:n≤A.length
 b:n≤B.length
 t:∀ k,k<n→tok A k=tok B k
theorem Agr.symm{A B:List Tk}{n:Nat}(H:Agr A B n):Agr B A n:=⟨H.b,H.a,fun k h=>(H.t k h).symm⟩
theorem Agr.sgn{A B:List Tk}{n i:Nat}(H:Agr A B n)(h:i<n)(ss:List ByteArray):sgn A i ss=sgn B i ss:=by unfold Px.sgn;rw[H.t i h]
theorem Agr.wrd{A B:List Tk}{n i:Nat}(H:Agr A B n)(h:i<n)(ss:List ByteArray):wrd A i ss=wrd B i ss:=by unfold Px.wrd;rw[H.t i h]
theorem Agr.nm{A B:List Tk}{n i:Nat}(H:Agr A B n)(h:i<n):isName A i=isName B i:=by unfold isName;rw[H.t i h]
theorem Agr.cn{A B:List Tk}{n i:Nat}(H:Agr A B n)(h:i<n):bQ A i=bQ B i:=by unfold bQ;rw[H.t i h]
theorem UD{A:List Tk}{i:Nat}(h:A.length≤i):(tok A i).kind=0:=by
 unfold tok;rw[List.getD_eq_getElem?_getD,List.getElem?_eq_none h];rfl
theorem Sm{A:List Tk}{i:Nat}(h:(tok A i).kind≠0):i<A.length:=by
 rcases Nat.lt_or_ge i A.length with h1|h1
 ·exact h1
 ·exact absurd (UD h1) h
theorem Uy{A:List Tk}{i:Nat}{s:ByteArray}:sgn A i [s]=true↔(tok A i).kind=6∧(tok A i).text=s:=by
 unfold Px.sgn;rw[Bool.and_eq_true,beq_iff_eq,uR];simp
theorem oF{A:List Tk}{i:Nat}{ss:List ByteArray}(h:sgn A i ss=true):i<A.length:=by
 refine Sm ?_;unfold Px.sgn at h;rw[Bool.and_eq_true,beq_iff_eq]at h;rw[h.1];decide
theorem Ut{A:List Tk}{i:Nat}{ss:List ByteArray}(h:sgn A i ss=true):(tok A i).kind=6∧(tok A i).text∈ss:=by
 unfold Px.sgn at h;rw[Bool.and_eq_true,beq_iff_eq,uR]at h;exact h
theorem bR{A:List Tk}{i:Nat}{ss:List ByteArray}{s:ByteArray}(h:sgn A i ss=true)(hs:mV s ss=false):sgn A i [s]=false:=by
 cases hh:sgn A i [s] with
 | false=>rfl
 | true=>exact absurd ((uR _ _).2 ((Uy.1 hh).2 ▸ (Ut h).2)) (by rw[hs];decide)
theorem Tc{s t:ByteArray}(h:t≠s):mV s [t]=false:=by
 cases hh:mV s [t] with
 | false=>rfl
 | true=>exact absurd (List.mem_singleton.1 ((uR _ _).1 hh)).symm h
theorem bF{A:List Tk}{i:Nat}{ss:List ByteArray}(h:(tok A i).kind≠6):sgn A i ss=false:=by
 unfold Px.sgn;rw[beq_false_of_ne h];rfl
theorem lT{A:List Tk}{i:Nat}{ss:List ByteArray}(h:wrd A i ss=true):(tok A i).kind=1:=by
 unfold Px.wrd at h;rw[Bool.and_eq_true,beq_iff_eq]at h;exact h.1
theorem kX{A:List Tk}{i:Nat}(h:isName A i=true):(tok A i).kind=1:=by unfold isName at h;exact eq_of_beq h
theorem Us{A:List Tk}{i:Nat}(h:bQ A i=true):(tok A i).kind≠6∧(tok A i).kind≠0:=by
 unfold bQ at h;simp only[Bool.or_eq_true,beq_iff_eq]at h
 constructor<;>(intro e;rw[e]at h;revert h;decide)
inductive nT (A:List Tk) (s:Bool):Nat→Nat→Prop
 | nil (i:Nat):nT A s i i
 | one {i:Nat}:sgn A i [sLP]=false→sgn A i [sRP]=false→(s=true→sgn A i [aS]=false)→i<A.length→nT A s i (i+1)
 | br {i j:Nat}:sgn A i [sLP]=true→nT A s (i+1) j→sgn A j [sRP]=true→nT A s i (j+1)
 | app {i j k:Nat}:nT A s i j→nT A s j k→nT A s i k
theorem nT.le{A:List Tk}{s:Bool}{i j:Nat}(h:nT A s i j):i≤j:=by
 induction h<;>omega
theorem nT.to{A B:List Tk}{n:Nat}(H:Agr A B n){s:Bool}{i j:Nat}(h:nT A s i j)(hj:j≤n):nT B s i j:=by
 induction h with
 | nil i=>exact .nil i
 | one h1 h2 h3 h4=>
  rw[H.sgn (by omega)]at h1 h2 h3;exact .one h1 h2 h3 (by have:=H.b;omega)
 | br h1 hb h3 ih=>
  have:=hb.le;rw[H.sgn (by omega)]at h1 h3;exact .br h1 (ih (by omega)) h3
 | app h1 h2 ih1 ih2=>exact .app (ih1 (by have:=h2.le;omega)) (ih2 hj)
theorem nT.UO{A:List Tk}{i j:Nat}(h:nT A true i j):∀ k,i≤k→k<j→sgn A k [aS]=false:=by
 induction h with
 | nil i=>intro k h1 h2;omega
 | @one i h1 h2 h3 h4=>intro k g1 g2;rw[show k=i from by omega];exact h3 rfl
 | @br i j h1 hb h3 ih=>
  intro k g1 g2;have:=hb.le
  rcases Nat.lt_or_ge k (i+1)with g|g
  ·rw[show k=i from by omega];exact bR h1 (by decide +kernel)
  ·rcases Nat.lt_or_ge k j with g'|g'
   ·exact ih k g g'
   ·rw[show k=j from by omega];exact bR h3 (by decide +kernel)
 | @app i j k h1 h2 ih1 ih2=>
  intro m g1 g2
  rcases Nat.lt_or_ge m j with g|g
  ·exact ih1 m g1 g
  ·exact ih2 m g g2
theorem nT.in_{A:List Tk}{s:Bool}{i j:Nat}(h:nT A s i j):i<j→j≤A.length:=by
 induction h with
 | nil i=>intro h;omega
 | one _ _ _ h4=>intro _;exact h4
 | br _ _ h3 _=>intro _;exact oF h3
 | @app i j k h1 h2 ih1 ih2=>
  intro hik
  rcases Nat.lt_or_ge j k with g|g
  ·exact ih2 g
  ·have:=h2.le;rw[show k=j from by omega];exact ih1 (by have:=h1.le;omega)
def Ex{α:Type}(A:List Tk)(s:Bool)(C:Nat→Prop)(i:Nat)(r1 r2:R α):Prop:=∀ x j,r1=.ok (x,j)→nT A s i j∧(C j→r2=.ok (x,j))
abbrev Le0(n:Nat):Nat→Prop:=fun j=>j≤n
abbrev Le2(n:Nat):Nat→Prop:=fun j=>j+2≤n
section
variable {A B:List Tk} {n:Nat} {s:Bool} {C:Nat→Prop} {α β:Type}
theorem Ex.err{i e:Nat}{r2:R α}:Ex A s C i (.error e) r2:=fun _ _ h=>by cases h
theorem Ex.ok{i:Nat}{x:α}:Ex A s C i (.ok (x,i)) (.ok (x,i)):=fun _ _ h=>by cases h;exact⟨.nil _,fun _=>rfl⟩
theorem Ex.cond{C':Nat→Prop}{i:Nat}{r1 r2:R α}(h:Ex A s C i r1 r2)(hC:∀ j,i≤j→C' j→C j):Ex A s C' i r1 r2:=fun x j e=>⟨(h x j e).1,fun c=>(h x j e).2 (hC j (h x j e).1.le c)⟩
theorem Ex.bind{C1:Nat→Prop}{i:Nat}{r1 r2:R α}{f1 f2:α→Nat→R β}(h:Ex A s C1 i r1 r2)(hf:∀ x j,r1=.ok (x,j)→i≤j→Ex A s C j (f1 x j) (f2 x j))(hC:∀ j l,j≤l→C l→C1 j:=by(intro j l h1 h2;first|exact h2|(dsimp only[Le0,Le2]at *; omega))):Ex A s C i (aB r1 f1) (aB r2 f2):=by
 intro y l e
 cases hr:r1 with
 | error a=>rw[hr]at e;cases e
 | ok xj=>
  obtain⟨x,j⟩:=xj;rw[hr]at e;obtain⟨b1,c1⟩:=h x j hr;obtain⟨b2,c2⟩:=hf x j hr b1.le y l e;exact⟨b1.app b2,fun c=>by rw[c1 (hC j l b2.le c)];exact c2 c⟩
theorem Ex.void{i:Nat}{r1 r2 r3:R α}(h:Ex A s C i r1 r2)(hv:∀ j,i≤j→¬ C j):Ex A s C i r1 r3:=fun x j e=>⟨(h x j e).1,fun c=>absurd c (hv j (h x j e).1.le)⟩
theorem Ex.ite{i:Nat}{c1 c2:Prop}[Decidable c1][Decidable c2]{a1 a2 b1 b2:R α}(hc:i+2≤n→(c1↔c2))(h:c1→Ex A s C i a1 a2)(g:¬ c1→Ex A s C i b1 b2)(hC:∀ j,i≤j→C j→i+2≤n:=by(intro j h1 h2;dsimp only[Le0,Le2]at *; omega)):Ex A s C i (if c1 then a1 else b1) (if c2 then a2 else b2):=by
 intro x j e
 by_cases h1:c1
 ·rw[if_pos h1]at e;obtain⟨b,c⟩:=h h1 x j e;exact⟨b,fun k=>by rw[if_pos ((hc (hC j b.le k)).1 h1)];exact c k⟩
 ·rw[if_neg h1]at e;obtain⟨b,c⟩:=g h1 x j e;exact⟨b,fun k=>by rw[if_neg (fun h2=>h1 ((hc (hC j b.le k)).2 h2))];exact c k⟩
theorem Ex.one{i:Nat}{x:α}(h1:sgn A i [sLP]=false)(h2:sgn A i [sRP]=false)(h3:s=true→sgn A i [aS]=false)(h4:i<A.length):Ex A s C i (.ok (x,i+1)) (.ok (x,i+1)):=
 fun _ _ e=>by cases e;exact⟨.one h1 h2 h3 h4,fun _=>rfl⟩
theorem Ex.skip{i:Nat}{r1 r2:R α}(h1:sgn A i [sLP]=false)(h2:sgn A i [sRP]=false)(h3:s=true→sgn A i [aS]=false)(h4:i<A.length)(h:Ex A s C (i+1) r1 r2):Ex A s C i r1 r2:=
 fun x j e=>⟨(nT.one h1 h2 h3 h4).app (h x j e).1,(h x j e).2⟩
theorem Ex.Ur{i:Nat}{r1 r2:R α}(h1:(tok A i).kind≠6)(h4:(tok A i).kind≠0)(h:Ex A s C (i+1) r1 r2):Ex A s C i r1 r2:=
 h.skip (bF h1) (bF h1) (fun _=>bF h1) (Sm h4)
theorem Ex.mW{i:Nat}{ss:List ByteArray}{r1 r2:R α}(h1:sgn A i ss=true)(h:Ex A s C (i+1) r1 r2)(g1:mV sLP ss=false:=by decide +kernel)(g2:mV sRP ss=false:=by decide +kernel)(g3:s=true→mV aS ss=false:=by first|(intro _;decide +kernel)|(intro h;cases h)):Ex A s C i r1 r2:=
 h.skip (bR h1 g1) (bR h1 g2) (fun e=>bR h1 (g3 e)) (oF h1)
variable (H:Agr A B n)
include H
theorem mT(i:Nat)(t:ByteArray)(g1:t≠sLP:=by decide +kernel)(g2:t≠sRP:=by decide +kernel)(g3:s=true→t≠aS:=by first|(intro _;decide +kernel)|(intro h;cases h)):Ex A s (Le0 n) i (aM A i t) (aM B i t):=by
 intro x j e;unfold aM at e ⊢
 by_cases h:sgn A i [t]=true
 ·rw[if_pos h]at e;cases e;refine⟨.one (bR h (Tc g1)) (bR h (Tc g2)) (fun e=>bR h (Tc (g3 e))) (oF h),fun c=>?_⟩;rw[← H.sgn (i:=i) (by dsimp only[Le0]at c;omega),if_pos h]
 ·rw[if_neg h]at e;cases e
theorem mF(i:Nat)(ss:List ByteArray):Ex A s (Le0 n) i (gU A i ss) (gU B i ss):=by
 intro x j e;unfold gU at e ⊢
 by_cases h:wrd A i ss=true
 ·rw[if_pos h]at e;cases e;have k:=lT h;refine⟨.one (bF (by rw[k];decide)) (bF (by rw[k];decide)) (fun _=>bF (by rw[k];decide)) (Sm (by rw[k];decide)),fun c=>?_⟩;rw[← H.wrd (i:=i) (by dsimp only[Le0]at c;omega),if_pos h]
 ·rw[if_neg h]at e;cases e
theorem lE(i:Nat):Ex A s (Le0 n) i (fN A i) (fN B i):=by
 intro x j e;unfold fN at e ⊢
 by_cases h:isName A i=true
 ·rw[if_pos h]at e;cases e;have k:=kX h;refine⟨.one (bF (by rw[k];decide)) (bF (by rw[k];decide)) (fun _=>bF (by rw[k];decide)) (Sm (by rw[k];decide)),fun c=>?_⟩;rw[← H.nm (i:=i) (by dsimp only[Le0]at c;omega),if_pos h,H.t i (by dsimp only[Le0]at c;omega)]
 ·rw[if_neg h]at e;cases e
theorem wR(i:Nat):Ex A s (Le0 n) i (iX A i) (iX B i):=(lE H i).bind fun _ _ _ _=>Ex.ok
omit H in
theorem SX{t:Tk}{k:Nat}(h:iU t=some k):t.kind=2:=by
 unfold iU at h
 split at h
 ·rename_i g;exact g.1
 ·cases h
theorem yZ(lo hi i:Nat):Ex A s (Le0 n) i (fA A lo hi i) (fA B lo hi i):=by
 intro x j e;unfold fA at e ⊢
 cases h:iU (tok A i) with
 | none=>rw[h]at e;cases e
 | some k=>
  rw[h]at e;have hk:=SX h
  by_cases g:lo≤k∧k≤hi
  ·simp only[if_pos g]at e;cases e
   refine⟨.one (bF (by rw[hk];decide)) (bF (by rw[hk];decide)) (fun _=>bF (by rw[hk];decide)) (Sm (by rw[hk];decide)),fun c=>?_⟩;rw[← H.t i (by dsimp only[Le0]at c;omega),h];simp only[if_pos g]
  ·simp only[if_neg g]at e;cases e
theorem kT(i:Nat):Ex A s (Le0 n) i (bH A i) (bH B i):=by
 intro x j e;unfold bH at e ⊢
 by_cases h:bQ A i=true
 ·rw[if_pos h]at e;cases e;have k:=Us h;refine⟨.one (bF k.1) (bF k.1) (fun _=>bF k.1) (Sm k.2),fun c=>?_⟩;rw[← H.cn (i:=i) (by dsimp only[Le0]at c;omega),if_pos h,H.t i (by dsimp only[Le0]at c;omega)]
 ·rw[if_neg h]at e;cases e
theorem Ex.brk{C1:Nat→Prop}{i:Nat}{r1 r2:R α}{f1 f2:α→Nat→R β}(h0:sgn A i [sLP]=true)(h:Ex A s C1 (i+1) r1 r2)(hf:∀ x j,i+2≤j→Ex A s C j (f1 x j) (f2 x j))(hC:∀ j l,j+1≤l→C l→C1 j∧j+1≤n:=by(intro j l h1 h2;dsimp only[Le0,Le2]at *; omega)):Ex A s C i (aB r1 fun x j=>aB (aM A j sRP) fun _ j2=>f1 x j2) (aB r2 fun x j=>aB (aM B j sRP) fun _ j2=>f2 x j2):=by
 intro y l e
 cases hr:r1 with
 | error a=>rw[hr]at e;cases e
 | ok xj=>
  obtain⟨x,j⟩:=xj;rw[hr]at e;obtain⟨b1,c1⟩:=h x j hr;have hle:=b1.le;replace e:aB (aM A j sRP) (fun _ j2=>f1 x j2)=.ok (y,l):=e;unfold aM at e
  by_cases g:sgn A j [sRP]=true
  ·rw[if_pos g]at e;replace e:f1 x (j+1)=.ok (y,l):=e;obtain⟨b2,c2⟩:=hf x (j+1) (by omega) y l e;refine⟨(nT.br h0 b1 g).app b2,fun c=>?_⟩;obtain⟨k1,k2⟩:=hC j l b2.le c;rw[c1 k1]
   show aB (aM B j sRP) (fun _ j2=>f2 x j2)=_
   unfold aM;rw[← H.sgn (i:=j) (by omega),if_pos g];exact c2 c
  ·rw[if_neg g]at e;cases e
theorem Ex.TL{C1:Nat→Prop}{i:Nat}{X1 X2:Nat→R α}{f1 f2:α→Nat→R β}(h:Ex A s C1 (i+1) (X1 (i+1)) (X2 (i+1)))(hf:∀ x j,i+2≤j→Ex A s C j (f1 x j) (f2 x j))(hC:∀ j l,j+1≤l→C l→C1 j∧j+1≤n:=by(intro j l h1 h2;dsimp only[Le0,Le2]at *; omega)):Ex A s C i (aB (aM A i sLP) fun _ j0=>aB (X1 j0) fun x j=>aB (aM A j sRP) fun _ j2=>f1 x j2) (aB (aM B i sLP) fun _ j0=>aB (X2 j0) fun x j=>aB (aM B j sRP) fun _ j2=>f2 x j2):=by
 intro y l e
 by_cases g:sgn A i [sLP]=true
 ·have e1:aB (X1 (i+1)) (fun x j=>aB (aM A j sRP) fun _ j2=>f1 x j2)=.ok (y,l):=by
   unfold aM at e;rw[if_pos g]at e;exact e
  have b1:=Ex.brk H g h hf hC y l e1;refine⟨b1.1,fun c=>?_⟩;have hle:i+1≤n:=by
   cases hr:X1 (i+1) with
   | error a=>rw[hr]at e1;cases e1
   | ok xj=>
    obtain⟨x,j⟩:=xj;have q1:=(h x j hr).1.le;have q2:∀ y l,aB (aM A j sRP) (fun _ j2=>f1 x j2)=.ok (y,l)→j+1≤l:=by
     intro y l e;unfold aM at e
     by_cases g:sgn A j [sRP]=true
     ·rw[if_pos g]at e;exact(hf x (j+1) (by omega) y l e).1.le
     ·rw[if_neg g]at e;cases e
    rw[hr]at e1;have:=(hC j l (q2 y l e1) c).2;omega
  have e2:=b1.2 c;unfold aM;rw[← H.sgn (i:=i) (by omega),if_pos g];unfold aM at e2;exact e2
 ·unfold aM at e;rw[if_neg g]at e;cases e
omit H
def Fam(A:List Tk)(s:Bool)(C:Nat→Prop)(lo:Nat)(r1 r2:Nat→R T):Prop:=∀ i,lo≤i→Ex A s C i (r1 i) (r2 i)
include H
theorem TW{lo:Nat}{r1 r2:Nat→R T}(h:Fam A s (Le2 n) lo r1 r2):∀ m acc j,lo≤j→Ex A s (Le2 n) j (gK A r1 m acc j) (gK B r2 m acc j):=by
 intro m
 induction m with
 | zero=>intro acc j _;unfold gK;exact .ok
 | succ m ih=>
  intro acc j hj;unfold gK;refine Ex.ite (n:=n) (fun hn=>by rw[H.sgn (by omega)]) (fun hc=>Ex.mW hc ?_) (fun _=>.ok);exact(h (j+1) (by omega)).bind fun x j' _ h'=>ih _ j' (by omega)
theorem kZ{lo:Nat}{r1 r2:Nat→R T}(h:Fam A s (Le2 n) lo r1 r2)(most i:Nat)(hi:lo≤i):Ex A s (Le2 n) i (eD A most r1 i) (eD B most r2 i):=
 (h i hi).bind fun x j _ hj=>TW H h _ _ j (by omega)
theorem Tt{lo:Nat}{r1 r2:Nat→R T}(h:Fam A s (Le2 n) lo r1 r2)(up:∀ i,Up (i+1) (r1 i)):∀ m1 m2 acc j,lo≤j→n<j+m1→n<j+m2→Ex A s (Le2 n) j (gK A r1 m1 acc j) (gK B r2 m2 acc j):=by
 intro m1
 induction m1 with
 | zero=>
  intro m2 acc j _ h1 _ x l e;unfold gK at e
  cases e
  exact⟨.nil _,fun c=>by dsimp only[Le2]at c;omega⟩
 | succ m1 ih=>
  intro m2 acc j hj h1 h2;have key:∀ m2,n<j+(m2+1)→Ex A s (Le2 n) j (gK A r1 (m1+1) acc j) (gK B r2 (m2+1) acc j):=by
   intro m2 h2;unfold gK;refine Ex.ite (n:=n) (fun hn=>by rw[H.sgn (by omega)]) (fun hc=>Ex.mW hc ?_) (fun _=>.ok);exact(h (j+1) (by omega)).bind fun x j' e h'=>ih m2 _ j' (by omega) (by omega) (by omega)
  cases m2 with
  | zero=>exact(key n (by omega)).void fun l hl c=>by dsimp only[Le2]at c;omega
  | succ m2=>exact key m2 h2
theorem Uf{lo:Nat}{r1 r2:Nat→R T}(h:Fam A s (Le2 n) lo r1 r2)(up:∀ i,Up (i+1) (r1 i))(ops:List ByteArray)(a:Nat)(g1:mV sLP ops=false)(g2:mV sRP ops=false)(g3:mV aS ops=false):∀ f1 f2 x j,lo≤j→n<j+f2→Ex A s (Le2 n) j (nF A r1 ops a f1 x j) (nF B r2 ops a f2 x j):=by
 intro f1
 induction f1 with
 | zero=>intro f2 x j _ _;unfold nF;exact .err
 | succ f1 ih=>
  intro f2 x j hj hf;have key:∀ f2,n<j+(f2+1)→Ex A s (Le2 n) j (nF A r1 ops a (f1+1) x j) (nF B r2 ops a (f2+1) x j):=by
   intro f2 hf;unfold nF;refine Ex.ite (n:=n) (fun hn=>by rw[H.sgn (by omega)]) (fun hc=>?_) (fun _=>.ok);intro y l e
   have hn : Le2 n l → tok A j = tok B j := fun c => H.t j (by
     have := ((up (j + 1)).bind (fun x k hk => (Kz A up ops a f1 _ k).le hk) : Up (j + 2) _) y l e
     dsimp only [Le2] at c; omega)
   have:=(Ex.mW hc ((h (j+1) (by omega)).bind fun z j' e h'=>ih f2 (.mk 6 0 a (tok A j).text [x,z]) j' (by omega) (by omega)) g1 g2 (fun _=>g3)) y l e;exact⟨this.1,fun c=>by rw[← hn c];exact this.2 c⟩
  cases f2 with
  | zero=>exact(key n (by omega)).void fun l hl c=>by dsimp only[Le2]at c;omega
  | succ f2=>exact key f2 hf
omit H in
theorem SI: ∀ k,mV sLP (eO k)=false∧mV sRP (eO k)=false∧mV aS (eO k)=false:=by
 intro k
 rcases k with _|_|_|_|_|k<;>exact⟨by kernel_rfl,by kernel_rfl,by kernel_rfl⟩
theorem TB{lo:Nat}{r1 r2:Nat→R T}(h:Fam A s (Le2 n) lo r1 r2)(up:∀ i,Up (i+1) (r1 i)):∀ k,Fam A s (Le2 n) lo (tG A r1 k) (tG B r2 k):=by
 intro k
 induction k with
 | zero=>exact h
 | succ k ih=>
  intro i hi;exact(ih i hi).bind fun x j _ hj=>Uf H ih (Az A up k) _ _ (SI _).1 (SI _).2.1 (SI _).2.2 _ _ _ j (by omega) (by have:=H.b;omega)
theorem AO{lo:Nat}{r1 r2:Nat→R T}(h:Fam A s (Le2 n) lo r1 r2):Fam A s (Le2 n) lo (aP A r1) (aP B r2):=fun i hi=>
 Ex.ite (n:=n) (fun hn=>by rw[H.sgn (by omega)]) (fun hc=>Ex.mW hc .ok) (fun _=>h i hi)
omit H in
theorem Ex.empty{i:Nat}{x:α}(h1:sgn A i [sLP]=true)(h2:sgn A (i+1) [sRP]=true):Ex A s C i (.ok (x,i+2)) (.ok (x,i+2)):=
 fun _ _ e=>by cases e;exact⟨.br h1 (.nil _) h2,fun _=>rfl⟩
theorem Su{lo:Nat}{r1 r2:Nat→R T}(h:Fam A s (Le2 n) lo r1 r2)(i:Nat)(hi:lo≤i+1):Ex A s (Le2 n) i (nY A r1 i) (nY B r2 i):=
 (lE H i).bind fun w j e _=>Ex.ite (n:=n) (fun hn=>by rw[H.sgn (by omega)])
  (fun hc => Ex.ite (n := n) (fun hn => by rw [H.sgn (i := j + 1) (by omega)]) (fun hd => .empty hc hd)
    (fun _ => Ex.brk H hc (kZ H (AO H h) 16 (j + 1) (by have := hG A i _ _ e; omega)) fun _ _ _ => .ok))
  (fun _=>.ok)
theorem Tj{lo:Nat}{r1 r2:Nat→R T}(h:Fam A s (Le2 n) lo r1 r2):∀ m acc j,lo≤j+1→Ex A s (Le2 n) j (fS A r1 m acc j) (fS B r2 m acc j):=by
 intro m
 induction m with
 | zero=>intro acc j _;unfold fS;exact .ok
 | succ m ih=>
  intro acc j hj;unfold fS;refine Ex.ite (n:=n) (fun hn=>by rw[H.sgn (by omega)]) (fun hc=>Ex.mW hc ?_) (fun _=>.ok);exact(Su H h (j+1) (by omega)).bind fun x j' _ h'=>ih _ j' (by omega)
theorem Si{lo:Nat}{r1 r2:Nat→R T}(h:Fam A s (Le2 n) lo r1 r2)(i:Nat)(hi:lo≤i+1):Ex A s (Le2 n) i (iN A r1 i) (iN B r2 i):=
 (Su H h i hi).bind fun x j _ hj=>(Tj H h 7 _ j (by omega)).bind fun l j' _ _=>.ok
theorem Ub{lo:Nat}{r1 r2:Nat→R T}(h:Fam A s (Le2 n) lo r1 r2)(up:∀ i,Up (i+1) (r1 i))(a:Nat):∀ f1 f2 x j,lo≤j+1→n<j+f2→Ex A s (Le2 n) j (qG A r1 a f1 x j) (qG B r2 a f2 x j):=by
 intro f1
 induction f1 with
 | zero=>intro f2 x j _ _;unfold qG;exact .err
 | succ f1 ih=>
  intro f2 x j hj hf;have key:∀ f2,n<j+(f2+1)→Ex A s (Le2 n) j (qG A r1 a (f1+1) x j) (qG B r2 a (f2+1) x j):=by
   intro f2 hf;unfold qG;refine Ex.ite (n:=n) (fun hn=>by rw[H.sgn (by omega)]) (fun hc=>Ex.mW hc ?_) (fun _=>.ok);exact(Si H h (j+1) (by omega)).bind fun x j' e h'=>ih f2 _ j' (by omega) (by omega)
  cases f2 with
  | zero=>exact(key n (by omega)).void fun l hl c=>by dsimp only[Le2]at c;omega
  | succ f2=>exact key f2 hf
theorem yE{lo:Nat}{r1 r2:Nat→R T}(h:Fam A s (Le2 n) lo r1 r2)(up:∀ i,Up (i+1) (r1 i))(i:Nat)(hi:lo≤i+1):Ex A s (Le2 n) i (cU A r1 i) (cU B r2 i):=
 (Si H h i hi).bind fun x j _ hj=>Ub H h up i _ _ x j (by omega) (by have:=H.b;omega)
theorem TX: ∀ f1 f2 i,n<i+f2→Ex A s (Le2 n) i (eB A f1 i) (eB B f2 i):=by
 intro f1
 induction f1 with
 | zero=>intro f2 i _;unfold eB;exact .err
 | succ f1 ih=>
  intro f2 i hf;have key:∀ f2,n<i+(f2+1)→Ex A s (Le2 n) i (eB A (f1+1) i) (eB B (f2+1) i):=by
   intro f2 hf;have h:Fam A s (Le2 n) (i+1) (eB A f1) (eB B f2):=fun k hk=>ih f2 k (by omega)
   have hk:Fam A s (Le2 n) (i+1) (tG A (eB A f1) 6) (tG B (eB B f2) 6):=TB H h (Bo A f1) 6;unfold eB;refine Ex.ite (n:=n) (fun hn=>by rw[H.sgn (by omega)]) (fun hc=>?_) fun _=>Ex.ite (n:=n) (fun hn=>by rw[H.sgn (by omega)]) (fun hc=>?_) fun _=>Ex.ite (n:=n) (fun hn=>by rw[H.cn (by omega)]) (fun hc=>(kT H i).cond fun j _ c=>by dsimp only[Le0,Le2]at *; omega) fun _=>?_
   ·intro y l e;have:=(Ex.mW hc ((h (i+1) (Nat.le_refl _)).bind (C:=Le2 n) (f1:=fun x j=>.ok (.mk 5 0 i (tok A i).text [x],j)) (f2:=fun x j=>.ok (.mk 5 0 i (tok A i).text [x],j)) fun x j _ _=>.ok)) y l e
    exact ⟨this.1, fun c => by
      have h1 := this.2 c
      have h2 := ((Bo A f1 (i + 1)).bind (fun x j hj => .ok hj) : Up (i + 2) _) y l e
      dsimp only [Le2] at c
      rw [← H.t i (by omega)]; exact h1⟩
   ·exact Ex.brk H hc (hk (i+1) (Nat.le_refl _)) fun _ _ _=>.ok
   ·exact yE H hk (Az A (Bo A f1) 6) i (Nat.le_refl _)
  cases f2 with
  | zero=>exact(key n (by omega)).void fun l hl c=>by dsimp only[Le2]at c;omega
  | succ f2=>exact key f2 hf
theorem kF: Fam A s (Le2 n) 0 (bM A) (bM B):=TB H (fun i _=>TX H _ _ i (by have:=H.b;omega)) (Bo A _) 6
theorem Sa: Fam A s (Le2 n) 0 (Cr A) (Cr B):=fun i _=>yE H (kF H) (bD A) i (by omega)
end
end Px
end
section
namespace Px
open Lx
theorem nT.head{A:List Tk}{s:Bool}{i j:Nat}(h:nT A s i j):i<j→(sgn A i [sLP]=true→∃ c,i+1≤c∧c<j∧sgn A c [sRP]=true∧nT A s (i+1) c∧nT A s (c+1) j)∧(sgn A i [sLP]=false→nT A s (i+1) j):=by
 induction h with
 | nil i=>intro h;omega
 | one h1 h2 h3 h4=>intro _;exact⟨fun h=>(by rw[h]at h1;cases h1),fun _=>.nil _⟩
 | br h1 hb h3 _=>intro _;exact⟨fun _=>⟨_,hb.le,by omega,h3,hb,.nil _⟩,fun h=>(by rw[h]at h1;cases h1)⟩
 | @app i j k h1 h2 ih1 ih2=>
  intro hik
  rcases Nat.lt_or_ge i j with g|g
  ·obtain⟨p,q⟩:=ih1 g;exact⟨fun h=>by obtain⟨c,c1,c2,c3,c4,c5⟩:=p h;exact⟨c,c1,by have:=h2.le;omega,c3,c4,c5.app h2⟩,fun h=>(q h).app h2⟩
  ·have:i=j:=Nat.le_antisymm h1.le g;subst this;exact ih2 hik
theorem TG{A:List Tk}{s:Bool}{i j:Nat}(h:nT A s i j):∀ f d,1≤d→hY A (f+(j - i)) i d=hY A f j d:=by
 induction h with
 | nil i=>intro f d _;rw[Nat.sub_self];rfl
 | @one i h1 h2 h3 h4=>
  intro f d _;rw[show f+(i+1 - i)=f+1 from by omega]
  conv=>lhs;unfold hY
  rw[if_neg (by omega),h2,h1];rfl
 | @br i j h1 hb h3 ih=>
  intro f d hd;have:=hb.le;rw[show f+(j+1 - i)=((f+1)+(j - (i+1)))+1 from by omega]
  conv=>lhs;unfold hY
  rw[if_neg (by have:=oF h1;omega),bR (s:=sRP) h1 (by decide +kernel),h1]
  show hY A (f+1+(j - (i+1))) (i+1) (d+1)=_
  rw[ih (f+1) (d+1) (by omega)]
  conv=>lhs;unfold hY
  rw[if_neg (by have:=oF h3;omega),bR (s:=sLP) h3 (by decide +kernel),h3]
  show (if d+1=1 then _ else hY A f (j+1) (d+1 - 1))=_
  rw[if_neg (by omega)];rfl
 | @app i j k h1 h2 ih1 ih2=>
  intro f d hd;have:=h1.le;have:=h2.le;rw[show f+(k - i)=(f+(k - j))+(j - i)from by omega,ih1 _ d hd,ih2 _ d hd]
theorem Te{A:List Tk}{s:Bool}{i c:Nat}(h0:sgn A i [sLP]=true)(hb:nT A s (i+1) c)(h1:sgn A c [sRP]=true):hY A (A.length+1) i 0=some (c+1):=by
 have:=hb.le;have hc:=oF h1
 conv=>lhs;unfold hY
 rw[if_neg (by have:=oF h0;omega),bR (s:=sRP) h0 (by decide +kernel),h0]
 show hY A A.length (i+1) 1=_
 rw[show A.length=((A.length - (c - (i+1)) - 1)+1)+(c - (i+1))from by omega,TG hb _ 1 (Nat.le_refl _)]
 conv=>lhs;unfold hY
 rw[if_neg (by omega),bR (s:=sLP) h1 (by decide +kernel),h1];rfl
section
variable {A B:List Tk} {n:Nat} {s:Bool} {α β:Type} (H:Agr A B n)
include H
theorem Uc{j:Nat}(hj:j≤n)(hs:sgn A (j - 1) [aS]=true):∀ m p,j - p≤m→p<j→nT A false p j→∀ f1 f2,j - p<f1→j - p<f2→dQ A f1 p=dQ B f2 p∧∀ q,dQ A f1 p=some q→q<j:=by
 intro m
 induction m with
 | zero=>intro p h1 h2;omega
 | succ m ih=>
  intro p hm hp hb f1 f2 h1 h2;obtain⟨f1,rfl⟩:∃ k,f1=k+1:=⟨f1 - 1,by omega⟩
  obtain⟨f2,rfl⟩:∃ k,f2=k+1:=⟨f2 - 1,by omega⟩
  unfold dQ;rw[← H.nm (i:=p) (by omega)]
  cases hn:isName A p with
  | false=>simp
  | true=>
   have k6:(tok A p).kind≠6:=by rw[kX hn];decide
   have hpj:p+1<j:=by
    rcases Nat.lt_or_ge (p+1) j with g|g
    ·exact g
    ·rw[show j - 1=p from by omega,bF k6]at hs;cases hs
   have hb1:=(hb.head hp).2 (bF k6);have key:∃ q,(if sgn A (p+1) [sLP]=true then hY A (A.length+1) (p+1) 0 else some (p+1))=some q∧(if sgn B (p+1) [sLP]=true then hY B (B.length+1) (p+1) 0 else some (p+1))=some q∧p<q∧q<j∧nT A false q j:=by
    rw[← H.sgn (i:=p+1) (by omega)]
    cases hl:sgn A (p+1) [sLP] with
    | false=>exact⟨p+1,by simp,by simp,by omega,hpj,hb1⟩
    | true=>
     obtain⟨c,c1,c2,c3,c4,c5⟩:=(hb1.head hpj).1 hl;have c6:c+1<j:=by
      rcases Nat.lt_or_ge (c+1) j with g|g
      ·exact g
      ·rw[show j - 1=c from by omega,bR c3 (by decide)]at hs;cases hs
     refine⟨c+1,?_,?_,by omega,c6,c5⟩
     ·rw[if_pos rfl];exact Te hl c4 c3
     ·rw[if_pos rfl];exact Te (by rw[← H.sgn (by omega)];exact hl) (c4.to H (by omega)) (by rw[← H.sgn (by omega)];exact c3)
   obtain⟨q,e1,e2,hpq,hq,hbq⟩:=key;rw[e1,e2];simp only[Bool.true_eq_false,if_false]
   rw[← H.sgn (i:=q) (by omega),← H.sgn (i:=q) (by omega)]
   by_cases hd:(sgn A q [uM]||sgn A q [hJ])=true
   ·rw[if_pos hd,if_pos hd];have hd':sgn A q [aS]=false∧sgn A q [sLP]=false:=by
     rcases (Bool.or_eq_true _ _ ▸ hd:_∨_)with g|g<;>exact⟨bR g (by decide +kernel),bR g (by decide +kernel)⟩
    have hqj:q+1<j:=by
     rcases Nat.lt_or_ge (q+1) j with g|g
     ·exact g
     ·rw[show j - 1=q from by omega,hd'.1]at hs;cases hs
    exact ih (q+1) (by omega) hqj ((hbq.head hq).2 hd'.2) f1 f2 (by omega) (by omega)
   ·rw[if_neg hd,if_neg hd];exact⟨rfl,fun r e=>by cases e;exact hq⟩
theorem mE{i j:Nat}(hb:nT A false i j)(hi:i<j)(hj:j≤n)(hs:sgn A (j - 1) [aS]=true):dU A i=dU B i:=by
 obtain⟨e,hq⟩:=Uc H hj hs _ i (Nat.le_refl _) hi hb (A.length+1) (B.length+1) (by have:=H.a;omega) (by have:=H.b;omega);unfold dU;rw[← e]
 cases h:dQ A (A.length+1) i with
 | none=>rfl
 | some q=>exact H.sgn (by have:=hq q h;omega) _
theorem oZ{i j:Nat}(hi:i<j)(hj:j≤n)(hs:sgn A (j - 1) [aS]=true):labelled A i=labelled B i:=by
 unfold labelled;rw[← H.nm (i:=i) (by omega)]
 cases hn:isName A i with
 | false=>rfl
 | true=>
  rcases Nat.lt_or_ge (i+1) j with g|g
  ·rw[H.sgn (by omega)]
  ·rw[show j - 1=i from by omega,bF (by rw[kX hn];decide)]at hs;cases hs
theorem mX{i j:Nat}(hb:nT A false i j)(hi:i<j)(hj:j≤n)(hs:sgn A (j - 1) [aS]=true)(ss:List ByteArray):keyword A i ss=keyword B i ss:=by
 unfold keyword;rw[H.wrd (by omega),mE H hb hi hj hs,oZ H hi hj hs]
omit H
theorem Sd{L:List Tk}{i:Nat}{ss:List ByteArray}(h:wrd L i ss=false):keyword L i ss=false:=by unfold keyword;rw[h];rfl
def Se(A:List Tk)(r:R α):Prop:=∀ x j,r=.ok (x,j)→sgn A (j - 1) [aS]=true
theorem Se.err{e:Nat}:Se A (.error e:R α):=fun _ _ h=>by cases h
theorem Se.bind{r:R α}{f:α→Nat→R β}(hf:∀ x j,Se A (f x j)):Se A (aB r f):=by
 intro y l e
 cases hr:r with
 | error a=>rw[hr]at e;cases e
 | ok xj=>rw[hr]at e;exact hf _ _ y l e
theorem Se.ite{c:Prop}[Decidable c]{r t:R α}(h:c→Se A r)(g:¬ c→Se A t):Se A (if c then r else t):=by
 split
 ·exact h ‹_›
 ·exact g ‹_›
theorem Sw(i:Nat):Se A (aM A i aS):=by
 intro x j e;unfold aM at e
 by_cases h:sgn A i [aS]=true
 ·rw[if_pos h]at e;cases e;exact h
 ·rw[if_neg h]at e;cases e
theorem Se.last{r:R α}{f:α→β}(h:Se A r):Se A (aB r fun x j=>.ok (f x,j)):=by
 intro y l e
 cases hr:r with
 | error a=>rw[hr]at e;cases e
 | ok xj=>
  obtain⟨x,j⟩:=xj;rw[hr]at e;cases e;exact h x _ hr
theorem Sh(t:T)(i:Nat):Se A (aG A t i):=(Sw i).last (f:=fun _=>t)
theorem TD(label:ByteArray)(i:Nat):Se A (Cs A label i):=Se.bind fun _ _=>Sw _
theorem zE(stmt:Nat→R T)(label:ByteArray):∀ f acc i,Se A (fJ A stmt label f acc i):=by
 intro f
 induction f with
 | zero=>intro acc i;unfold fJ;exact .err
 | succ f ih=>
  intro acc i;unfold fJ;exact Se.ite (fun _=>(TD label i).last (f:=fun _=>acc)) fun _=>Se.bind fun x j=>ih _ j
theorem TZ(stmt:Nat→R T)(label:ByteArray)(i:Nat):Se A (fF A stmt label i):=zE stmt label _ _ i
theorem kE{r:R α}(h:Se A r:=by repeat (first|exact Se.err|exact Sh _ _|exact Se.last (TZ _ _ _)|exact Se.last (TD _ _)|(refine Se.ite (fun _=>?_) (fun _=>?_))|(refine Se.bind fun _ _=>?_))):Se A r:=h
theorem Sv(stmt:Nat→R T)(a:Nat)(label:ByteArray)(i:Nat):Se A (eX A stmt a label i):=by unfold eX;exact kE
theorem Un(stmt:Nat→R T)(a:Nat)(label:ByteArray)(i:Nat):Se A (doP A stmt a label i):=by unfold doP;exact kE
theorem Tp(inner:Nat→R T)(a:Nat)(label:ByteArray)(i:Nat):Se A (iA A inner a label i):=by unfold iA;exact kE
theorem Tv{inner:Nat→R T}(g:∀ i,Se A (inner i))(a i:Nat):Se A (qA A inner a i):=by
 unfold qA;refine Se.bind fun x j=>Se.bind fun _ j1=>?_;intro y l e
 cases hr:inner j1 with
 | error a=>rw[hr]at e;cases e
 | ok xj=>
  obtain⟨z,j2⟩:=xj;rw[hr]at e
  by_cases hk:keyword A j2 [sY]=true
  ·replace e:(if keyword A j2 [sY]=true then _ else _)=Except.ok (y,l):=e;rw[if_pos hk]at e;exact Se.last (g (j2+1)) y l e
  ·replace e:(if keyword A j2 [sY]=true then _ else _)=Except.ok (y,l):=e;rw[if_neg hk]at e;cases e;exact g j1 z l hr
theorem Uq{inner:Nat→R T}(g:∀ i,Se A (inner i))(a i:Nat):Se A (onP A inner a i):=by
 unfold onP;exact Se.bind fun c j=>Se.ite (fun _=>Sh _ _) fun _=>Se.last (g j)
def SeO(A:List Tk)(o:Option (R α)):Prop:=∀ r,o=some r→Se A r
theorem SeO.ite{c:Prop}[Decidable c]{r:R α}{o:Option (R α)}(h:Se A r)(g:SeO A o):SeO A (if c then some r else o):=by
 intro x e
 split at e
 ·cases e;exact h
 ·exact g x e
theorem SeO.none: SeO A (none:Option (R α)):=fun _ e=>by cases e
theorem Tb(stmt:Nat→R T){inner:Nat→R T}(g:∀ i,Se A (inner i))(w:ByteArray)(a:Nat)(label:ByteArray)(i:Nat):SeO A (gW A stmt inner w a label i):=by
 unfold gW;refine .ite (Sv _ _ _ _) (.ite kE (.ite (Un _ _ _ _) (.ite (Tp _ _ _ _) (.ite (Tv g _ _) (.ite ?_ (.ite ?_ (.ite ?_ (.ite ?_ (.ite ?_ (.ite ?_ (.ite (Sh _ _) (.ite (Uq g _ _) (.ite kE (.ite kE (.ite ?_ (.ite ?_ (.ite ?_ (.ite ?_ (.ite ?_ (.ite ?_ (.ite ?_ (.ite ?_ (.ite ?_ .none)))))))))))))))))))))))
 ·unfold Dw;exact kE
 ·unfold Dg;exact kE
 ·unfold wQ;exact kE
 ·unfold wQ;exact kE
 ·unfold fH;exact kE
 ·unfold fH;exact kE
 ·unfold jP;exact kE
 ·unfold DE;exact kE
 ·unfold fO;exact kE
 ·unfold fO;exact kE
 ·unfold DS;exact kE
 ·unfold vQ;exact kE
 ·unfold mJ;exact kE
 ·unfold qH;exact kE
 ·unfold mH;exact kE
theorem SL(stmt:Nat→R T){inner:Nat→R T}(g:∀ i,Se A (inner i))(inr:Bool)(label:ByteArray)(i:Nat):Se A (iT A stmt inner inr label i):=by
 unfold iT;refine Se.ite (fun h=>fun x j e=>by cases e;exact h) fun _=>Se.ite (fun _=>?_) fun _=>Se.ite (fun _=>.err) fun _=>?_
 ·exact Se.bind fun _ _=>Se.bind fun _ _=>Se.bind fun _ _=>Se.last (Sw _)
 ·cases h:gW A stmt inner (tok A i).text i label (i+1) with
  | none=>exact .err
  | some r=>exact Tb stmt g _ _ _ _ r h
theorem CF{lab:Bool→ByteArray→Nat→R T}(h:∀ b l i,Se A (lab b l i))(inr:Bool)(i:Nat):Se A (cH A lab inr i):=by
 unfold cH;exact Se.ite (fun _=>Se.bind fun _ _=>Se.bind fun _ _=>Se.bind fun _ _=>Se.last (h _ _ _)) fun _=>h _ _ _
theorem Ta: ∀ f inr label i,Se A (qK A f inr label i):=by
 intro f
 induction f with
 | zero=>intro inr label i;unfold qK;exact .err
 | succ f ih=>
  intro inr label i;unfold qK;exact Se.ite (fun _=>SL _ (fun i=>CF ih true i) _ _ _) fun _=>Se.last (ih _ _ _)
end
end Px
end
section
namespace Px
open Lx
theorem Rw(L:List Tk){stmt:Nat→R T}(h:∀ i,Up (i+1) (stmt i))(label:ByteArray):∀ f acc i,Up (i+2) (fJ L stmt label f acc i):=by
 intro f
 induction f with
 | zero=>intro acc i;unfold fJ;exact .err _
 | succ f ih=>
  intro acc i;unfold fJ;refine Up.ite (fun _=>Up.bind (k:=i+2) ?_ fun _ j hj=>.ok hj) fun _=>(h i).bind fun x j hj=>(ih _ j).le (by omega)
  unfold Cs;refine(iM L i [GP]).bind fun _ j hj=>(aK L _ aS).le ?_
  split<;>omega
section
variable {A B:List Tk} {n:Nat} {s:Bool} {α β:Type} (H:Agr A B n)
include H
omit H in
theorem Sk{i:Nat}{r1 r2:R α}(h:Ex A s (Le0 n) i r1 r2):Ex A s (Le2 n) i r1 r2:=h.cond fun j _ c=>by dsimp only[Le0,Le2]at *; omega
theorem lX: Fam A s (Le2 n) 0 (cQ A) (cQ B):=fun i _=>Ex.TL H (X1:=bM A) (X2:=bM B) (kF H _ (Nat.zero_le _)) fun _ _ _=>.ok
theorem Ex.word{i:Nat}{ss:List ByteArray}{a1 a2 b1 b2:R α}(h:Ex A s (Le2 n) (i+1) a1 a2)(g:wrd A i ss=false→Ex A s (Le2 n) i b1 b2):Ex A s (Le2 n) i (if wrd A i ss then a1 else b1) (if wrd B i ss then a2 else b2):=
 Ex.ite (n:=n) (fun hn=>by rw[H.wrd (by omega)]) (fun hc=>h.Ur (by rw[lT hc];decide) (by rw[lT hc];decide)) fun hc=>g (by simpa using hc)
theorem mZ(w:ByteArray):Fam A s (Le2 n) 0 (fC A w) (fC B w):=fun i _=>Ex.word H (lX H _ (Nat.zero_le _)) fun _=>.ok
theorem HV(w:ByteArray):Fam A s (Le2 n) 0 (gB A w) (gB B w):=fun i _=>Ex.word H (kF H _ (Nat.zero_le _)) fun _=>.ok
theorem wL(w:ByteArray):Fam A s (Le2 n) 0 (kL A w) (kL B w):=fun i _=>Ex.word H (Ex.TL H (X1:=Cr A) (X2:=Cr B) (Sa H _ (Nat.zero_le _)) fun _ _ _=>.ok) fun _=>.ok
theorem nX(w:ByteArray):Fam A s (Le2 n) 0 (dX A w) (dX B w):=fun i _=>
 Ex.ite (n:=n) (fun hn=>by rw[H.wrd (by omega)]) (fun _=>wL H w i (Nat.zero_le _)) fun _=>.err
theorem Tf(i:Nat):Ex A s (Le2 n) i (pA A i) (pA B i):=
 (mF H i [gZ]).bind fun _ j _ _=>Ex.TL H (C1:=Le0 n) (X1:=fN A) (X2:=fN B) (lE H _) fun _ _ _=>.ok
theorem cB(t:T)(i:Nat):Ex A false (Le0 n) i (aG A t i) (aG B t i):=(mT H i aS (by decide +kernel) (by decide +kernel) (by intro h;cases h)).bind fun _ _ _ _=>.ok
theorem Ss(arg:Bool)(i:Nat):Ex A s (Le2 n) i (pD A arg i) (pD B arg i):=
 (lE H i).bind fun w j _ _=>Ex.ite (n:=n) (fun hn=>by rw[H.sgn (by omega)]) (fun hc=>Ex.brk H ((Bool.and_eq_true _ _ ▸ hc:_∧_)).2 (wR H _) fun _ _ _=>.ok) fun _=>.ok
theorem Ti: ∀ f1 f2 i,n<i+f2→Ex A s (Le2 n) i (gJ A f1 i) (gJ B f2 i):=by
 intro f1
 induction f1 with
 | zero=>intro f2 i _;unfold gJ;exact .err
 | succ f1 ih=>
  intro f2 i hf;have key:∀ f2,n<i+(f2+1)→Ex A s (Le2 n) i (gJ A (f1+1) i) (gJ B (f2+1) i):=by
   intro f2 hf;have h:Fam A s (Le2 n) (i+1) (gJ A f1) (gJ B f2):=fun k hk=>ih f2 k (by omega)
   unfold gJ;refine Ex.ite (n:=n) (fun hn=>by rw[H.t i (by omega)]) (fun _=>?_) fun _=>?_
   ·refine(yZ H 1 100 i).bind fun k j e _=>?_;have hj:=iI A 1 100 i _ _ e;refine Ex.TL H (C1:=Le2 n) (X1:=fun j1=>eD A A.length (gJ A f1) j1) (X2:=fun j1=>eD B B.length (gJ B f2) j1) ?_ fun _ _ _=>.ok
    exact(h (j+1) (by omega)).bind fun x l e hl=>Tt H h (yM A f1) _ _ _ l (by omega) (by have:=H.a;have:=yM A f1 (j+1) x l e;omega) (by have:=H.b;have:=yM A f1 (j+1) x l e;omega)
   ·refine(lE H i).bind fun w j _ _=>?_
    by_cases hw:w=wP
    ·rw[if_pos hw,if_pos hw];exact Ex.ite (n:=n) (fun hn=>by rw[H.t j (by omega)]) (fun _=>(kT H j).bind fun _ _ _ _=>.ok) fun _=>.err
    ·rw[if_neg hw,if_neg hw];exact Ex.ite (n:=n) (fun hn=>by rw[H.sgn (by omega)]) (fun hc=>Ex.brk H hc (kZ H (lo:=0) (fun i _=>Sk (kT H i)) 2 (j+1) (Nat.zero_le _)) fun _ _ _=>.ok) fun _=>.ok
  cases f2 with
  | zero=>exact(key n (by omega)).void fun l hl c=>by dsimp only[Le2]at c;omega
  | succ f2=>exact key f2 hf
theorem Ts: Fam A s (Le2 n) 0 (mY A) (mY B):=fun i _=>Ti H _ _ i (by have:=H.b;omega)
def Ua(L:List Tk)(i:Nat):Option Nat:=match iU (tok L (i+1)) with
 | none=>none
 | some k=>if sgn L i [sLP]&&decide (1≤k)&&decide (k≤1000)&&sgn L (i+2) [sRP]&&bQ L (if sgn L (i+3) [dN,bP,kJ]then i+4 else i+3)then some k else none
omit H in
theorem Rg (L : List Tk) (i : Nat) : bK L i = match Ua L i with
    | none => aP L (bM L) i
    | some k => if sgn L (i + 3) [dN, bP, kJ] then aB (bH L (i + 4)) fun x j => .ok (.mk 42 k i e0 [.mk 5 0 (i + 3) (tok L (i + 3)).text [x]], j) else aB (bH L (i + 3)) fun x j => .ok (.mk 42 k i e0 [x], j) := by
  unfold bK Ua
  cases iU (tok L (i + 1)) with
  | none => rfl
  | some k => dsimp only; split <;> (split <;> rfl)
omit H in
theorem Tg{L:List Tk}{i k:Nat}(h:Ua L i=some k):iU (tok L (i+1))=some k∧sgn L i [sLP]=true∧sgn L (i+2) [sRP]=true∧bQ L (if sgn L (i+3) [dN,bP,kJ]then i+4 else i+3)=true:=by
 unfold Ua at h
 cases hw:iU (tok L (i+1)) with
 | none=>rw[hw]at h;cases h
 | some m=>
  rw[hw]at h
  dsimp only at h
  generalize (if sgn L (i+3) [dN,bP,kJ]=true then i+4 else i+3)=q at h ⊢
  split at h
  ·rename_i hc
   cases h
   simp only[Bool.and_eq_true]at hc
   exact⟨rfl,hc.1.1.1.1,hc.1.2,hc.2⟩
  ·cases h
theorem TR(i:Nat)(h:i+5≤n):Ua A i=Ua B i:=by
 unfold Ua;rw[H.t (i+1) (by omega),H.sgn (i:=i) (by omega),H.sgn (i:=i+2) (by omega),H.sgn (i:=i+3) (by omega)];have:bQ A (if sgn B (i+3) [dN,bP,kJ]then i+4 else i+3)=bQ B (if sgn B (i+3) [dN,bP,kJ]then i+4 else i+3):=H.cn (by split<;>omega);rw[this]
theorem TI: Fam A s (Le2 n) 0 (bK A) (bK B):=by
 intro i _ x j e;rw[Rg]at e
 cases hr:Ua A i with
 | some k=>
  obtain⟨h1,h2,h3,h4⟩:=Tg hr;rw[hr]at e;have hw:=SX h1;have b0:nT A s i (i+3):=.br h2 (.one (bF (by rw[hw];decide)) (bF (by rw[hw];decide)) (fun _=>bF (by rw[hw];decide)) (Sm (by rw[hw];decide))) h3
  by_cases hs:sgn A (i+3) [dN,bP,kJ]=true
  ·have b1:nT A s (i+3) (i+4):=.one (bR hs (by decide +kernel)) (bR hs (by decide +kernel)) (fun _=>bR hs (by decide +kernel)) (oF hs);replace e:(if sgn A (i+3) [dN,bP,kJ]=true then aB (bH A (i+4)) _ else _)=Except.ok (x,j):=e;rw[if_pos hs]at e;have g:=((kT H (s:=s) (i+4)).bind (C:=Le0 n) (f1:=fun x j=>.ok (.mk 42 k i e0 [.mk 5 0 (i+3) (tok A (i+3)).text [x]],j)) (f2:=fun x j=>.ok (.mk 42 k i e0 [.mk 5 0 (i+3) (tok A (i+3)).text [x]],j)) fun _ _ _ _=>.ok) x j e;refine⟨b0.app (b1.app g.1),fun c=>?_⟩
   dsimp only[Le2]at c
   have:=g.1.le;rw[Rg,← TR H i (by omega),hr]
   show (if sgn B (i+3) [dN,bP,kJ]=true then aB (bH B (i+4)) _ else _)=Except.ok (x,j)
   rw[← H.sgn (by omega),if_pos hs,← H.t (i+3) (by omega)];exact g.2 (by dsimp only[Le0];omega)
  ·replace e:(if sgn A (i+3) [dN,bP,kJ]=true then _ else aB (bH A (i+3)) _)=Except.ok (x,j):=e;rw[if_neg hs]at e;have g:=((kT H (s:=s) (i+3)).bind (C:=Le0 n) (f1:=fun x j=>.ok (.mk 42 k i e0 [x],j)) (f2:=fun x j=>.ok (.mk 42 k i e0 [x],j)) fun _ _ _ _=>.ok) x j e;have hu:=((dD A (i+3)).bind (fun x j hj=>.ok hj):Up (i+4) _) x j e;refine⟨b0.app g.1,fun c=>?_⟩
   dsimp only[Le2]at c
   rw[Rg,← TR H i (by omega),hr]
   show (if sgn B (i+3) [dN,bP,kJ]=true then _ else aB (bH B (i+3)) _)=Except.ok (x,j)
   rw[← H.sgn (by omega),if_neg hs];exact g.2 (by dsimp only[Le0];omega)
 | none=>
  rw[hr]at e;replace e:aP A (bM A) i=.ok (x,j):=e;have g:=AO H (s:=s) (kF H) i (Nat.zero_le _) x j e;refine⟨g.1,fun c=>?_⟩;have hj:=gL A (bD A) i x j e;have hB:Ua B i=none:=by
   cases hb:Ua B i with
   | none=>rfl
   | some k=>
    dsimp only[Le2]at c
    obtain⟨h1,h2,h3,_⟩:=Tg hb;rw[← H.t (i+1) (by omega)]at h1;rw[← H.sgn (by omega)]at h2 h3;obtain⟨c',c1,c2,c3,_⟩:=(g.1.head (by omega)).1 h2;have:c'≠i+1:=fun e=>by rw[e,bF (by rw[SX h1];decide)]at c3;cases c3
    rw[← TR H i (by omega),hr]at hb;cases hb
  rw[Rg,hB];exact g.2 c
theorem yT(i:Nat):Ex A s (Le2 n) i (bT A i) (bT B i):=by
 unfold bT;refine(lE H i).bind fun w j _ _=>?_
 dsimp only
 by_cases h1:Ay w=dF
 ·rw[if_pos h1,if_pos h1];exact Ex.ite (n:=n) (fun hn=>by rw[H.t j (by omega)]) (fun _=>(kT H j).bind fun _ _ _ _=>.ok) fun _=>.err
 ·rw[if_neg h1,if_neg h1]
  by_cases h2:Ay w=pZ
  ·rw[if_pos h2,if_pos h2];exact(Si H (kF H) j (Nat.zero_le _)).bind fun _ _ _ _=>.ok
  ·rw[if_neg h2,if_neg h2]
   exact Ex.ite (n := n) (fun hn => by rw [H.sgn (by omega)]) (fun hc => Ex.ite (n := n) (fun hn => by rw [H.sgn (i := j + 1) (by omega)]) (fun hd => .empty hc hd)
     (fun _ => Ex.brk H hc (kZ H (TI H) 60 (j + 1) (Nat.zero_le _)) fun _ _ _ => .ok)) fun _ => .ok
theorem Tl: ∀ m acc j,Ex A s (Le2 n) j (fD A m acc j) (fD B m acc j):=by
 intro m
 induction m with
 | zero=>intro acc j;unfold fD;exact .ok
 | succ m ih=>
  intro acc j;unfold fD;exact Ex.ite (n:=n) (fun hn=>by rw[H.nm (by omega)]) (fun _=>(yT H j).bind fun x j' _ _=>ih _ j') fun _=>.ok
theorem SS(most i:Nat):Ex A s (Le2 n) i (lG A most i) (lG B most i):=Tl H most [] i
theorem TY: Fam A s (Le2 n) 0 (qV A) (qV B):=fun i _=>
 (kF H i (Nat.zero_le _)).bind fun x j _ _=>Ex.ite (n:=n) (fun hn=>by rw[H.sgn (by omega)]) (fun hc=>Ex.mW hc ((kF H (j+1) (Nat.zero_le _)).bind fun _ _ _ _=>.ok)) fun _=>.ok
theorem Uh: ∀ f1 f2 i,n<i+f2→Ex A s (Le2 n) i (mI A f1 i) (mI B f2 i):=by
 intro f1
 induction f1 with
 | zero=>intro f2 i _;unfold mI;exact .err
 | succ f1 ih=>
  intro f2 i hf;have key:∀ f2,n<i+(f2+1)→Ex A s (Le2 n) i (mI A (f1+1) i) (mI B (f2+1) i):=by
   intro f2 hf;have h:Fam A s (Le2 n) (i+1) (mI A f1) (mI B f2):=fun k hk=>ih f2 k (by omega)
   unfold mI;refine Ex.bind (C1:=Le2 n) (Ex.ite (n:=n) (fun hn=>by rw[H.t i (by omega)]) (fun _=>(yZ H 1 99 i).bind fun _ _ _ _=>.ok) fun _=>.ok) fun k j _ hj=>?_;refine Ex.bind (C1:=Le2 n) (Ex.ite (n:=n) (fun hn=>by rw[H.sgn (by omega)]) (fun hc=>Ex.brk H hc (kZ H h 30 (j+1) (by omega)) fun _ _ _=>.ok) fun _=>Sk (wR H j)) fun what j1 _ _=>?_;refine Ex.bind (C1:=Le2 n) (Ex.ite (n:=n) (fun hn=>by rw[H.sgn (by omega)]) (fun hc=>Ex.brk H hc (kZ H (TY H) 3 (j1+1) (Nat.zero_le _)) fun _ _ _=>.ok) fun _=>.ok) fun bounds j2 _ _=>?_;exact(SS H 12 j2).bind fun _ _ _ _=>.ok
  cases f2 with
  | zero=>exact(key n (by omega)).void fun l hl c=>by dsimp only[Le2]at c;omega
  | succ f2=>exact key f2 hf
theorem Ud: Fam A s (Le2 n) 0 (Gh A) (Gh B):=fun i _=>Uh H _ _ i (by have:=H.b;omega)
end
end Px
end
end Go.Proofs.YtfdlmcgcckkkdaaGreatDoor
