/- An argument that is a slice of tokens: its cells, and how it reads behind the call. -/
import Derived.Test.YtafofcenphopbaaDoorR1
import Derived.Test.YtafofcenphopbaaDoorA13
import Derived.Deep.Slices
import Derived.Deep.Fields
import Derived.ChangeSame
import Derived.Carry
namespace Go.Proofs.YtafofcenphopbaaDoor
open Go.ChangeShapes Go.WideShapes Go.Deep Go.RowKit

section
variable {H : Type} {enc : TypeId × Value → H} {P : Program} {w : World} {base : Nat} {spare : Nat → Bool} {held : Bool}
theorem open_slice_fields {t e : TypeId} {fs : Array Field} {fuel : Nat} {cs : List Value} {x : DataW H × List MemPlace} (ht : P.underlying t = some (.slice e)) (he : P.underlying e = some (.struct fs))
    (hone : oneCellFields P fs = true) (hC : P.cellsOf e = fs.size) (h : DataW.trod enc P w base spare held fuel t cs = some x) :
    (cs = [.slice none 0 0] ∧ x = (.nil, [])) ∨
    ∃ (a : Addr) (len cap m : Nat) (D : Nat → DataW H) (Pl : Nat → List MemPlace), cs = [.slice (some a) len cap] ∧ base ≤ a.block ∧ len ≤ cap ∧ cap ≤ maxLen ∧ m = (if spare a.block then cap else len) ∧
      x = (.slice ((List.range len).map D) ((List.range (m - len)).map fun j => D (len + j)), MemPlace.row a (m * fs.size) ++ (List.range m).flatMap Pl) ∧
      ∀ i, i < m → ∃ (ys : List (DataW H × List MemPlace)) (n : Nat), D i = .agg (ys.map (·.1)) ∧ Pl i = ys.flatMap (·.2) ∧ ys.length = fs.size ∧
        ∀ (j : Nat) (f : Field), fs[j]? = some f → ∃ (v : Value) (y : DataW H × List MemPlace), w.cell? (a.add (i * fs.size + j)) = some v ∧ ys[j]? = some y ∧ DataW.trod enc P w base spare held n f.type [v] = some y := by
  rcases open_slice ht h with h0 | ⟨a, len, cap, m, n, D, Pl, hcs, hb, hl, hm, hmm, hx, hi⟩
  · exact .inl h0
  · refine .inr ⟨a, len, cap, m, D, Pl, hcs, hb, hl, hm, hmm, by rw [hC] at hx; exact hx, fun i him => ?_⟩
    obtain ⟨cs', hc, ht'⟩ := hi i him
    rw [hC] at hc
    obtain ⟨ys, n', hn', hy, hlen, hyl, hf⟩ := DataW.trod_struct he ht'
    obtain ⟨_, hcl, hat⟩ := World.cells?_some hc
    simp only [Prod.mk.injEq] at hy
    refine ⟨ys, n', hy.1, hy.2, hyl, fun j f hj => ?_⟩
    obtain ⟨ho, hk⟩ := hone_of hone j f hj
    have hjl : j < fs.size := (Array.getElem?_eq_some_iff.1 hj).1
    have hcell := hat j hjl
    have hv : cs'[j]? = some (cs'[j]'(by omega)) := List.getElem?_eq_getElem (by omega)
    have h1 := hf j f hj
    rw [ho, hk] at h1
    have hone' : (cs'.drop j).take 1 = [cs'[j]'(by omega)] := by
      rw [List.drop_eq_getElem_cons (by omega)]
      rfl
    rw [hone'] at h1
    have hys : ys[j]? = some (ys[j]'(by omega)) := List.getElem?_eq_getElem (by omega)
    refine ⟨_, _, ?_, hys, h1.trans hys⟩
    rw [← Go.Deep.add_add, hcell, hv]
end

section
variable {H : Type} {enc : TypeId × Value → H}
theorem laidO : laidOutB Tryd.prog = true := by kernel_rfl
set_option maxRecDepth 100000 in
/-- One token of the argument: its three cells. -/
theorem open_tok {w : World} {base : Nat} {spare : Nat → Bool} {held : Bool} {a : Addr} {k : Nat} {fs : Array Field} (hfs : Tryd.prog.underlying 37 = some (.struct fs))
    (h : ∃ (ys : List (DataW H × List MemPlace)) (n : Nat), True ∧ True ∧ ys.length = fs.size ∧ ∀ (j : Nat) (f : Field), fs[j]? = some f → ∃ (v : Value) (y : DataW H × List MemPlace), w.cell? (a.add (k * fs.size + j)) = some v ∧ ys[j]? = some y ∧ DataW.trod enc Tryd.prog w base spare held n f.type [v] = some y) :
    ∃ t : T3, ∀ i u, (tokv t)[i]? = some u → w.cell? (a.add (k * 3 + i)) = some u := by
  have := Tryd.underlying37.symm.trans hfs
  simp only [Option.some.injEq, TypeDesc.struct.injEq] at this
  subst this
  obtain ⟨ys, n, _, _, hy, hf⟩ := h
  obtain ⟨v0, y0, c0, _, t0⟩ := hf 0 _ rfl
  obtain ⟨v1, y1, c1, _, t1⟩ := hf 1 _ rfl
  obtain ⟨v2, y2, c2, _, t2⟩ := hf 2 _ rfl
  obtain ⟨a0, e0, _⟩ := DataW.trod_int Tryd.underlying3 t0
  obtain ⟨a1, e1, _⟩ := DataW.trod_string Tryd.underlying9 t1
  obtain ⟨a2, e2, _⟩ := DataW.trod_int Tryd.underlying3 t2
  cases e0; cases e1; cases e2
  refine ⟨⟨a0, a1, a2⟩, fun i u hu => ?_⟩
  match i, hu with
  | 0, hu => cases hu; exact c0
  | 1, hu => cases hu; exact c1
  | 2, hu => cases hu; exact c2
theorem toks_choose {w : World} {a : Addr} : ∀ (m : Nat), (∀ k, k < m → ∃ t : T3, ∀ i u, (tokv t)[i]? = some u → w.cell? (a.add (k * 3 + i)) = some u) →
    ∃ l : List T3, l.length = m ∧ ∀ k, k < m → ∀ i u, (tokv l[k]!)[i]? = some u → w.cell? (a.add (k * 3 + i)) = some u := by
  intro m
  induction m with
  | zero => intro _; exact ⟨[], rfl, fun k hk => by omega⟩
  | succ m ih =>
    intro h
    obtain ⟨l, hl, hc⟩ := ih fun k hk => h k (by omega)
    obtain ⟨t, ht⟩ := h m (by omega)
    refine ⟨l ++ [t], by simp [hl], fun k hk i u hu => ?_⟩
    rcases Nat.lt_or_ge k m with hlt | hge
    · refine hc k hlt i u ?_
      have e : (l ++ [t])[k]! = l[k]! := by
        rw [List.getElem!_eq_getElem?_getD, List.getElem!_eq_getElem?_getD, List.getElem?_append_left (by omega)]
      rw [e] at hu; exact hu
    · obtain rfl : k = m := by omega
      have e : (l ++ [t])[k]! = t := by
        rw [List.getElem!_eq_getElem?_getD, List.getElem?_append_right (by omega), hl]; simp
      rw [e] at hu; exact ht i u hu
set_option maxRecDepth 100000 in
theorem open_toks {r : Reach} {b0 base : Nat} {spare : Nat → Bool} {held : Bool} {w : World} {v : Value} {d : DataW H} {ps : List MemPlace} (hval : Value.okWide Tryd.prog w r b0 23 v) (hd : DataW.Trod enc Tryd.prog w base spare held 23 v d ps) :
    ∃ l, TokRow w v l ∧ l.length ≤ 9223372036854775807 := by
  obtain ⟨a, len, cap, rfl⟩ := okWide_slice Tryd.underlying23 hval
  obtain ⟨fuel, hf⟩ := hd
  rcases open_slice_fields Tryd.underlying23 Tryd.underlying37 (by kernel_rfl) (by kernel_rfl) hf with ⟨h0, _⟩ | ⟨a', len', cap', m, D, Pl, hcs, _, hl, hm, hmm, _, hi⟩
  · simp only [Value.cells, List.cons.injEq, and_true] at h0
    cases h0
    exact ⟨[], ⟨none, 0, rfl, fun h => absurd rfl h⟩, by simp⟩
  · simp only [Value.cells, List.cons.injEq, and_true] at hcs
    cases hcs
    have hml : len ≤ m := by rw [hmm]; split <;> omega
    obtain ⟨l, hll, hc⟩ := toks_choose (w := w) (a := a') len fun k hk => by
      obtain ⟨ys, n, _, _, h3, h4⟩ := hi k (by omega)
      exact open_tok Tryd.underlying37 ⟨ys, n, trivial, trivial, h3, h4⟩
    subst hll
    refine ⟨l, ⟨_, cap, rfl, fun hne => ?_⟩, by have : maxLen = 9223372036854775807 := by rfl
                                                omega⟩
    have hpos : 0 < l.length := List.length_pos_iff.2 hne
    obtain ⟨b, off, spot⟩ := a'
    have h0 := hc 0 hpos 0 _ rfl
    have hspot : spot = none := by simpa [Addr.add] using World.cell?_spot h0
    subst hspot
    refine ⟨b, off, rfl, World.block_lt_of_cell? _ _ h0, fun j hj i u hu => ?_⟩
    have := hc j hj i u hu
    rw [Go.WideShapes.add_plain] at this
    rw [show off + j * 3 + i = off + (j * 3 + i) by omega]; exact this
end
end Go.Proofs.YtafofcenphopbaaDoor
