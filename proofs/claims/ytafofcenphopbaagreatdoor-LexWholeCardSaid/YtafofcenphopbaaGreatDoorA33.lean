/- slices.Equal at comments; token slices of literals. -/
import Derived.Test.YtafofcenphopbaaGreatDoorA32
namespace Go.Proofs.YtafofcenphopbaaGreatDoor
open Go.RowKit Lx

theorem eqComN : Go.Proofs.NeqAt Tryz.prog 69 (fun x => .agg (comv x).toArray) (fun x y => decide (x = y)) := ⟨fun x y w => eqComs x y w, GuardAt.agg _ (by kernel_rfl)⟩
/-- A slice of comments, its cells readable. -/
def ComRow (w : World) (v : Value) (cs : List (Int × Int)) : Prop := ∃ ao cap, v = .slice ao cs.length cap ∧ (cs ≠ [] → ∃ b off, ao = some ⟨b, off, none⟩ ∧ b < w.heap.size ∧
  ∀ j, j < cs.length → ∀ i u, (comv cs[j]!)[i]? = some u → w.cell? ⟨b, off + j * 2 + i, none⟩ = some u)
theorem ComRow.below {w w' : World} {v : Value} {cs : List (Int × Int)} {B : Nat} (h : ComRow w v cs) (hb : Below B w w') (hB : w.heap.size ≤ B) : ComRow w' v cs := by
  obtain ⟨ao, cap, rfl, h⟩ := h
  refine ⟨ao, cap, rfl, fun hne => ?_⟩
  obtain ⟨b, off, e, hlt, hc⟩ := h hne
  refine ⟨b, off, e, Nat.lt_of_lt_of_le hlt (Nat.le_trans (by omega) hb.size), fun j hj i u hu => ?_⟩
  exact (hb.cell (p := ⟨b, off + j * 2 + i, none⟩) (Nat.lt_of_lt_of_le hlt hB)).trans (hc j hj i u hu)
def comI (cs : List (Nat × Nat)) : List (Int × Int) := cs.map fun c => ((c.1 : Int), (c.2 : Int))
theorem ComRow.of_own {w : World} {B : Nat} {v : Value} {cs : List (Nat × Nat)} (h : w.ownsRow B 69 2 v cs.length (ccells cs)) : ComRow w v (comI cs) := by
  by_cases h0 : cs = []
  · subst h0
    obtain ⟨ao, cap, rfl⟩ := own_form h
    exact ⟨ao, cap, rfl, fun h => absurd rfl h⟩
  · have hl : 0 < cs.length := List.length_pos_iff.2 h0
    have hlt : ∀ g, v.ownBlock = some g → g < w.heap.size := fun g hg => (h.lt g hg).2
    obtain ⟨g, cap, rfl, hcap, hc⟩ := com_cells h hl
    refine ⟨some ⟨g, 0, none⟩, cap, by simp [comI], fun _ => ⟨g, 0, rfl, hlt g rfl, fun j hj i u hu => ?_⟩⟩
    have hj' : j < cs.length := by simpa [comI] using hj
    obtain ⟨c0, c1⟩ := hc j hj'
    have e : (comI cs)[j]! = ((cs[j].1 : Int), (cs[j].2 : Int)) := by simp [comI, hj', getElem!_pos]
    rw [e] at hu
    rw [Nat.zero_add]
    match i, hu with
    | 0, hu => cases hu; exact c0
    | 1, hu => cases hu; exact c1
    | i + 2, hu => simp [comv] at hu
theorem ComRow.lit {w : World} {b : Nat} (cs : List (Int × Int)) (T : TypeId) (f : Nat × Nat) (h : w.heap[b]? = some (.cells (cs.flatMap comv).toArray T f)) (cap : Nat) : ComRow w (.slice (some ⟨b, 0, none⟩) cs.length cap) cs := by
  refine ⟨_, cap, rfl, fun _ => ⟨b, 0, rfl, (Array.getElem?_eq_some_iff.1 h).1, fun j hj i u hu => ?_⟩⟩
  rw [Lib.cell_of_heap h]
  have hi : i < 2 := by
    have := (List.getElem?_eq_some_iff.1 hu).1
    simpa [comv] using this
  have key : ∀ (cs : List (Int × Int)) (j : Nat), j < cs.length → (cs.flatMap comv)[j * 2 + i]? = (comv cs[j]!)[i]? := by
    intro cs
    induction cs with
    | nil => intro j hj; cases hj
    | cons c cs ih =>
      intro j hj
      cases j with
      | zero =>
        rw [List.flatMap_cons, Nat.zero_mul, Nat.zero_add, List.getElem?_append_left (by simpa [comv] using hi)]
        rfl
      | succ j =>
        rw [List.flatMap_cons, List.getElem?_append_right (by simp [comv]; omega)]
        have e : (j + 1) * 2 + i - (comv c).length = j * 2 + i := by simp [comv]; omega
        rw [e, ih j (by simpa using hj)]; rfl
  rw [Nat.zero_add, List.getElem?_toArray, key cs j hj]
  exact hu
/-- A literal slice of tokens. -/
theorem TokRow.lit {w : World} {b : Nat} (ts : List T3) (T : TypeId) (f : Nat × Nat) (h : w.heap[b]? = some (.cells (rcells ts).toArray T f)) (cap : Nat) : TokRow w (.slice (some ⟨b, 0, none⟩) ts.length cap) ts := by
  refine ⟨_, cap, rfl, fun _ => ⟨b, 0, rfl, (Array.getElem?_eq_some_iff.1 h).1, fun j hj i u hu => ?_⟩⟩
  rw [Lib.cell_of_heap h, Nat.zero_add, List.getElem?_toArray]
  exact rcells_get ts j hj i u hu
theorem allEq_decC (xs ys : List (Int × Int)) : Lib.allEq (fun x y => decide (x = y)) xs ys = decide (xs = ys) := by
  induction xs generalizing ys with
  | nil => cases ys <;> simp [Lib.allEq]
  | cons x xs ih => cases ys with
    | nil => simp [Lib.allEq]
    | cons y ys => simp only [Lib.allEq, ih]; rw [Bool.eq_iff_iff]; simp
set_option maxHeartbeats 1000000 in
theorem EqualC_any (a b : Value) (xs ys : List (Int × Int)) (w : World) (h1 : ComRow w a xs) (h2 : ComRow w b ys) (hx : xs.length ≤ 9223372036854775807) (hy : ys.length ≤ 9223372036854775807) :
    Calls Tryz.prog 33 #[a, b] w fun e w' => e = .returned (.bool (decide (xs = ys))) ∧ ∃ q, w' = w.drewN q := by
  obtain ⟨ao, ac, rfl, h1⟩ := h1
  obtain ⟨bo, bc, rfl, h2⟩ := h2
  by_cases hl : xs.length = ys.length
  · by_cases h0 : xs = []
    · subst h0
      have : ys = [] := List.eq_nil_of_length_eq_zero (by simpa using hl.symm)
      subst this
      go_enter Tryz.func33, Tryz.ntmps33
      go_wp2_with fail
      go_loopw [13] (fun q wr => q = .int .i64 0 ∧ wr = w) (fun _ _ => 0)
      case atStart => exact ⟨rfl, rfl⟩
      case round =>
        obtain ⟨rfl, rfl⟩ := hrel
        go_wp2_with fail
        go_ret
        exact ⟨rfl, 0, rfl⟩
    · have h0' : ys ≠ [] := fun e => h0 (List.eq_nil_of_length_eq_zero (by rw [hl, e]; rfl))
      obtain ⟨b1, o1, rfl, l1, c1⟩ := h1 h0
      obtain ⟨b2, o2, rfl, l2, c2⟩ := h2 h0'
      refine (Tryz.slices_Equal 2 Tryz.isAgg69 Tryz.sizeOf69 comv (fun _ => rfl) _ eqComN b1 o1 xs.length ac b2 o2 ys.length bc xs ys w (Nat.le_refl _) (Nat.le_refl _) (by omega) (by omega) c1 c2).mono ?_
      rintro e w' ⟨rfl, q, rfl⟩
      exact ⟨by rw [List.take_length, List.take_length, allEq_decC], q, rfl⟩
  · have hd : decide (xs = ys) = false := decide_eq_false fun e => hl (by rw [e])
    have hl' : ¬ (xs.length : Int) = ys.length := by omega
    rw [hd]
    clear h1 h2 hd
    go_enter Tryz.func33, Tryz.ntmps33
    go_wp2_with fail
    go_ret
    exact ⟨rfl, 0, rfl⟩
end Go.Proofs.YtafofcenphopbaaGreatDoor
