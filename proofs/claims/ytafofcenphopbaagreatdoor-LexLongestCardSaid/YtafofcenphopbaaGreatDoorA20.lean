/- Where. -/
import Derived.Test.YtafofcenphopbaaGreatDoorA19
namespace Go.Proofs.YtafofcenphopbaaGreatDoor
open Go.RowKit Lx

def lineN (s : ByteArray) (i : Int) : Nat := (linesL s).countP (fun (n : Nat) => !decide (i + 1 ≤ (n : Int)))
/-- Where: what it answers: the line, the column, the error. -/
def whereL (s : ByteArray) (i : Int) : Int × Int × Int :=
  if 20000 < s.size then (0, 0, 2)
  else if i < 0 ∨ (s.size : Int) < i then (0, 0, 1)
  else (lineN s i, i - ((linesL s).getD (lineN s i - 1) 0 : Int) + 1, 0)
theorem nlL_ge (l : Bs) : ∀ (i n : Nat), n ∈ nlL l i → i < n := by
  induction l with
  | nil => intro i n h; simp [nlL] at h
  | cons c l ih =>
    intro i n h
    unfold nlL at h
    split at h
    · rcases List.mem_cons.1 h with rfl | h
      · omega
      · have := ih _ _ h; omega
    · have := ih _ _ h; omega
theorem nlL_sorted (l : Bs) : ∀ i, (nlL l i).Pairwise (· < ·) := by
  induction l with
  | nil => intro i; exact List.Pairwise.nil
  | cons c l ih =>
    intro i
    unfold nlL
    split
    · exact List.Pairwise.cons (fun n hn => nlL_ge _ _ _ hn) (ih _)
    · exact ih _
theorem linesL_sorted (s : ByteArray) : (linesL s).Pairwise (· < ·) := List.Pairwise.cons (fun _ hn => nlL_ge _ _ _ hn) (nlL_sorted _ _)
theorem linesL_mono (s : ByteArray) (a b : Nat) (hab : a ≤ b) (hb : b < (linesL s).length) : (linesL s)[a]'(by omega) ≤ (linesL s)[b] := by
  rcases Nat.lt_or_eq_of_le hab with h | h
  · exact Nat.le_of_lt (List.pairwise_iff_getElem.1 (linesL_sorted s) a b (by omega) hb h)
  · subst h; exact Nat.le_refl _
/-- The rows of the slice as the contract on sort.SearchInts takes them. -/
def linesI (s : ByteArray) : Array Int := ((linesL s).map fun (n : Nat) => (n : Int)).toArray
theorem linesI_size (s : ByteArray) : (linesI s).size = (linesL s).length := by simp [linesI]
theorem linesI_get (s : ByteArray) (j : Nat) (h : j < (linesL s).length) : (linesI s)[j]! = ((linesL s)[j] : Int) := by
  simp [linesI, h, getElem!_pos]
theorem linesI_count (s : ByteArray) (i : Int) : (linesI s).toList.countP (fun y => !decide (i + 1 ≤ y)) = lineN s i := by
  simp only [linesI, lineN, List.countP_map]
  rfl
set_option maxHeartbeats 1000000 in
set_option maxRecDepth 100000 in
theorem Where_any (s : ByteArray) (i : Int) (w : World) : Calls Tryz.prog 30 #[.string s, .int .i64 i] w fun e w' =>
    e = .returned (.tuple #[.agg #[.int .i64 (whereL s i).1, .int .i64 (whereL s i).2.1], .int .i64 (whereL s i).2.2]) ∧ Below w.heap.size w w' := by
  by_cases h1 : 20000 < s.size
  · have h1' : (20000 : Int) < (s.size : Int) := by omega
    have hat : whereL s i = (0, 0, 2) := by unfold whereL; rw [if_pos h1]
    rw [hat]
    clear hat
    go_enter Tryz.func30, Tryz.ntmps30
    go_wp2_with fail
    have b1 := below_box w (.cells #[.int .i64 0, .int .i64 0] 60)
    have n1 := heap_alloc_new w (.cells #[.int .i64 0, .int .i64 0] 60)
    generalize w.alloc (.cells #[.int .i64 0, .int .i64 0] 60) = w1 at b1 n1 ⊢
    have q0 : w1.cell? ⟨w.heap.size, 0, none⟩ = some (.int .i64 0) := cell_of_row _ _ 0 _ _ _ n1
    have q1 : w1.cell? ⟨w.heap.size, 1, none⟩ = some (.int .i64 0) := cell_of_row _ _ 1 _ _ _ n1
    exact bodyPost_ret (v := .tuple #[.agg #[.int .i64 0, .int .i64 0], .int .i64 2]) (by simp [results, Tryz.results30, go_sem, q0, q1]) rfl ⟨rfl, b1⟩
  · have h1' : ¬ (20000 : Int) < (s.size : Int) := by omega
    by_cases h2 : i < 0 ∨ (s.size : Int) < i
    · have hat : whereL s i = (0, 0, 1) := by unfold whereL; rw [if_neg h1, if_pos h2]
      rw [hat]
      clear hat
      go_enter Tryz.func30, Tryz.ntmps30
      go_wp2_with fail
      all_goals (
        have b1 := below_box w (.cells #[.int .i64 0, .int .i64 0] 60)
        have n1 := heap_alloc_new w (.cells #[.int .i64 0, .int .i64 0] 60)
        generalize w.alloc (.cells #[.int .i64 0, .int .i64 0] 60) = w1 at b1 n1 ⊢
        have q0 : w1.cell? ⟨w.heap.size, 0, none⟩ = some (.int .i64 0) := cell_of_row _ _ 0 _ _ _ n1
        have q1 : w1.cell? ⟨w.heap.size, 1, none⟩ = some (.int .i64 0) := cell_of_row _ _ 1 _ _ _ n1
        exact bodyPost_ret (v := .tuple #[.agg #[.int .i64 0, .int .i64 0], .int .i64 1]) (by simp [results, Tryz.results30, go_sem, q0, q1]) rfl ⟨rfl, b1⟩)
    · have h3 : 0 ≤ i ∧ i ≤ (s.size : Int) := by omega
      obtain ⟨h3, h4⟩ := h3
      have hat : whereL s i = ((lineN s i : Int), i - ((linesL s).getD (lineN s i - 1) 0 : Int) + 1, 0) := by unfold whereL; rw [if_neg h1, if_neg h2]
      rw [hat]
      clear hat
      go_enter Tryz.func30, Tryz.ntmps30
      go_wp2_with fail
      have b1 := below_box w (.cells #[.int .i64 0, .int .i64 0] 60)
      have n1 := heap_alloc_new w (.cells #[.int .i64 0, .int .i64 0] 60)
      generalize w.alloc (.cells #[.int .i64 0, .int .i64 0] 60) = w1 at b1 n1 ⊢
      refine (lines_any s (by omega) _).mono ?_
      rintro e w2 ⟨lv, rfl, own, hb2⟩
      obtain ⟨ao, cap, rfl⟩ := own_form own
      obtain ⟨g, hv, hcell⟩ := int_cells own (by simp [linesL])
      have hln : (linesL s).length ≤ 20001 := by have := nlL_len s.data.toList 0; simp [linesL] at *; omega
      have hg : g < w2.heap.size := by
        have h0 := hcell 0 (by simp [linesL])
        rcases Nat.lt_or_ge g w2.heap.size with h | h
        · exact h
        · rw [World.cell?, Array.getElem?_eq_none h] at h0; cases h0
      have hsi := SearchInts_any g 0 cap (linesI s) (i + 1) w2 (fun j hj => by
          rw [linesI_size] at hj; rw [linesI_get s j hj, Nat.zero_add]; exact hcell j hj) hg (by rw [linesI_size]; omega)
        (fun a b hab hb h => by
          rw [linesI_size] at hb
          rw [linesI_get s a (by omega)] at h
          rw [linesI_get s b hb]
          have := linesL_mono s a b hab hb
          have := of_decide_eq_true h
          exact decide_eq_true (by omega))
      rw [linesI_size, linesI_count] at hsi
      have HSI := Lib.hid hsi
      have HCELL := Lib.hid hcell
      clear hsi hcell
      rw [hv]
      go_wp2_with fail
      refine (HSI.out).mono ?_
      rintro e w3 ⟨rfl, hb3⟩
      have hN1 : 0 < lineN s i := by unfold lineN linesL; rw [List.countP_cons_of_pos (by simp; omega)]; omega
      have hN2 : lineN s i ≤ (linesL s).length := List.countP_le_length
      have hcell := HCELL.out
      have hle := linesL_le s (lineN s i - 1) (by omega)
      have c0 := (hb3.cell (p := ⟨g, lineN s i - 1, none⟩) hg).trans (hcell (lineN s i - 1) (by omega))
      have ha : (linesL s).getD (lineN s i - 1) 0 = (linesL s)[lineN s i - 1]'(by omega) := by simp [List.getD, show lineN s i - 1 < (linesL s).length by omega]
      obtain ⟨a, hA⟩ : ∃ a, a = (linesL s)[lineN s i - 1]'(by omega) := ⟨_, rfl⟩
      rw [← hA] at c0 hle ha
      have HG := Lib.hid ha
      have r1 : w3.heap[w.heap.size]? = some (.cells #[.int .i64 0, .int .i64 0] 60) := (hb3.block _ (Nat.lt_of_lt_of_le (Array.getElem?_eq_some_iff.1 n1).1 hb2.size)).trans ((hb2.block _ (Array.getElem?_eq_some_iff.1 n1).1).trans n1)
      have q0 : w3.cell? ⟨w.heap.size, 0, none⟩ = some (.int .i64 0) := cell_of_row _ _ 0 _ _ _ r1
      have q1 : w3.cell? ⟨w.heap.size, 1, none⟩ = some (.int .i64 0) := cell_of_row _ _ 1 _ _ _ r1
      have f0 := Lib.frozen_of_heap r1 0
      have f1 := Lib.frozen_of_heap r1 1
      clear hcell ha hA
      go_wp2_with fail
      refine bodyPost_ret (v := .tuple #[.agg #[.int .i64 (lineN s i), .int .i64 (i - (a : Int) + 1)], .int .i64 0]) (by simp [results, Tryz.results30, go_sem, q0, q1]) rfl ⟨by rw [HG.out], ?_⟩
      have z2 := hb2.size
      exact (((b1.trans (hb2.mono b1.size)).trans (hb3.mono (Nat.le_trans b1.size z2))).setCell (p := ⟨w.heap.size, 0, none⟩) (Nat.le_refl _) _).setCell (p := ⟨w.heap.size, 1, none⟩) (Nat.le_refl _) _
end Go.Proofs.YtafofcenphopbaaGreatDoor
