/- literalValue. -/
import Derived.Test.YtafofcenphopbaaDoorA21
namespace Go.Proofs.YtafofcenphopbaaDoor
open Go.RowKit Lx

def mostN (k p : Int) : Nat := (if k = 2 then 2 else 10) ^ p.toNat
def litV (k p n : Int) (s : ByteArray) : Bool :=
  if k = 1 ∨ k = 2 then decide (s.toList = []) && (decide (n < mostN k p) && decide (-(mostN k p : Int) < n))
  else decide (n = 0) && (decide ((s.size : Int) = p) && allI (if k = 3 then shownI else bitI) s)
theorem pow_step (b i p B : Nat) (hb : 1 ≤ b) (hi : i < p) (hB : b ^ p ≤ B) : b ^ i * b ≤ B := by
  have h : b ^ (i + 1) ≤ b ^ p := Nat.pow_le_pow_right hb (by omega)
  rw [Nat.pow_succ] at h; omega
set_option maxHeartbeats 1000000 in
set_option maxRecDepth 100000 in
theorem literalValue_1 (p q n : Int) (vary : Bool) (pic s : ByteArray) (hp : 1 ≤ p ∧ p ≤ 9) (w : World) : Calls Tryd.prog 74 #[.agg #[.int .i64 1, .int .i64 p, .int .i64 q, .bool vary, .string pic], .agg #[.int .i64 n, .string s]] w fun e w' =>
    e = .returned (.bool (litV 1 p n s)) ∧ Below w.heap.size w w' := by
  obtain ⟨hp1, hp2⟩ := hp
  go_enter Tryd.func74, Tryd.ntmps74
  go_upto_region 2 with fail
  have b2 := below_box2 w (.cells #[.int .i64 1, .int .i64 p, .int .i64 q, .bool vary, .string pic] 57) (.cells #[.int .i64 n, .string s] 59)
  have n1 := heap_alloc_new w (.cells #[.int .i64 1, .int .i64 p, .int .i64 q, .bool vary, .string pic] 57)
  have n2 := heap_alloc_new (w.alloc (.cells #[.int .i64 1, .int .i64 p, .int .i64 q, .bool vary, .string pic] 57)) (.cells #[.int .i64 n, .string s] 59)
  have n3 := (Lib.alloc_old (w.alloc (.cells #[.int .i64 1, .int .i64 p, .int .i64 q, .bool vary, .string pic] 57)) (.cells #[.int .i64 n, .string s] 59) w.heap.size (Array.getElem?_eq_some_iff.1 n1).1).trans n1
  rw [World.size_alloc] at n2
  generalize (w.alloc (.cells #[.int .i64 1, .int .i64 p, .int .i64 q, .bool vary, .string pic] 57)).alloc (.cells #[.int .i64 n, .string s] 59) = w2 at b2 n2 n3 ⊢
  clear n1
  have p0 : w2.cell? ⟨w.heap.size, 0, none⟩ = some (.int .i64 1) := cell_of_row _ _ 0 _ _ _ n3
  have p1 : w2.cell? ⟨w.heap.size, 1, none⟩ = some (.int .i64 p) := cell_of_row _ _ 1 _ _ _ n3
  have q0 : w2.cell? ⟨w.heap.size + 1, 0, none⟩ = some (.int .i64 n) := cell_of_row _ _ 0 _ _ _ n2
  have q1 : w2.cell? ⟨w.heap.size + 1, 1, none⟩ = some (.string s) := cell_of_row _ _ 1 _ _ _ n2
  clear n2 n3
  go_wp2_with fail
  go_loop [5, 17] (fun m i => ∃ (j mm : Nat), (j : Int) ≤ p ∧ i = .int .i64 j ∧ m = .int .i64 mm ∧ mm ≤ 1000000000 ∧ mm = 10 ^ j) (fun _ i => (p - intOf i).toNat)
  case atStart => exact ⟨0, 1, by omega, rfl, rfl, by omega, rfl⟩
  case round =>
    obtain ⟨j, mm, hj, rfl, rfl, hmm, he⟩ := hrel
    have HE := Lib.hid he
    clear he
    by_cases hlt : (j : Int) < p
    · have hst : mm * 10 ≤ 1000000000 := by
        rw [HE.out]
        exact pow_step 10 j p.toNat 1000000000 (by decide) (by omega) (Nat.le_trans (Nat.pow_le_pow_right (by decide) (show p.toNat ≤ 9 by omega)) (by decide))
      go_wp2_with fail
      go_round
      case rel => exact ⟨j + 1, mm * 10, by omega, by go_num, by go_num, hst, by rw [HE.out, Nat.pow_succ]⟩
      case measure => simp [intOf]; omega
    · have hje : p.toNat = j := by omega
      have hmo : mostN 1 p = mm := by unfold mostN; rw [hje, HE.out]; rfl
      have HM := Lib.hid hmo
      clear hmo hje
      go_wp2_with fail
      all_goals (
        go_ret
        refine ⟨?_, b2⟩
        unfold litV
        rw [HM.out]
        (simp_all; try omega))
set_option maxHeartbeats 1000000 in
set_option maxRecDepth 100000 in
theorem literalValue_2 (p q n : Int) (vary : Bool) (pic s : ByteArray) (hp : 1 ≤ p ∧ p ≤ 31) (w : World) : Calls Tryd.prog 74 #[.agg #[.int .i64 2, .int .i64 p, .int .i64 q, .bool vary, .string pic], .agg #[.int .i64 n, .string s]] w fun e w' =>
    e = .returned (.bool (litV 2 p n s)) ∧ Below w.heap.size w w' := by
  obtain ⟨hp1, hp2⟩ := hp
  go_enter Tryd.func74, Tryd.ntmps74
  go_upto_region 2 with fail
  have b2 := below_box2 w (.cells #[.int .i64 2, .int .i64 p, .int .i64 q, .bool vary, .string pic] 57) (.cells #[.int .i64 n, .string s] 59)
  have n1 := heap_alloc_new w (.cells #[.int .i64 2, .int .i64 p, .int .i64 q, .bool vary, .string pic] 57)
  have n2 := heap_alloc_new (w.alloc (.cells #[.int .i64 2, .int .i64 p, .int .i64 q, .bool vary, .string pic] 57)) (.cells #[.int .i64 n, .string s] 59)
  have n3 := (Lib.alloc_old (w.alloc (.cells #[.int .i64 2, .int .i64 p, .int .i64 q, .bool vary, .string pic] 57)) (.cells #[.int .i64 n, .string s] 59) w.heap.size (Array.getElem?_eq_some_iff.1 n1).1).trans n1
  rw [World.size_alloc] at n2
  generalize (w.alloc (.cells #[.int .i64 2, .int .i64 p, .int .i64 q, .bool vary, .string pic] 57)).alloc (.cells #[.int .i64 n, .string s] 59) = w2 at b2 n2 n3 ⊢
  clear n1
  have p0 : w2.cell? ⟨w.heap.size, 0, none⟩ = some (.int .i64 2) := cell_of_row _ _ 0 _ _ _ n3
  have p1 : w2.cell? ⟨w.heap.size, 1, none⟩ = some (.int .i64 p) := cell_of_row _ _ 1 _ _ _ n3
  have q0 : w2.cell? ⟨w.heap.size + 1, 0, none⟩ = some (.int .i64 n) := cell_of_row _ _ 0 _ _ _ n2
  have q1 : w2.cell? ⟨w.heap.size + 1, 1, none⟩ = some (.string s) := cell_of_row _ _ 1 _ _ _ n2
  clear n2 n3
  go_wp2_with fail
  go_loop [5, 17] (fun m i => ∃ (j mm : Nat), (j : Int) ≤ p ∧ i = .int .i64 j ∧ m = .int .i64 mm ∧ mm ≤ 2147483648 ∧ mm = 2 ^ j) (fun _ i => (p - intOf i).toNat)
  case atStart => exact ⟨0, 1, by omega, rfl, rfl, by omega, rfl⟩
  case round =>
    obtain ⟨j, mm, hj, rfl, rfl, hmm, he⟩ := hrel
    have HE := Lib.hid he
    clear he
    by_cases hlt : (j : Int) < p
    · have hst : mm * 2 ≤ 2147483648 := by
        rw [HE.out]
        exact pow_step 2 j p.toNat 2147483648 (by decide) (by omega) (Nat.le_trans (Nat.pow_le_pow_right (by decide) (show p.toNat ≤ 31 by omega)) (by decide))
      go_wp2_with fail
      go_round
      case rel => exact ⟨j + 1, mm * 2, by omega, by go_num, by go_num, hst, by rw [HE.out, Nat.pow_succ]⟩
      case measure => simp [intOf]; omega
    · have hje : p.toNat = j := by omega
      have hmo : mostN 2 p = mm := by unfold mostN; rw [hje, HE.out]; rfl
      have HM := Lib.hid hmo
      clear hmo hje
      go_wp2_with fail
      all_goals (
        go_ret
        refine ⟨?_, b2⟩
        unfold litV
        rw [HM.out]
        (simp_all; try omega))
set_option maxHeartbeats 1000000 in
set_option maxRecDepth 100000 in
theorem literalValue_3 (p q n : Int) (vary : Bool) (pic s : ByteArray) (hs : s.size ≤ 140737488351232) (w : World) : Calls Tryd.prog 74 #[.agg #[.int .i64 3, .int .i64 p, .int .i64 q, .bool vary, .string pic], .agg #[.int .i64 n, .string s]] w fun e w' =>
    e = .returned (.bool (litV 3 p n s)) ∧ Below w.heap.size w w' := by
  go_enter Tryd.func74, Tryd.ntmps74
  go_upto_region 2 with fail
  have b2 := below_box2 w (.cells #[.int .i64 3, .int .i64 p, .int .i64 q, .bool vary, .string pic] 57) (.cells #[.int .i64 n, .string s] 59)
  have n1 := heap_alloc_new w (.cells #[.int .i64 3, .int .i64 p, .int .i64 q, .bool vary, .string pic] 57)
  have n2 := heap_alloc_new (w.alloc (.cells #[.int .i64 3, .int .i64 p, .int .i64 q, .bool vary, .string pic] 57)) (.cells #[.int .i64 n, .string s] 59)
  have n3 := (Lib.alloc_old (w.alloc (.cells #[.int .i64 3, .int .i64 p, .int .i64 q, .bool vary, .string pic] 57)) (.cells #[.int .i64 n, .string s] 59) w.heap.size (Array.getElem?_eq_some_iff.1 n1).1).trans n1
  rw [World.size_alloc] at n2
  generalize (w.alloc (.cells #[.int .i64 3, .int .i64 p, .int .i64 q, .bool vary, .string pic] 57)).alloc (.cells #[.int .i64 n, .string s] 59) = w2 at b2 n2 n3 ⊢
  clear n1
  have p0 : w2.cell? ⟨w.heap.size, 0, none⟩ = some (.int .i64 3) := cell_of_row _ _ 0 _ _ _ n3
  have p1 : w2.cell? ⟨w.heap.size, 1, none⟩ = some (.int .i64 p) := cell_of_row _ _ 1 _ _ _ n3
  have q0 : w2.cell? ⟨w.heap.size + 1, 0, none⟩ = some (.int .i64 n) := cell_of_row _ _ 0 _ _ _ n2
  have q1 : w2.cell? ⟨w.heap.size + 1, 1, none⟩ = some (.string s) := cell_of_row _ _ 1 _ _ _ n2
  clear n2 n3
  go_wp2_with (go_at_call 58; refine (all_shown s hs _).mono ?_; rintro e w' ⟨rfl, hw⟩; rw [hw]; clear hw)
  all_goals (
    go_ret
    refine ⟨?_, b2⟩
    unfold litV
    (simp_all; try omega))
set_option maxHeartbeats 1000000 in
set_option maxRecDepth 100000 in
theorem literalValue_4 (p q n : Int) (vary : Bool) (pic s : ByteArray) (hs : s.size ≤ 140737488351232) (w : World) : Calls Tryd.prog 74 #[.agg #[.int .i64 4, .int .i64 p, .int .i64 q, .bool vary, .string pic], .agg #[.int .i64 n, .string s]] w fun e w' =>
    e = .returned (.bool (litV 4 p n s)) ∧ Below w.heap.size w w' := by
  go_enter Tryd.func74, Tryd.ntmps74
  go_upto_region 2 with fail
  have b2 := below_box2 w (.cells #[.int .i64 4, .int .i64 p, .int .i64 q, .bool vary, .string pic] 57) (.cells #[.int .i64 n, .string s] 59)
  have n1 := heap_alloc_new w (.cells #[.int .i64 4, .int .i64 p, .int .i64 q, .bool vary, .string pic] 57)
  have n2 := heap_alloc_new (w.alloc (.cells #[.int .i64 4, .int .i64 p, .int .i64 q, .bool vary, .string pic] 57)) (.cells #[.int .i64 n, .string s] 59)
  have n3 := (Lib.alloc_old (w.alloc (.cells #[.int .i64 4, .int .i64 p, .int .i64 q, .bool vary, .string pic] 57)) (.cells #[.int .i64 n, .string s] 59) w.heap.size (Array.getElem?_eq_some_iff.1 n1).1).trans n1
  rw [World.size_alloc] at n2
  generalize (w.alloc (.cells #[.int .i64 4, .int .i64 p, .int .i64 q, .bool vary, .string pic] 57)).alloc (.cells #[.int .i64 n, .string s] 59) = w2 at b2 n2 n3 ⊢
  clear n1
  have p0 : w2.cell? ⟨w.heap.size, 0, none⟩ = some (.int .i64 4) := cell_of_row _ _ 0 _ _ _ n3
  have p1 : w2.cell? ⟨w.heap.size, 1, none⟩ = some (.int .i64 p) := cell_of_row _ _ 1 _ _ _ n3
  have q0 : w2.cell? ⟨w.heap.size + 1, 0, none⟩ = some (.int .i64 n) := cell_of_row _ _ 0 _ _ _ n2
  have q1 : w2.cell? ⟨w.heap.size + 1, 1, none⟩ = some (.string s) := cell_of_row _ _ 1 _ _ _ n2
  clear n2 n3
  go_wp2_with (go_at_call 58; refine (all_bit s hs _).mono ?_; rintro e w' ⟨rfl, hw⟩; rw [hw]; clear hw)
  all_goals (
    go_ret
    refine ⟨?_, b2⟩
    unfold litV
    (simp_all; try omega))
end Go.Proofs.YtafofcenphopbaaDoor
