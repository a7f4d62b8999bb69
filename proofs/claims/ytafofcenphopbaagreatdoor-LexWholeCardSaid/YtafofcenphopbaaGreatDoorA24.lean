/- value. -/
import Derived.Test.YtafofcenphopbaaGreatDoorA22
import Derived.Laws.RangeString
namespace Go.Proofs.YtafofcenphopbaaGreatDoor
open Go.RowKit Lx

def mostN (k p : Int) : Nat := (if k = 2 then 2 else 10) ^ p.toNat
def litV (k p n : Int) (s : ByteArray) : Bool :=
  if k = 1 ∨ k = 2 then decide (s.toList = []) && (decide (n < mostN k p) && decide (-(mostN k p : Int) < n))
  else decide (n = 0) && (decide ((s.size : Int) = p) && allI (if k = 3 then shownI else bitI) s)
theorem pow_step (b i p B : Nat) (hb : 1 ≤ b) (hi : i < p) (hB : b ^ p ≤ B) : b ^ i * b ≤ B := by
  have h : b ^ (i + 1) ≤ b ^ p := Nat.pow_le_pow_right hb (by omega)
  rw [Nat.pow_succ] at h; omega
set_option maxHeartbeats 1000000 in
set_option maxRecDepth 100000 in
theorem literalValue_1 (p q n : Int) (vary : Bool) (pic s : ByteArray) (hp : 1 ≤ p ∧ p ≤ 9) (w : World) : Calls Tryz.prog 52 #[.agg #[.int .i64 1, .int .i64 p, .int .i64 q, .bool vary, .string pic], .agg #[.int .i64 n, .string s]] w fun e w' =>
    e = .returned (.bool (litV 1 p n s)) ∧ Below w.heap.size w w' := by
  obtain ⟨hp1, hp2⟩ := hp
  go_enter Tryz.func52, Tryz.ntmps52
  go_upto_region 2 with fail
  have b2 := below_box2 w (.cells #[.int .i64 1, .int .i64 p, .int .i64 q, .bool vary, .string pic] 34) (.cells #[.int .i64 n, .string s] 36)
  have n1 := heap_alloc_new w (.cells #[.int .i64 1, .int .i64 p, .int .i64 q, .bool vary, .string pic] 34)
  have n2 := heap_alloc_new (w.alloc (.cells #[.int .i64 1, .int .i64 p, .int .i64 q, .bool vary, .string pic] 34)) (.cells #[.int .i64 n, .string s] 36)
  have n3 := (Lib.alloc_old (w.alloc (.cells #[.int .i64 1, .int .i64 p, .int .i64 q, .bool vary, .string pic] 34)) (.cells #[.int .i64 n, .string s] 36) w.heap.size (Array.getElem?_eq_some_iff.1 n1).1).trans n1
  rw [World.size_alloc] at n2
  generalize (w.alloc (.cells #[.int .i64 1, .int .i64 p, .int .i64 q, .bool vary, .string pic] 34)).alloc (.cells #[.int .i64 n, .string s] 36) = w2 at b2 n2 n3 ⊢
  clear n1
  have p0 : w2.cell? ⟨w.heap.size, 0, none⟩ = some (.int .i64 1) := cell_of_row _ _ 0 _ _ _ n3
  have p1 : w2.cell? ⟨w.heap.size, 1, none⟩ = some (.int .i64 p) := cell_of_row _ _ 1 _ _ _ n3
  have q0 : w2.cell? ⟨w.heap.size + 1, 0, none⟩ = some (.int .i64 n) := cell_of_row _ _ 0 _ _ _ n2
  have q1 : w2.cell? ⟨w.heap.size + 1, 1, none⟩ = some (.string s) := cell_of_row _ _ 1 _ _ _ n2
  clear n2 n3
  go_wp2_with fail
  go_loop [5, 17] (fun m i => ∃ (j mm : Nat), (j : Int) ≤ p ∧ i = .int .i64 j ∧ m = .int .i64 mm ∧ mm ≤ 1000000000 ∧ mm = 10 ^ j) (fun _ i => (p - intOf i).toNat)
  case atStart => exact ⟨0, 1, by omega, rfl, rfl, by omega, rfl⟩
  case round =>
    obtain ⟨j, mm, hj, rfl, rfl, hmm, he⟩ := hrel
    have HE := Lib.hid he
    clear he
    by_cases hlt : (j : Int) < p
    · have hst : mm * 10 ≤ 1000000000 := by
        rw [HE.out]
        exact pow_step 10 j p.toNat 1000000000 (by decide) (by omega) (Nat.le_trans (Nat.pow_le_pow_right (by decide) (show p.toNat ≤ 9 by omega)) (by decide))
      go_wp2_with fail
      go_round
      case rel => exact ⟨j + 1, mm * 10, by omega, by go_num, by go_num, hst, by rw [HE.out, Nat.pow_succ]⟩
      case measure => simp [intOf]; omega
    · have hje : p.toNat = j := by omega
      have hmo : mostN 1 p = mm := by unfold mostN; rw [hje, HE.out]; rfl
      have HM := Lib.hid hmo
      clear hmo hje
      go_wp2_with fail
      all_goals (
        go_ret
        refine ⟨?_, b2⟩
        unfold litV
        rw [HM.out]
        (simp_all; try omega))
set_option maxHeartbeats 1000000 in
set_option maxRecDepth 100000 in
theorem literalValue_2 (p q n : Int) (vary : Bool) (pic s : ByteArray) (hp : 1 ≤ p ∧ p ≤ 31) (w : World) : Calls Tryz.prog 52 #[.agg #[.int .i64 2, .int .i64 p, .int .i64 q, .bool vary, .string pic], .agg #[.int .i64 n, .string s]] w fun e w' =>
    e = .returned (.bool (litV 2 p n s)) ∧ Below w.heap.size w w' := by
  obtain ⟨hp1, hp2⟩ := hp
  go_enter Tryz.func52, Tryz.ntmps52
  go_upto_region 2 with fail
  have b2 := below_box2 w (.cells #[.int .i64 2, .int .i64 p, .int .i64 q, .bool vary, .string pic] 34) (.cells #[.int .i64 n, .string s] 36)
  have n1 := heap_alloc_new w (.cells #[.int .i64 2, .int .i64 p, .int .i64 q, .bool vary, .string pic] 34)
  have n2 := heap_alloc_new (w.alloc (.cells #[.int .i64 2, .int .i64 p, .int .i64 q, .bool vary, .string pic] 34)) (.cells #[.int .i64 n, .string s] 36)
  have n3 := (Lib.alloc_old (w.alloc (.cells #[.int .i64 2, .int .i64 p, .int .i64 q, .bool vary, .string pic] 34)) (.cells #[.int .i64 n, .string s] 36) w.heap.size (Array.getElem?_eq_some_iff.1 n1).1).trans n1
  rw [World.size_alloc] at n2
  generalize (w.alloc (.cells #[.int .i64 2, .int .i64 p, .int .i64 q, .bool vary, .string pic] 34)).alloc (.cells #[.int .i64 n, .string s] 36) = w2 at b2 n2 n3 ⊢
  clear n1
  have p0 : w2.cell? ⟨w.heap.size, 0, none⟩ = some (.int .i64 2) := cell_of_row _ _ 0 _ _ _ n3
  have p1 : w2.cell? ⟨w.heap.size, 1, none⟩ = some (.int .i64 p) := cell_of_row _ _ 1 _ _ _ n3
  have q0 : w2.cell? ⟨w.heap.size + 1, 0, none⟩ = some (.int .i64 n) := cell_of_row _ _ 0 _ _ _ n2
  have q1 : w2.cell? ⟨w.heap.size + 1, 1, none⟩ = some (.string s) := cell_of_row _ _ 1 _ _ _ n2
  clear n2 n3
  go_wp2_with fail
  go_loop [5, 17] (fun m i => ∃ (j mm : Nat), (j : Int) ≤ p ∧ i = .int .i64 j ∧ m = .int .i64 mm ∧ mm ≤ 2147483648 ∧ mm = 2 ^ j) (fun _ i => (p - intOf i).toNat)
  case atStart => exact ⟨0, 1, by omega, rfl, rfl, by omega, rfl⟩
  case round =>
    obtain ⟨j, mm, hj, rfl, rfl, hmm, he⟩ := hrel
    have HE := Lib.hid he
    clear he
    by_cases hlt : (j : Int) < p
    · have hst : mm * 2 ≤ 2147483648 := by
        rw [HE.out]
        exact pow_step 2 j p.toNat 2147483648 (by decide) (by omega) (Nat.le_trans (Nat.pow_le_pow_right (by decide) (show p.toNat ≤ 31 by omega)) (by decide))
      go_wp2_with fail
      go_round
      case rel => exact ⟨j + 1, mm * 2, by omega, by go_num, by go_num, hst, by rw [HE.out, Nat.pow_succ]⟩
      case measure => simp [intOf]; omega
    · have hje : p.toNat = j := by omega
      have hmo : mostN 2 p = mm := by unfold mostN; rw [hje, HE.out]; rfl
      have HM := Lib.hid hmo
      clear hmo hje
      go_wp2_with fail
      all_goals (
        go_ret
        refine ⟨?_, b2⟩
        unfold litV
        rw [HM.out]
        (simp_all; try omega))
set_option maxHeartbeats 1000000 in
set_option maxRecDepth 100000 in
theorem literalValue_3 (p q n : Int) (vary : Bool) (pic s : ByteArray) (hs : s.size ≤ 140737488351232) (w : World) : Calls Tryz.prog 52 #[.agg #[.int .i64 3, .int .i64 p, .int .i64 q, .bool vary, .string pic], .agg #[.int .i64 n, .string s]] w fun e w' =>
    e = .returned (.bool (litV 3 p n s)) ∧ Below w.heap.size w w' := by
  go_enter Tryz.func52, Tryz.ntmps52
  go_upto_region 2 with fail
  have b2 := below_box2 w (.cells #[.int .i64 3, .int .i64 p, .int .i64 q, .bool vary, .string pic] 34) (.cells #[.int .i64 n, .string s] 36)
  have n1 := heap_alloc_new w (.cells #[.int .i64 3, .int .i64 p, .int .i64 q, .bool vary, .string pic] 34)
  have n2 := heap_alloc_new (w.alloc (.cells #[.int .i64 3, .int .i64 p, .int .i64 q, .bool vary, .string pic] 34)) (.cells #[.int .i64 n, .string s] 36)
  have n3 := (Lib.alloc_old (w.alloc (.cells #[.int .i64 3, .int .i64 p, .int .i64 q, .bool vary, .string pic] 34)) (.cells #[.int .i64 n, .string s] 36) w.heap.size (Array.getElem?_eq_some_iff.1 n1).1).trans n1
  rw [World.size_alloc] at n2
  generalize (w.alloc (.cells #[.int .i64 3, .int .i64 p, .int .i64 q, .bool vary, .string pic] 34)).alloc (.cells #[.int .i64 n, .string s] 36) = w2 at b2 n2 n3 ⊢
  clear n1
  have p0 : w2.cell? ⟨w.heap.size, 0, none⟩ = some (.int .i64 3) := cell_of_row _ _ 0 _ _ _ n3
  have p1 : w2.cell? ⟨w.heap.size, 1, none⟩ = some (.int .i64 p) := cell_of_row _ _ 1 _ _ _ n3
  have q0 : w2.cell? ⟨w.heap.size + 1, 0, none⟩ = some (.int .i64 n) := cell_of_row _ _ 0 _ _ _ n2
  have q1 : w2.cell? ⟨w.heap.size + 1, 1, none⟩ = some (.string s) := cell_of_row _ _ 1 _ _ _ n2
  clear n2 n3
  go_wp2_with (go_at_call 72; refine (all_shown s hs _).mono ?_; rintro e w' ⟨rfl, hw⟩; rw [hw]; clear hw)
  all_goals (
    go_ret
    refine ⟨?_, b2⟩
    unfold litV
    (simp_all; try omega))
set_option maxHeartbeats 1000000 in
set_option maxRecDepth 100000 in
theorem literalValue_4 (p q n : Int) (vary : Bool) (pic s : ByteArray) (hs : s.size ≤ 140737488351232) (w : World) : Calls Tryz.prog 52 #[.agg #[.int .i64 4, .int .i64 p, .int .i64 q, .bool vary, .string pic], .agg #[.int .i64 n, .string s]] w fun e w' =>
    e = .returned (.bool (litV 4 p n s)) ∧ Below w.heap.size w w' := by
  go_enter Tryz.func52, Tryz.ntmps52
  go_upto_region 2 with fail
  have b2 := below_box2 w (.cells #[.int .i64 4, .int .i64 p, .int .i64 q, .bool vary, .string pic] 34) (.cells #[.int .i64 n, .string s] 36)
  have n1 := heap_alloc_new w (.cells #[.int .i64 4, .int .i64 p, .int .i64 q, .bool vary, .string pic] 34)
  have n2 := heap_alloc_new (w.alloc (.cells #[.int .i64 4, .int .i64 p, .int .i64 q, .bool vary, .string pic] 34)) (.cells #[.int .i64 n, .string s] 36)
  have n3 := (Lib.alloc_old (w.alloc (.cells #[.int .i64 4, .int .i64 p, .int .i64 q, .bool vary, .string pic] 34)) (.cells #[.int .i64 n, .string s] 36) w.heap.size (Array.getElem?_eq_some_iff.1 n1).1).trans n1
  rw [World.size_alloc] at n2
  generalize (w.alloc (.cells #[.int .i64 4, .int .i64 p, .int .i64 q, .bool vary, .string pic] 34)).alloc (.cells #[.int .i64 n, .string s] 36) = w2 at b2 n2 n3 ⊢
  clear n1
  have p0 : w2.cell? ⟨w.heap.size, 0, none⟩ = some (.int .i64 4) := cell_of_row _ _ 0 _ _ _ n3
  have p1 : w2.cell? ⟨w.heap.size, 1, none⟩ = some (.int .i64 p) := cell_of_row _ _ 1 _ _ _ n3
  have q0 : w2.cell? ⟨w.heap.size + 1, 0, none⟩ = some (.int .i64 n) := cell_of_row _ _ 0 _ _ _ n2
  have q1 : w2.cell? ⟨w.heap.size + 1, 1, none⟩ = some (.string s) := cell_of_row _ _ 1 _ _ _ n2
  clear n2 n3
  go_wp2_with (go_at_call 72; refine (all_bit s hs _).mono ?_; rintro e w' ⟨rfl, hw⟩; rw [hw]; clear hw)
  all_goals (
    go_ret
    refine ⟨?_, b2⟩
    unfold litV
    (simp_all; try omega))
end Go.Proofs.YtafofcenphopbaaGreatDoor
namespace Go.Proofs.YtafofcenphopbaaGreatDoor
open Go.RowKit Lx

/-- The number of digits in a base; a point is passed over. -/
def valL (base : Nat) : Bs → Nat → Nat
  | [], n => n
  | c :: l, n => valL base l (if c = 46 then n else n * base + (c.toNat - 48))
theorem valL_bound (base m d pos size : Nat) (hb : 2 ≤ base) (hm : m < base ^ pos) (hd : d < base) (hp : pos < size) (hs : base ^ size ≤ 10000000000) : m * base + d < base ^ (pos + 1) ∧ m < base ^ (pos + 1) ∧ m * base + d ≤ 10000000000 ∧ m * base ≤ 10000000000 := by
  have h1 : base ^ (pos + 1) ≤ base ^ size := Nat.pow_le_pow_right (by omega) (by omega)
  have h2 : m * base + base ≤ base ^ pos * base := by
    have := Nat.mul_le_mul_right base (show m + 1 ≤ base ^ pos from hm)
    rw [Nat.add_mul, Nat.one_mul] at this; exact this
  have h3 : m ≤ m * base := Nat.le_mul_of_pos_right m (by omega)
  rw [Nat.pow_succ] at h1 ⊢
  omega
set_option maxHeartbeats 1000000 in
set_option maxRecDepth 100000 in
theorem value_any (s : ByteArray) (base : Nat) (hb : 2 ≤ base) (hb2 : base ≤ 10) (hs : base ^ s.size ≤ 10000000000) (hd : ∀ c ∈ s.data.toList, c = 46 ∨ (48 ≤ c.toNat ∧ c.toNat < 48 + base)) (w : World) :
    Calls Tryz.prog 49 #[.string s, .int .i64 base] w fun e w' => e = .returned (.int .i64 (valL base s.data.toList 0)) ∧ Below w.heap.size w w' := by
  have HS := Lib.hid hs
  have HD := Lib.hid hd
  clear hs hd
  go_enter Tryz.func49, Tryz.ntmps49
  go_wp2
  go_loopw [5] (fun n wr => ∃ pos m : Nat, pos ≤ s.size ∧ wr = w.iter s pos ∧ n = .int .i64 m ∧ m < base ^ pos ∧ valL base s.data.toList 0 = valL base (s.data.toList.drop pos) m) (fun _ wr => s.size - wr.iterPos w.heap.size)
  case atStart => exact ⟨0, 0, Nat.zero_le _, rfl, rfl, by simp, rfl⟩
  case round =>
    obtain ⟨pos, m, hpos, rfl, rfl, hm, hv⟩ := hrel
    by_cases hp : pos < s.size
    · have hmem := HD.out s[pos] (by simp [ByteArray.getElem_eq_getElem_data])
      have hstep : valL base (s.data.toList.drop pos) m = valL base (s.data.toList.drop (pos + 1)) (if s[pos] = 46 then m else m * base + (s[pos].toNat - 48)) := by rw [drop_cons s pos hp]; rfl
      rw [hstep] at hv
      have hasc : (s[pos]'hp).toNat < 128 := by
        rcases hmem with h | h
        · rw [h]; decide
        · omega
      have h46 : s[pos] = 46 ↔ ((s[pos].toNat : Nat) : Int) = 46 := byte_eq s[pos] 46 (by decide)
      have hnx : ∀ ty, (Instr.next (.pointer (some ⟨w.heap.size, 0, none⟩)) true ty).run Tryz.prog (w.iter s pos) = _ := fun ty => run_next_ascii w s pos ty hp hasc
      clear hstep
      generalize (s[pos]'hp) = c at *
      have hbd := fun d hd' => valL_bound base m d pos s.size hb hm hd' hp HS.out
      by_cases hc : c = 46
      · subst hc
        rw [if_pos rfl] at hv
        have HV := Lib.hid hv
        have hbd0 := hbd 0 (by omega)
        have hm1 := hbd0.2.1
        clear hv hmem h46 hbd hbd0 hm hasc
        go_wp2
        go_roundw
        case rel => exact ⟨pos + 1, m, hp, rfl, rfl, hm1, HV.out⟩
        case measure => simp; omega
      · rw [if_neg hc] at hv
        have hmem' : 48 ≤ c.toNat ∧ c.toNat < 48 + base := by
          rcases hmem with h | h
          · exact absurd h hc
          · exact h
        have HV := Lib.hid hv
        obtain ⟨g1, g2, g3, g4⟩ := hbd (c.toNat - 48) (by omega)
        have hne : (((c.toNat : Nat) : Int) != 46) = true := by rw [bne_iff_ne]; exact fun e => hc (h46.2 e)
        have c1 := hmem'.1
        have c2 := hmem'.2
        have c3 : c.toNat < 58 := by omega
        clear hv hmem h46 hbd hm hc hmem' hasc
        generalize c.toNat = k at *
        have G4 : ((m : Int) * (base : Int)) ≤ 10000000000 := by rw [← Int.natCast_mul]; omega
        have G0 : 0 ≤ ((m : Int) * (base : Int)) := by rw [← Int.natCast_mul]; omega
        clear hb hb2 g4
        go_wp2
        go_roundw
        case rel =>
          refine ⟨pos + 1, m * base + (k - 48), hp, rfl, ?_, g1, HV.out⟩
          congr 1
          have e : ((m * base + (k - 48) : Nat) : Int) = (m : Int) * (base : Int) + ((k : Int) - 48) := by rw [Int.natCast_add, Int.natCast_mul]; omega
          rw [e]
        case measure => simp; omega
    · have hnx : ∀ ty, (Instr.next (.pointer (some ⟨w.heap.size, 0, none⟩)) true ty).run Tryz.prog (w.iter s pos) = _ := fun ty => run_next_end w s pos ty hp
      rw [List.drop_of_length_le (by have := size_list s; omega)] at hv
      have HV := Lib.hid hv
      clear hv
      go_wp2
      go_ret
      exact ⟨by rw [HV.out]; rfl, (Below.refl _ _).alloc (Nat.le_refl _) _⟩
end Go.Proofs.YtafofcenphopbaaGreatDoor
