/- digits. -/
import Derived.Test.YtafofcenphopbaaDoorA21
namespace Go.Proofs.YtafofcenphopbaaDoor
open Go.RowKit Lx

/-- The digits of n, the last first taken off. -/
def digL : Nat → Nat → Nat → Bs → Bs
  | _, _, 0, acc => acc
  | base, n, m + 1, acc => digL base (n / base) m (UInt8.ofNat (48 + n % base) :: acc)
theorem dig_set (j base m : Nat) (acc : Bs) (hmb : m % base < 10) : (List.replicate (j + 1) (Value.int .u8 0) ++ Lib.byteCells acc).toArray.setIfInBounds j (.int .u8 (48 + m % base : Nat)) = (List.replicate j (Value.int .u8 0) ++ Lib.byteCells (UInt8.ofNat (48 + m % base) :: acc)).toArray := by
  generalize m % base = x at hmb ⊢
  have e : ((UInt8.ofNat (48 + x)).toNat : Int) = (48 + x : Nat) := by
    rw [UInt8.toNat_ofNat']; omega
  apply Array.toList_inj.1
  rw [Array.toList_setIfInBounds, List.set_append_left _ _ (by simp), List.replicate_succ']
  rw [List.set_append_right _ _ (by simp)]
  simp only [Lib.byteCells, List.map_cons, e]
  simp
set_option maxHeartbeats 1000000 in
set_option maxRecDepth 100000 in
theorem digits_2 (n many : Nat) (hn : n ≤ 9223372036854775807) (hm : many ≤ 100) (w : World) : Calls Tryd.prog 75 #[.int .i64 n, .int .i64 many, .int .i64 2] w fun e w' =>
    e = .returned (.string ⟨(digL 2 n many []).toArray⟩) ∧ Below w.heap.size w w' := by
  have hm' : (0 : Int) ≤ (many : Int) ∧ (many : Int) ≤ 100 := by omega
  obtain ⟨m1, m2⟩ := hm'
  obtain ⟨i0, hi0, hz0, hz1, hz2⟩ := info_parts infoB
  have hmk := run_makeSlice (P := Tryd.prog) w 72 5 i0 (.int .u8 0) undBs hi0 hz0 .i64 .i64 (many : Int) (many : Int) (by omega) (by omega) (by rw [hz1]; omega) (by rw [hz2]; omega) (by omega)
  rw [Int.toNat_natCast] at hmk
  go_enter Tryd.func75, Tryd.ntmps75
  go_wp2_with fail
  have n1 := heap_alloc_new w (.cells (madeCells #[.int .u8 0] many) 5)
  have b1 := below_box w (.cells (madeCells #[.int .u8 0] many) 5)
  generalize w.alloc (.cells (madeCells #[.int .u8 0] many) 5) = w1 at n1 b1 ⊢
  have hmc : madeCells #[Value.int .u8 0] many = (List.replicate many (Value.int .u8 0) ++ Lib.byteCells []).toArray := by
    apply Array.toList_inj.1
    rw [toList_madeCells_one]
    simp [Lib.byteCells]
  rw [hmc] at n1
  clear hmk hmc
  go_loopw [0, 8] (fun qn qi wr => ∃ (i m : Nat) (acc : Bs), i + acc.length = many ∧ qn = .int .i64 m ∧ qi = .int .i64 ((i : Int) - 1) ∧ m ≤ 9223372036854775807 ∧ digL 2 n many [] = digL 2 m i acc ∧
      wr.heap[w.heap.size]? = some (.cells (List.replicate i (Value.int .u8 0) ++ Lib.byteCells acc).toArray 5) ∧ Below w.heap.size w wr) (fun _ qi _ => (intOf qi + 1).toNat)
  case atStart => exact ⟨many, n, [], rfl, rfl, rfl, hn, rfl, n1, b1⟩
  case round =>
    obtain ⟨i, m, acc, hi, rfl, rfl, hmx, hq, hrow, bel⟩ := hrel
    have HQ := Lib.hid hq
    have HROW := Lib.hid hrow
    clear hq hrow n1 b1
    by_cases h0 : i = 0
    · subst h0
      have hal : acc.length = many := by omega
      have hcv := run_convert_bytes_back (P := Tryd.prog) wr 72 9 5 ⟨w.heap.size, 0, none⟩ many acc undBs undB undS (fun k hk => by
        have e : (⟨w.heap.size, 0, none⟩ : Addr).add k = ⟨w.heap.size, k, none⟩ := by unfold Addr.add; split <;> simp_all
        rw [e, Lib.cell_of_heap HROW.out]
        simp [Lib.byteCells, hk])
      rw [hal] at hcv
      have HAL := Lib.hid hal
      clear hal hi
      go_wp2_with fail
      go_ret
      exact ⟨by rw [HQ.out]; rfl, bel⟩
    · obtain ⟨j, rfl⟩ : ∃ j, i = j + 1 := ⟨i - 1, by omega⟩
      have hcv : ((j + 1 : Nat) : Int) - 1 = (j : Int) := by omega
      rw [hcv]
      have c0 : wr.cell? ⟨w.heap.size, j, none⟩ = some (.int .u8 0) := by
        rw [Lib.cell_of_heap HROW.out]
        simp [List.getElem?_append]
      have f0 := Lib.frozen_of_heap HROW.out j
      have hmb : m % 2 < 10 := by omega
      have HR : Hid ((wr.setCell ⟨w.heap.size, j, none⟩ (.int .u8 (48 + m % 2 : Nat))).heap[w.heap.size]? = some (.cells (List.replicate j (Value.int .u8 0) ++ Lib.byteCells (UInt8.ofNat (48 + m % 2) :: acc)).toArray 5)) := Lib.hid (by
        rw [← dig_set j 2 m acc hmb]
        simp [World.setCell, Array.getElem?_modify, HROW.out])
      have HI := Lib.hid hi
      have hjm : j < many := by omega
      clear hi hcv
      go_wp2_with fail
      have ev : (48 + (m : Int) % 2) = ((48 + m % 2 : Nat) : Int) := by omega
      have ed : (m : Int) / 2 = ((m / 2 : Nat) : Int) := by omega
      rw [ev, ed]
      refine ⟨⟨j, m / 2, UInt8.ofNat (48 + m % 2) :: acc, by have := HI.out; rw [List.length_cons]; omega, rfl, rfl, by omega, ?_, HR.out, bel.setCell (p := ⟨w.heap.size, j, none⟩) (Nat.le_refl _) _⟩, ?_⟩
      · rw [HQ.out]; rfl
      · simp [intOf]
set_option maxHeartbeats 1000000 in
set_option maxRecDepth 100000 in
theorem digits_10 (n many : Nat) (hn : n ≤ 9223372036854775807) (hm : many ≤ 100) (w : World) : Calls Tryd.prog 75 #[.int .i64 n, .int .i64 many, .int .i64 10] w fun e w' =>
    e = .returned (.string ⟨(digL 10 n many []).toArray⟩) ∧ Below w.heap.size w w' := by
  have hm' : (0 : Int) ≤ (many : Int) ∧ (many : Int) ≤ 100 := by omega
  obtain ⟨m1, m2⟩ := hm'
  obtain ⟨i0, hi0, hz0, hz1, hz2⟩ := info_parts infoB
  have hmk := run_makeSlice (P := Tryd.prog) w 72 5 i0 (.int .u8 0) undBs hi0 hz0 .i64 .i64 (many : Int) (many : Int) (by omega) (by omega) (by rw [hz1]; omega) (by rw [hz2]; omega) (by omega)
  rw [Int.toNat_natCast] at hmk
  go_enter Tryd.func75, Tryd.ntmps75
  go_wp2_with fail
  have n1 := heap_alloc_new w (.cells (madeCells #[.int .u8 0] many) 5)
  have b1 := below_box w (.cells (madeCells #[.int .u8 0] many) 5)
  generalize w.alloc (.cells (madeCells #[.int .u8 0] many) 5) = w1 at n1 b1 ⊢
  have hmc : madeCells #[Value.int .u8 0] many = (List.replicate many (Value.int .u8 0) ++ Lib.byteCells []).toArray := by
    apply Array.toList_inj.1
    rw [toList_madeCells_one]
    simp [Lib.byteCells]
  rw [hmc] at n1
  clear hmk hmc
  go_loopw [0, 8] (fun qn qi wr => ∃ (i m : Nat) (acc : Bs), i + acc.length = many ∧ qn = .int .i64 m ∧ qi = .int .i64 ((i : Int) - 1) ∧ m ≤ 9223372036854775807 ∧ digL 10 n many [] = digL 10 m i acc ∧
      wr.heap[w.heap.size]? = some (.cells (List.replicate i (Value.int .u8 0) ++ Lib.byteCells acc).toArray 5) ∧ Below w.heap.size w wr) (fun _ qi _ => (intOf qi + 1).toNat)
  case atStart => exact ⟨many, n, [], rfl, rfl, rfl, hn, rfl, n1, b1⟩
  case round =>
    obtain ⟨i, m, acc, hi, rfl, rfl, hmx, hq, hrow, bel⟩ := hrel
    have HQ := Lib.hid hq
    have HROW := Lib.hid hrow
    clear hq hrow n1 b1
    by_cases h0 : i = 0
    · subst h0
      have hal : acc.length = many := by omega
      have hcv := run_convert_bytes_back (P := Tryd.prog) wr 72 9 5 ⟨w.heap.size, 0, none⟩ many acc undBs undB undS (fun k hk => by
        have e : (⟨w.heap.size, 0, none⟩ : Addr).add k = ⟨w.heap.size, k, none⟩ := by unfold Addr.add; split <;> simp_all
        rw [e, Lib.cell_of_heap HROW.out]
        simp [Lib.byteCells, hk])
      rw [hal] at hcv
      have HAL := Lib.hid hal
      clear hal hi
      go_wp2_with fail
      go_ret
      exact ⟨by rw [HQ.out]; rfl, bel⟩
    · obtain ⟨j, rfl⟩ : ∃ j, i = j + 1 := ⟨i - 1, by omega⟩
      have hcv : ((j + 1 : Nat) : Int) - 1 = (j : Int) := by omega
      rw [hcv]
      have c0 : wr.cell? ⟨w.heap.size, j, none⟩ = some (.int .u8 0) := by
        rw [Lib.cell_of_heap HROW.out]
        simp [List.getElem?_append]
      have f0 := Lib.frozen_of_heap HROW.out j
      have hmb : m % 10 < 10 := by omega
      have HR : Hid ((wr.setCell ⟨w.heap.size, j, none⟩ (.int .u8 (48 + m % 10 : Nat))).heap[w.heap.size]? = some (.cells (List.replicate j (Value.int .u8 0) ++ Lib.byteCells (UInt8.ofNat (48 + m % 10) :: acc)).toArray 5)) := Lib.hid (by
        rw [← dig_set j 10 m acc hmb]
        simp [World.setCell, Array.getElem?_modify, HROW.out])
      have HI := Lib.hid hi
      have hjm : j < many := by omega
      clear hi hcv
      go_wp2_with fail
      have ev : (48 + (m : Int) % 10) = ((48 + m % 10 : Nat) : Int) := by omega
      have ed : (m : Int) / 10 = ((m / 10 : Nat) : Int) := by omega
      rw [ev, ed]
      refine ⟨⟨j, m / 10, UInt8.ofNat (48 + m % 10) :: acc, by have := HI.out; rw [List.length_cons]; omega, rfl, rfl, by omega, ?_, HR.out, bel.setCell (p := ⟨w.heap.size, j, none⟩) (Nat.le_refl _) _⟩, ?_⟩
      · rw [HQ.out]; rfl
      · simp [intOf]
end Go.Proofs.YtafofcenphopbaaDoor
