/- digits. -/
import Derived.Test.YtafofcenphopbaaGreatDoorA20
namespace Go.Proofs.YtafofcenphopbaaGreatDoor
open Go.RowKit Lx

def plainT (q : Int) (vary : Bool) (pic : ByteArray) : Bool := decide (q = 0) && (!vary && decide (pic.toList = []))
def litT (k p q : Int) (vary : Bool) (pic : ByteArray) : Bool :=
  if k = 1 then plainT 0 vary pic && (decide (1 ≤ p) && (decide (p ≤ 9) && (decide (0 ≤ q) && decide (q ≤ p))))
  else if k = 2 then plainT q vary pic && (decide (1 ≤ p) && decide (p ≤ 31))
  else if k = 3 then plainT q vary pic && (decide (0 ≤ p) && decide (p ≤ 255))
  else if k = 4 then plainT q vary pic && (decide (0 ≤ p) && decide (p ≤ 64))
  else false
theorem eqType (k p q k' p' q' : Int) (v v' : Bool) (pic pic' : ByteArray) (w : World) : (binOp .eql 34 (.agg #[.int .i64 k, .int .i64 p, .int .i64 q, .bool v, .string pic]) (.agg #[.int .i64 k', .int .i64 p', .int .i64 q', .bool v', .string pic'])).run Tryz.prog w =
    .ok (.bool (decide (k = k') && (decide (p = p') && (decide (q = q') && (v == v' && decide (pic = pic')))))) w := by
  have u3 := Tryz.underlying3
  have a3 := Tryz.isAgg3
  have z3 := Tryz.sizeOf3
  have hS : Tryz.prog.underlying 34 = some (.struct (Tryz.prog.fieldsOf 34)) := by kernel_rfl
  have hp : Tryz.prog.stoodInHeld 34 = false := by kernel_rfl
  rw [run_eql_struct, show (10000 : Nat) = 9999 + 1 from rfl, run_equalIn_agg w 9999 34 _ _ hS hp]
  simp only [Program.fieldsOf, Tryz.underlying34]
  go_simp
  have ht : (pic.toList = pic'.toList) = (pic = pic') := by rw [ByteArray.toList_eq, ByteArray.toList_eq]; obtain ⟨⟨x⟩⟩ := pic; obtain ⟨⟨y⟩⟩ := pic'; simp
  by_cases h1 : k = k' <;> by_cases h2 : p = p' <;> by_cases h3 : q = q' <;> by_cases h4 : v = v' <;> by_cases h5 : pic = pic' <;> simp [h1, h2, h3, h4, h5, ht]
set_option maxHeartbeats 4000000 in
set_option maxRecDepth 100000 in
theorem literalType_any (k p q : Int) (vary : Bool) (pic : ByteArray) (w : World) : Calls Tryz.prog 51 #[.agg #[.int .i64 k, .int .i64 p, .int .i64 q, .bool vary, .string pic]] w fun e w' =>
    e = .returned (.bool (litT k p q vary pic)) ∧ Below w.heap.size w w' := by
  go_enter Tryz.func51, Tryz.ntmps51
  go_upto_region 2 with fail
  have b2 := below_box2 w (.cells #[.int .i64 k, .int .i64 p, .int .i64 q, .bool vary, .string pic] 34) (.cells #[.int .i64 k, .int .i64 p, .int .i64 0, .bool false, .string ⟨#[]⟩] 34)
  have n1 := heap_alloc_new w (.cells #[.int .i64 k, .int .i64 p, .int .i64 q, .bool vary, .string pic] 34)
  have n2 := heap_alloc_new (w.alloc (.cells #[.int .i64 k, .int .i64 p, .int .i64 q, .bool vary, .string pic] 34)) (.cells #[.int .i64 k, .int .i64 p, .int .i64 0, .bool false, .string ⟨#[]⟩] 34)
  have n3 := (Lib.alloc_old (w.alloc (.cells #[.int .i64 k, .int .i64 p, .int .i64 q, .bool vary, .string pic] 34)) (.cells #[.int .i64 k, .int .i64 p, .int .i64 0, .bool false, .string ⟨#[]⟩] 34) w.heap.size (Array.getElem?_eq_some_iff.1 n1).1).trans n1
  rw [World.size_alloc] at n2
  generalize (w.alloc (.cells #[.int .i64 k, .int .i64 p, .int .i64 q, .bool vary, .string pic] 34)).alloc (.cells #[.int .i64 k, .int .i64 p, .int .i64 0, .bool false, .string ⟨#[]⟩] 34) = w2 at b2 n2 n3 ⊢
  clear n1
  have he := eqType k p q k p 0 vary false pic ⟨#[]⟩ w2
  have p0 : w2.cell? ⟨w.heap.size, 0, none⟩ = some (.int .i64 k) := cell_of_row _ _ 0 _ _ _ n3
  have p1 : w2.cell? ⟨w.heap.size, 1, none⟩ = some (.int .i64 p) := cell_of_row _ _ 1 _ _ _ n3
  have p2 : w2.cell? ⟨w.heap.size, 2, none⟩ = some (.int .i64 q) := cell_of_row _ _ 2 _ _ _ n3
  have p3 : w2.cell? ⟨w.heap.size, 3, none⟩ = some (.bool vary) := cell_of_row _ _ 3 _ _ _ n3
  have p4 : w2.cell? ⟨w.heap.size, 4, none⟩ = some (.string pic) := cell_of_row _ _ 4 _ _ _ n3
  have q0 : w2.cell? ⟨w.heap.size + 1, 0, none⟩ = some (.int .i64 k) := cell_of_row _ _ 0 _ _ _ n2
  have q1 : w2.cell? ⟨w.heap.size + 1, 1, none⟩ = some (.int .i64 p) := cell_of_row _ _ 1 _ _ _ n2
  have q2 : w2.cell? ⟨w.heap.size + 1, 2, none⟩ = some (.int .i64 0) := cell_of_row _ _ 2 _ _ _ n2
  have q3 : w2.cell? ⟨w.heap.size + 1, 3, none⟩ = some (.bool false) := cell_of_row _ _ 3 _ _ _ n2
  have q4 : w2.cell? ⟨w.heap.size + 1, 4, none⟩ = some (.string ⟨#[]⟩) := cell_of_row _ _ 4 _ _ _ n2
  have f2 := Lib.frozen_of_heap n2 2
  clear n2 n3
  by_cases hk1 : k = 1
  · subst hk1
    have he1 := eqType 1 p q 1 p q vary false pic ⟨#[]⟩ (w2.setCell ⟨w.heap.size + 1, 2, none⟩ (.int .i64 q))
    have bs : Below w.heap.size w (w2.setCell ⟨w.heap.size + 1, 2, none⟩ (.int .i64 q)) := b2.setCell (p := ⟨w.heap.size + 1, 2, none⟩) (by show _ ≤ w.heap.size + 1; omega) _
    go_wp2_with fail
    all_goals (go_ret; refine ⟨?_, bs⟩; (simp_all [litT, plainT]; try omega))
  by_cases hk2 : k = 2
  · subst hk2
    go_wp2_with fail
    all_goals (go_ret; refine ⟨?_, b2⟩; (simp_all [litT, plainT]; try omega))
  by_cases hk3 : k = 3
  · subst hk3
    go_wp2_with fail
    all_goals (go_ret; refine ⟨?_, b2⟩; (simp_all [litT, plainT]; try omega))
  by_cases hk4 : k = 4
  · subst hk4
    go_wp2_with fail
    all_goals (go_ret; refine ⟨?_, b2⟩; (simp_all [litT, plainT]; try omega))
  have e1 : (k == 1) = false := by rw [beq_eq_false_iff_ne]; exact hk1
  have e2 : (k == 2) = false := by rw [beq_eq_false_iff_ne]; exact hk2
  have e3 : (k == 3) = false := by rw [beq_eq_false_iff_ne]; exact hk3
  have e4 : (k == 4) = false := by rw [beq_eq_false_iff_ne]; exact hk4
  go_wp2_with fail
  all_goals (go_ret; refine ⟨?_, b2⟩; (simp_all [litT]; try omega))
end Go.Proofs.YtafofcenphopbaaGreatDoor
namespace Go.Proofs.YtafofcenphopbaaGreatDoor
open Go.RowKit Lx

/-- The digits of n, the last first taken off. -/
def digL : Nat → Nat → Nat → Bs → Bs
  | _, _, 0, acc => acc
  | base, n, m + 1, acc => digL base (n / base) m (UInt8.ofNat (48 + n % base) :: acc)
theorem dig_set (j base m : Nat) (acc : Bs) (hmb : m % base < 10) : (List.replicate (j + 1) (Value.int .u8 0) ++ Lib.byteCells acc).toArray.setIfInBounds j (.int .u8 (48 + m % base : Nat)) = (List.replicate j (Value.int .u8 0) ++ Lib.byteCells (UInt8.ofNat (48 + m % base) :: acc)).toArray := by
  generalize m % base = x at hmb ⊢
  have e : ((UInt8.ofNat (48 + x)).toNat : Int) = (48 + x : Nat) := by
    rw [UInt8.toNat_ofNat']; omega
  apply Array.toList_inj.1
  rw [Array.toList_setIfInBounds, List.set_append_left _ _ (by simp), List.replicate_succ']
  rw [List.set_append_right _ _ (by simp)]
  simp only [Lib.byteCells, List.map_cons, e]
  simp
set_option maxHeartbeats 1000000 in
set_option maxRecDepth 100000 in
theorem digits_2 (n many : Nat) (hn : n ≤ 9223372036854775807) (hm : many ≤ 100) (w : World) : Calls Tryz.prog 53 #[.int .i64 n, .int .i64 many, .int .i64 2] w fun e w' =>
    e = .returned (.string ⟨(digL 2 n many []).toArray⟩) ∧ Below w.heap.size w w' := by
  have hm' : (0 : Int) ≤ (many : Int) ∧ (many : Int) ≤ 100 := by omega
  obtain ⟨m1, m2⟩ := hm'
  obtain ⟨i0, hi0, hz0, hz1, hz2⟩ := info_parts infoB
  have hmk := run_makeSlice (P := Tryz.prog) w 73 5 i0 (.int .u8 0) undBs hi0 hz0 .i64 .i64 (many : Int) (many : Int) (by omega) (by omega) (by rw [hz1]; omega) (by rw [hz2]; omega) (by omega)
  rw [Int.toNat_natCast] at hmk
  go_enter Tryz.func53, Tryz.ntmps53
  go_wp2_with fail
  have n1 := heap_alloc_new w (.cells (madeCells #[.int .u8 0] many) 5)
  have b1 := below_box w (.cells (madeCells #[.int .u8 0] many) 5)
  generalize w.alloc (.cells (madeCells #[.int .u8 0] many) 5) = w1 at n1 b1 ⊢
  have hmc : madeCells #[Value.int .u8 0] many = (List.replicate many (Value.int .u8 0) ++ Lib.byteCells []).toArray := by
    apply Array.toList_inj.1
    rw [toList_madeCells_one]
    simp [Lib.byteCells]
  rw [hmc] at n1
  clear hmk hmc
  go_loopw [0, 8] (fun qn qi wr => ∃ (i m : Nat) (acc : Bs), i + acc.length = many ∧ qn = .int .i64 m ∧ qi = .int .i64 ((i : Int) - 1) ∧ m ≤ 9223372036854775807 ∧ digL 2 n many [] = digL 2 m i acc ∧
      wr.heap[w.heap.size]? = some (.cells (List.replicate i (Value.int .u8 0) ++ Lib.byteCells acc).toArray 5) ∧ Below w.heap.size w wr) (fun _ qi _ => (intOf qi + 1).toNat)
  case atStart => exact ⟨many, n, [], rfl, rfl, rfl, hn, rfl, n1, b1⟩
  case round =>
    obtain ⟨i, m, acc, hi, rfl, rfl, hmx, hq, hrow, bel⟩ := hrel
    have HQ := Lib.hid hq
    have HROW := Lib.hid hrow
    clear hq hrow n1 b1
    by_cases h0 : i = 0
    · subst h0
      have hal : acc.length = many := by omega
      have hcv := run_convert_bytes_back (P := Tryz.prog) wr 73 9 5 ⟨w.heap.size, 0, none⟩ many acc undBs undB undS (fun k hk => by
        have e : (⟨w.heap.size, 0, none⟩ : Addr).add k = ⟨w.heap.size, k, none⟩ := by unfold Addr.add; split <;> simp_all
        rw [e, Lib.cell_of_heap HROW.out]
        simp [Lib.byteCells, hk])
      rw [hal] at hcv
      have HAL := Lib.hid hal
      clear hal hi
      go_wp2_with fail
      go_ret
      exact ⟨by rw [HQ.out]; rfl, bel⟩
    · obtain ⟨j, rfl⟩ : ∃ j, i = j + 1 := ⟨i - 1, by omega⟩
      have hcv : ((j + 1 : Nat) : Int) - 1 = (j : Int) := by omega
      rw [hcv]
      have c0 : wr.cell? ⟨w.heap.size, j, none⟩ = some (.int .u8 0) := by
        rw [Lib.cell_of_heap HROW.out]
        simp [List.getElem?_append]
      have f0 := Lib.frozen_of_heap HROW.out j
      have hmb : m % 2 < 10 := by omega
      have HR : Hid ((wr.setCell ⟨w.heap.size, j, none⟩ (.int .u8 (48 + m % 2 : Nat))).heap[w.heap.size]? = some (.cells (List.replicate j (Value.int .u8 0) ++ Lib.byteCells (UInt8.ofNat (48 + m % 2) :: acc)).toArray 5)) := Lib.hid (by
        rw [← dig_set j 2 m acc hmb]
        simp [World.setCell, Array.getElem?_modify, HROW.out])
      have HI := Lib.hid hi
      have hjm : j < many := by omega
      clear hi hcv
      go_wp2_with fail
      have ev : (48 + (m : Int) % 2) = ((48 + m % 2 : Nat) : Int) := by omega
      have ed : (m : Int) / 2 = ((m / 2 : Nat) : Int) := by omega
      rw [ev, ed]
      refine ⟨⟨j, m / 2, UInt8.ofNat (48 + m % 2) :: acc, by have := HI.out; rw [List.length_cons]; omega, rfl, rfl, by omega, ?_, HR.out, bel.setCell (p := ⟨w.heap.size, j, none⟩) (Nat.le_refl _) _⟩, ?_⟩
      · rw [HQ.out]; rfl
      · simp [intOf]
set_option maxHeartbeats 1000000 in
set_option maxRecDepth 100000 in
theorem digits_10 (n many : Nat) (hn : n ≤ 9223372036854775807) (hm : many ≤ 100) (w : World) : Calls Tryz.prog 53 #[.int .i64 n, .int .i64 many, .int .i64 10] w fun e w' =>
    e = .returned (.string ⟨(digL 10 n many []).toArray⟩) ∧ Below w.heap.size w w' := by
  have hm' : (0 : Int) ≤ (many : Int) ∧ (many : Int) ≤ 100 := by omega
  obtain ⟨m1, m2⟩ := hm'
  obtain ⟨i0, hi0, hz0, hz1, hz2⟩ := info_parts infoB
  have hmk := run_makeSlice (P := Tryz.prog) w 73 5 i0 (.int .u8 0) undBs hi0 hz0 .i64 .i64 (many : Int) (many : Int) (by omega) (by omega) (by rw [hz1]; omega) (by rw [hz2]; omega) (by omega)
  rw [Int.toNat_natCast] at hmk
  go_enter Tryz.func53, Tryz.ntmps53
  go_wp2_with fail
  have n1 := heap_alloc_new w (.cells (madeCells #[.int .u8 0] many) 5)
  have b1 := below_box w (.cells (madeCells #[.int .u8 0] many) 5)
  generalize w.alloc (.cells (madeCells #[.int .u8 0] many) 5) = w1 at n1 b1 ⊢
  have hmc : madeCells #[Value.int .u8 0] many = (List.replicate many (Value.int .u8 0) ++ Lib.byteCells []).toArray := by
    apply Array.toList_inj.1
    rw [toList_madeCells_one]
    simp [Lib.byteCells]
  rw [hmc] at n1
  clear hmk hmc
  go_loopw [0, 8] (fun qn qi wr => ∃ (i m : Nat) (acc : Bs), i + acc.length = many ∧ qn = .int .i64 m ∧ qi = .int .i64 ((i : Int) - 1) ∧ m ≤ 9223372036854775807 ∧ digL 10 n many [] = digL 10 m i acc ∧
      wr.heap[w.heap.size]? = some (.cells (List.replicate i (Value.int .u8 0) ++ Lib.byteCells acc).toArray 5) ∧ Below w.heap.size w wr) (fun _ qi _ => (intOf qi + 1).toNat)
  case atStart => exact ⟨many, n, [], rfl, rfl, rfl, hn, rfl, n1, b1⟩
  case round =>
    obtain ⟨i, m, acc, hi, rfl, rfl, hmx, hq, hrow, bel⟩ := hrel
    have HQ := Lib.hid hq
    have HROW := Lib.hid hrow
    clear hq hrow n1 b1
    by_cases h0 : i = 0
    · subst h0
      have hal : acc.length = many := by omega
      have hcv := run_convert_bytes_back (P := Tryz.prog) wr 73 9 5 ⟨w.heap.size, 0, none⟩ many acc undBs undB undS (fun k hk => by
        have e : (⟨w.heap.size, 0, none⟩ : Addr).add k = ⟨w.heap.size, k, none⟩ := by unfold Addr.add; split <;> simp_all
        rw [e, Lib.cell_of_heap HROW.out]
        simp [Lib.byteCells, hk])
      rw [hal] at hcv
      have HAL := Lib.hid hal
      clear hal hi
      go_wp2_with fail
      go_ret
      exact ⟨by rw [HQ.out]; rfl, bel⟩
    · obtain ⟨j, rfl⟩ : ∃ j, i = j + 1 := ⟨i - 1, by omega⟩
      have hcv : ((j + 1 : Nat) : Int) - 1 = (j : Int) := by omega
      rw [hcv]
      have c0 : wr.cell? ⟨w.heap.size, j, none⟩ = some (.int .u8 0) := by
        rw [Lib.cell_of_heap HROW.out]
        simp [List.getElem?_append]
      have f0 := Lib.frozen_of_heap HROW.out j
      have hmb : m % 10 < 10 := by omega
      have HR : Hid ((wr.setCell ⟨w.heap.size, j, none⟩ (.int .u8 (48 + m % 10 : Nat))).heap[w.heap.size]? = some (.cells (List.replicate j (Value.int .u8 0) ++ Lib.byteCells (UInt8.ofNat (48 + m % 10) :: acc)).toArray 5)) := Lib.hid (by
        rw [← dig_set j 10 m acc hmb]
        simp [World.setCell, Array.getElem?_modify, HROW.out])
      have HI := Lib.hid hi
      have hjm : j < many := by omega
      clear hi hcv
      go_wp2_with fail
      have ev : (48 + (m : Int) % 10) = ((48 + m % 10 : Nat) : Int) := by omega
      have ed : (m : Int) / 10 = ((m / 10 : Nat) : Int) := by omega
      rw [ev, ed]
      refine ⟨⟨j, m / 10, UInt8.ofNat (48 + m % 10) :: acc, by have := HI.out; rw [List.length_cons]; omega, rfl, rfl, by omega, ?_, HR.out, bel.setCell (p := ⟨w.heap.size, j, none⟩) (Nat.le_refl _) _⟩, ?_⟩
      · rw [HQ.out]; rfl
      · simp [intOf]
end Go.Proofs.YtafofcenphopbaaGreatDoor
