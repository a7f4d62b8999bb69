/- The reference: digits. -/
import Derived.Test.YtafofcenphopbaaGreatDoorA28
import Derived.Test.YtafofcenphopbaaGreatDoorB2
import Derived.Test.YtafofcenphopbaaGreatDoorA22
import Derived.Laws.Bits64b
import Derived.Test.YtafofcenphopbaaGreatDoorShelf
import Derived.Lib.AppendIntMem
namespace Go.Proofs.YtafofcenphopbaaGreatDoor
open Go.RowKit Lx

set_option maxHeartbeats 4000000 in
set_option maxRecDepth 100000 in
theorem rright_any (k p q : Int) (vary : Bool) (pic : ByteArray) (w : World) : Calls Tryz.prog 54 #[.agg #[.int .i64 k, .int .i64 p, .int .i64 q, .bool vary, .string pic]] w fun e w' =>
    e = .returned (.bool (litT k p q vary pic)) ∧ Below w.heap.size w w' := by
  go_enter Tryz.func54, Tryz.ntmps54
  go_upto_region 1 with fail
  have b1 := below_box w (.cells #[.int .i64 k, .int .i64 p, .int .i64 q, .bool vary, .string pic] 34)
  have n1 := heap_alloc_new w (.cells #[.int .i64 k, .int .i64 p, .int .i64 q, .bool vary, .string pic] 34)
  generalize w.alloc (.cells #[.int .i64 k, .int .i64 p, .int .i64 q, .bool vary, .string pic] 34) = w1 at b1 n1 ⊢
  have p0 : w1.cell? ⟨w.heap.size, 0, none⟩ = some (.int .i64 k) := cell_of_row _ _ 0 _ _ _ n1
  have p1 : w1.cell? ⟨w.heap.size, 1, none⟩ = some (.int .i64 p) := cell_of_row _ _ 1 _ _ _ n1
  have p2 : w1.cell? ⟨w.heap.size, 2, none⟩ = some (.int .i64 q) := cell_of_row _ _ 2 _ _ _ n1
  have p3 : w1.cell? ⟨w.heap.size, 3, none⟩ = some (.bool vary) := cell_of_row _ _ 3 _ _ _ n1
  have p4 : w1.cell? ⟨w.heap.size, 4, none⟩ = some (.string pic) := cell_of_row _ _ 4 _ _ _ n1
  clear n1
  have hpe : ∀ x : ByteArray, (x.toList = []) ↔ x = ⟨#[]⟩ := by
    intro x; rw [ByteArray.toList_eq]; obtain ⟨⟨l⟩⟩ := x; simp
  go_wp2_with fail
  all_goals (go_ret; refine ⟨?_, b1⟩; clear p0 p1 p2 p3 p4 b1; (simp_all [litT, plainT]; try omega))
end Go.Proofs.YtafofcenphopbaaGreatDoor
namespace Go.Proofs.YtafofcenphopbaaGreatDoor
open Go.RowKit Lx

theorem digL_top (b : Nat) : ∀ (m n : Nat) (acc : Bs), digL b n (m + 1) acc = UInt8.ofNat (48 + n / b ^ m % b) :: digL b n m acc := by
  intro m
  induction m with
  | zero => intro n acc; simp [digL]
  | succ m ih =>
    intro n acc
    rw [digL, ih, digL, Nat.div_div_eq_div_mul, Nat.pow_succ, Nat.mul_comm b]
set_option maxHeartbeats 1000000 in
theorem pow2_any (w : World) : Calls Tryz.prog 157 #[.int .i64 2] w fun e w' => e = .returned (.bool true) ∧ w' = w := by
  go_enter Tryz.func157, Tryz.ntmps157
  go_wp2_with fail
  go_ret
  exact ⟨by first | rfl | (congr 1) | simp, rfl⟩
set_option maxHeartbeats 1000000 in
theorem tz64_any (w : World) (hT : w.cell? ⟨5, 1, none⟩ = some (.int .u8 1)) : Calls Tryz.prog 164 #[.int .u64 2] w fun e w' => e = .returned (.int .i64 1) ∧ w' = w := by
  have key : IntKind.u64.wrap (bits BinOp.and IntKind.u64 2 (IntKind.u64.wrap (-2)) * 285870213051353865) / 288230376151711744 = 1 := by decide +kernel
  go_enter Tryz.func164, Tryz.ntmps164
  go_wp2_with (simp only [key])
  go_ret
  exact ⟨rfl, rfl⟩
set_option maxHeartbeats 1000000 in
theorem tz_any (w : World) (hT : w.cell? ⟨5, 1, none⟩ = some (.int .u8 1)) : Calls Tryz.prog 158 #[.int .u64 2] w fun e w' => e = .returned (.int .i64 1) ∧ w' = w := by
  go_enter Tryz.func158, Tryz.ntmps158
  go_wp2_with fail
  refine (tz64_any _ hT).mono ?_
  rintro e w' ⟨rfl, rfl⟩
  go_wp2_with fail
  go_ret
  exact ⟨rfl, rfl⟩
theorem digL_lenD (b : Nat) : ∀ (m n : Nat) (acc : Bs), (digL b n m acc).length = m + acc.length := by
  intro m
  induction m with
  | zero => intro n acc; simp [digL]
  | succ m ih => intro n acc; rw [digL, ih]; simp; omega
theorem bits1 (u : Nat) (hu : u < 9223372036854775808) : bits BinOp.and IntKind.u64 (u : Int) 1 = ((u % 2 : Nat) : Int) := by
  rw [show (1 : Int) = ((1 : Nat) : Int) from rfl, bits_and_u64_nat u 1 (by omega) (by omega), Nat.and_one_is_mod]
theorem dig_set2 (j d : Nat) (acc : Bs) (hd : d < 10) : (List.replicate (j + 1) (Value.int .u8 0) ++ Lib.byteCells acc).toArray.setIfInBounds j (.int .u8 (48 + d : Nat)) = (List.replicate j (Value.int .u8 0) ++ Lib.byteCells (UInt8.ofNat (48 + d) :: acc)).toArray := by
  have := dig_set j 10 d acc (by omega)
  rwa [Nat.mod_eq_of_lt hd] at this
theorem sl65 (W : World) (b j : Nat) (hj : j ≤ 64) : (Instr.sliceAt 175 (.pointer (some ⟨b, 0, none⟩)) (some (.int .i64 (j : Int))) none none).run Tryz.prog W = .ok (.slice (some ⟨b, j, none⟩) (65 - j) (65 - j)) W := by
  have ht : Tryz.prog.underlying 175 = some (.array (Tryz.prog.arrayLen 175) (Tryz.prog.elem 175)) := by kernel_rfl
  have hl : Tryz.prog.arrayLen 175 = 65 := by kernel_rfl
  have he : Tryz.prog.elem 175 = 5 := by kernel_rfl
  rw [run_sliceAt_array_l (P := Tryz.prog) (w := W) 175 ⟨b, 0, none⟩ ht .i64 (j : Int) (by omega) (by rw [hl]; omega), hl, he, Tryz.sizeOf5]
  simp [slicedAt, Addr.add, go_sem]
  rw [if_neg (by omega)]
  split
  · next h => rw [h]
  · rfl
set_option maxHeartbeats 4000000 in
set_option maxRecDepth 100000 in
theorem fbits_any (n : Nat) (hn : n < 9223372036854775808) (w : World) (hT : w.cell? ⟨5, 1, none⟩ = some (.int .u8 1)) : Calls Tryz.prog 136 #[.slice none 0 0, .int .u64 n, .int .i64 2, .bool false, .bool false] w fun e w' =>
    ∃ k, 1 ≤ k ∧ k ≤ 65 ∧ n < 2 ^ k ∧ (k = 1 ∨ 2 ^ (k - 1) ≤ n) ∧ e = .returned (.tuple #[.slice none 0 0, .string ⟨(digL 2 n k []).toArray⟩]) ∧ Below w.heap.size w w' := by
  have hTl : 5 < w.heap.size := by
    rcases Nat.lt_or_ge 5 w.heap.size with h | h
    · exact h
    · exfalso; simp [World.cell?, Array.getElem?_eq_none h] at hT
  go_enter Tryz.func136, Tryz.ntmps136
  go_wp2_with fail
  refine (pow2_any _).mono ?_
  rintro e w' ⟨rfl, rfl⟩
  have hz : Tryz.zeroCells175 = (List.replicate 65 (Value.int .u8 0) ++ Lib.byteCells []).toArray := by rfl
  have n1 := heap_alloc_new w (.cells Tryz.zeroCells175 175)
  have b1 := below_box w (.cells Tryz.zeroCells175 175)
  generalize w.alloc (.cells Tryz.zeroCells175 175) = w1 at n1 b1 ⊢
  rw [hz] at n1
  have hT1 : w1.cell? ⟨5, 1, none⟩ = some (.int .u8 1) := (b1.cell (p := ⟨5, 1, none⟩) hTl).trans hT
  go_wp2_with fail
  refine (tz_any _ hT1).mono ?_
  rintro e w' ⟨rfl, rfl⟩
  go_wp2_with fail
  go_loopw [1, 13] (fun qu qi wr => ∃ (k u j : Nat), n / 2 ^ k = u ∧ j + 1 + k = 65 ∧ (k = 0 ∨ 2 ^ k ≤ n) ∧ qu = .int .u64 u ∧ qi = .int .i64 ((j : Int) + 1) ∧
      wr.heap[w.heap.size]? = some (.cells (List.replicate (j + 1) (Value.int .u8 0) ++ Lib.byteCells (digL 2 n k [])).toArray 175) ∧ Below w.heap.size w wr) (fun qu _ _ => (intOf qu).toNat)
  case atStart => exact ⟨0, n, 64, by simp, rfl, .inl rfl, rfl, rfl, n1, b1⟩
  case round =>
    obtain ⟨k, u, j, hu, hj, hk, rfl, rfl, hrow, bel⟩ := hrel
    have HROW := Lib.hid hrow
    clear hrow n1 b1
    have hul : u ≤ n := by rw [← hu]; exact Nat.div_le_self _ _
    have f0 := Lib.frozen_of_heap HROW.out j
    have c0 : wr.cell? ⟨w.heap.size, j, none⟩ = some (.int .u8 0) := by
      rw [Lib.cell_of_heap HROW.out]
      simp [List.getElem?_append]
    by_cases h2 : 2 ≤ u
    · have hb1 := bits1 u (by omega)
      rcases Nat.mod_two_eq_zero_or_one u with h0 | h0
      all_goals
        rw [h0] at hb1
        have HR : Hid ((wr.setCell ⟨w.heap.size, j, none⟩ (.int .u8 (48 + u % 2 : Nat))).heap[w.heap.size]? = some (.cells (List.replicate j (Value.int .u8 0) ++ Lib.byteCells (digL 2 n (k + 1) [])).toArray 175)) := Lib.hid (by
          rw [digL_top, hu, ← dig_set2 j (u % 2) _ (by omega)]
          simp [World.setCell, Array.getElem?_modify, HROW.out])
        rw [h0] at HR

        go_wp2_with (simp only [hb1])
        have hk2 : 2 ^ (k + 1) ≤ n := by
          have := Nat.div_mul_le_self n (2 ^ k)
          rw [hu] at this
          have h3 : 2 * 2 ^ k ≤ u * 2 ^ k := Nat.mul_le_mul_right _ h2
          rw [Nat.pow_succ]; omega
        have hk3 : k + 1 < 63 := (Nat.pow_lt_pow_iff_right (a := 2) (by omega)).1 (Nat.lt_of_le_of_lt hk2 hn)
        have e1 : j - 1 + 1 = j := by omega
        have e2 : ((j - 1 : Nat) : Int) + 1 = (j : Int) := by omega
        refine ⟨⟨k + 1, u / 2, j - 1, by rw [Nat.pow_succ, ← Nat.div_div_eq_div_mul, hu], by omega, .inr hk2, rfl, by rw [e2], by rw [e1]; exact HR.out, bel.setCell (p := ⟨w.heap.size, j, none⟩) (Nat.le_refl _) _⟩, ?_⟩
        simp only [intOf]
        omega
    · have hj64 : j ≤ 64 := by omega
      have HJ := Lib.hid hj
      clear hj
      have hu2 : u = 0 ∨ u = 1 := by omega
      have hcv : ∀ V, V = Value.int .u8 (48 + u : Nat) → (convert 73 9 (.slice (some ⟨w.heap.size, j, none⟩) (65 - j) (65 - j))).run Tryz.prog (wr.setCell ⟨w.heap.size, j, none⟩ V) = .ok (.string ⟨(digL 2 n (k + 1) []).toArray⟩) (wr.setCell ⟨w.heap.size, j, none⟩ V) := by
        rintro V rfl
        have hm : u % 2 = u := by omega
        have hr : (wr.setCell ⟨w.heap.size, j, none⟩ (.int .u8 (48 + u : Nat))).heap[w.heap.size]? = some (.cells (List.replicate j (Value.int .u8 0) ++ Lib.byteCells (digL 2 n (k + 1) [])).toArray 175) := by
          rw [digL_top, hu, hm, ← dig_set2 j u _ (by omega)]
          simp [World.setCell, Array.getElem?_modify, HROW.out]
        have hlen : (digL 2 n (k + 1) []).length = 65 - j := by
          have := HJ.out
          have e := digL_lenD 2 (k + 1) n []
          simp at e; omega
        have := run_convert_bytes_back (P := Tryz.prog) (wr.setCell ⟨w.heap.size, j, none⟩ (.int .u8 (48 + u : Nat))) 73 9 5 ⟨w.heap.size, j, none⟩ (65 - j) (digL 2 n (k + 1) []) undBs undB undS (fun i hi => by
          have e : (⟨w.heap.size, j, none⟩ : Addr).add i = ⟨w.heap.size, j + i, none⟩ := by unfold Addr.add; split <;> simp_all
          rw [e, Lib.cell_of_heap hr]
          simp [Lib.byteCells, hi])
        rwa [hlen] at this
      rcases hu2 with rfl | rfl
      all_goals
        go_wp2_with (simp only [sl65 _ _ _ hj64])
        rw [hcv]
        rotate_left
        · rfl
        have hrw := Lib.hid hcv
        clear hcv
        go_wp2_with fail
        refine bodyPost_ret (v := .tuple #[.slice none 0 0, .string ⟨(digL 2 n (k + 1) []).toArray⟩]) (by simp [results, Tryz.results136, go_sem]) rfl ?_
        refine ⟨k + 1, by omega, by have := HJ.out; omega, ?_, ?_, rfl, bel.setCell (p := ⟨w.heap.size, j, none⟩) (Nat.le_refl _) _⟩
        · have := Nat.lt_mul_div_succ n (Nat.pow_pos (n := k) (show 0 < 2 by omega))
          rw [hu] at this
          rw [Nat.pow_succ]; omega
        · rcases hk with rfl | hk
          · exact .inl rfl
          · exact .inr (by simpa using hk)
/-- What FormatInt gives: the digits of n in base b, none ahead that is not needed. -/
def NumIs (b n k : Nat) : Prop := 1 ≤ k ∧ k ≤ 65 ∧ n < b ^ k ∧ (k = 1 ∨ b ^ (k - 1) ≤ n)
set_option maxHeartbeats 4000000 in
set_option maxRecDepth 100000 in
theorem ifmt2_any (n : Nat) (hn : n < 9223372036854775808) (w : World) (hT : w.cell? ⟨5, 1, none⟩ = some (.int .u8 1)) : Calls Tryz.prog 108 #[.int .i64 n, .int .i64 2] w fun e w' =>
    ∃ k, NumIs 2 n k ∧ e = .returned (.string ⟨(digL 2 n k []).toArray⟩) ∧ Below w.heap.size w w' := by
  go_enter Tryz.func108, Tryz.ntmps108
  go_wp2_with fail
  refine (fbits_any n hn _ hT).mono ?_
  rintro e w' ⟨k, h1, h2, h3, h4, rfl, hb⟩
  go_wp2_with fail
  go_ret
  exact ⟨k, ⟨h1, h2, h3, h4⟩, rfl, hb⟩
set_option maxHeartbeats 4000000 in
set_option maxRecDepth 100000 in
theorem fmt2_any (n : Nat) (hn : n < 9223372036854775808) (w : World) (hT : w.cell? ⟨5, 1, none⟩ = some (.int .u8 1)) : Calls Tryz.prog 89 #[.int .i64 n, .int .i64 2] w fun e w' =>
    ∃ k, NumIs 2 n k ∧ e = .returned (.string ⟨(digL 2 n k []).toArray⟩) ∧ Below w.heap.size w w' := by
  go_enter Tryz.func89, Tryz.ntmps89
  go_wp2_with fail
  refine (ifmt2_any n hn _ hT).mono ?_
  rintro e w' ⟨k, hk, rfl, hb⟩
  go_wp2_with fail
  go_ret
  exact ⟨k, hk, rfl, hb⟩
end Go.Proofs.YtafofcenphopbaaGreatDoor
namespace Go.Proofs.YtafofcenphopbaaGreatDoor
open Go.RowKit Lx

theorem dec_digL : ∀ u : Nat, ∃ k, 1 ≤ k ∧ u < 10 ^ k ∧ (k = 1 ∨ 10 ^ (k - 1) ≤ u) ∧ ∀ acc, Lib.decDigits u ++ acc = digL 10 u k acc := by
  intro u
  induction u using Nat.strongRecOn with
  | _ u ih =>
    by_cases h : u < 10
    · refine ⟨1, Nat.le_refl _, by omega, .inl rfl, fun acc => ?_⟩
      rw [Lib.decDigits_one h]
      simp [digL, Nat.mod_eq_of_lt h]
    · obtain ⟨k, h1, h2, h3, h4⟩ := ih (u / 10) (by omega)
      refine ⟨k + 1, by omega, by rw [Nat.pow_succ]; omega, .inr ?_, fun acc => ?_⟩
      · rw [Nat.add_sub_cancel]
        rcases h3 with rfl | h3
        · simp; omega
        · obtain ⟨j, rfl⟩ : ∃ j, k = j + 1 := ⟨k - 1, by omega⟩
          rw [Nat.add_sub_cancel] at h3
          rw [Nat.pow_succ]; omega
      · rw [Lib.decDigits, dif_neg h, digL, ← h4]
        simp
theorem fmt10_any (n : Nat) (hn : n < 9223372036854775808) (w : World) (htab : Lib.TabIs Tryz.prog w "internal/strconv.uint64pow10" .u64 Lib.pow10Tab) : Calls Tryz.prog 89 #[.int .i64 n, .int .i64 10] w fun e w' =>
    ∃ k, NumIs 10 n k ∧ e = .returned (.string ⟨(digL 10 n k []).toArray⟩) ∧ Below w.heap.size w w' := by
  refine (Tryz.strconv_FormatInt_10 n (by omega) (by omega) w htab).mono ?_
  rintro e w' ⟨rfl, q, os, rfl⟩
  obtain ⟨k, h1, h2, h3, h4⟩ := dec_digL n
  refine ⟨k, ⟨h1, ?_, h2, h3⟩, ?_, Lib.below_grow _ _ (Nat.le_refl _) _ _⟩
  · rcases h3 with rfl | h3
    · omega
    · have : 10 ^ (k - 1) < 10 ^ 19 := by omega
      have := (Nat.pow_lt_pow_iff_right (a := 10) (by omega)).1 this
      omega
  · rw [← h4, Lib.itoa_nonneg, List.append_nil]
theorem digL_pad {b n k : Nat} (h : n < b ^ k) : digL b n (k + 1) [] = 48 :: digL b n k [] := by
  rw [digL_top, Nat.div_eq_of_lt h]; simp
/-- The tables that FormatInt reads. -/
def NT (w : World) : Prop := 5 < w.heap.size ∧ w.cell? ⟨5, 1, none⟩ = some (.int .u8 1) ∧ Lib.TabIs Tryz.prog w "internal/strconv.uint64pow10" .u64 Lib.pow10Tab
set_option maxHeartbeats 4000000 in
set_option maxRecDepth 100000 in
theorem rdig_any (b n many : Nat) (hb : b = 2 ∨ b = 10) (hn : n < 9223372036854775808) (hm : many ≤ 100) (h1 : 1 ≤ many) (hnm : n < b ^ many) (w : World) (hT : NT w) : Calls Tryz.prog 55 #[.int .i64 n, .int .i64 b, .int .i64 many] w fun e w' =>
    e = .returned (.string ⟨(digL b n many []).toArray⟩) ∧ Below w.heap.size w w' := by
  have hfm : Hid (∀ W, NT W → Calls Tryz.prog 89 #[.int .i64 n, .int .i64 b] W fun e w' =>
      ∃ k, NumIs b n k ∧ e = .returned (.string ⟨(digL b n k []).toArray⟩) ∧ Below W.heap.size W w') := Lib.hid (by
    intro W hW
    rcases hb with rfl | rfl
    · exact fmt2_any n hn W hW.2.1
    · exact fmt10_any n hn W hW.2.2)
  go_enter Tryz.func55, Tryz.ntmps55
  go_wp2_with fail
  refine (hfm.out _ hT).mono ?_
  rintro e w1 ⟨k, ⟨k1, k2, k3, k4⟩, rfl, hb1⟩
  have hkm : k ≤ many := by
    rcases k4 with rfl | k4
    · omega
    · have := Nat.lt_of_le_of_lt k4 hnm
      have := (Nat.pow_lt_pow_iff_right (a := b) (by omega)).1 this
      omega
  go_wp2_with fail
  go_loopw [7] (fun q wr => wr = w1 ∧ ∃ j : Nat, k ≤ j ∧ j ≤ many ∧ q = .string ⟨(digL b n j []).toArray⟩) (fun q _ => many - (match q with | .string s => s.size | _ => 0))
  case atStart => exact ⟨rfl, k, Nat.le_refl _, hkm, rfl⟩
  case round =>
    obtain ⟨rfl, j, j1, j2, rfl⟩ := hrel
    have hs : (⟨(digL b n j []).toArray⟩ : ByteArray).size = j := by
      show (digL b n j []).toArray.size = j
      simp [digL_lenD]
    have hlt : n < b ^ j := Nat.lt_of_lt_of_le k3 (Nat.pow_le_pow_right (by omega) j1)
    have hp := digL_pad hlt
    by_cases hj : j < many
    · go_wp2_with fail
      have e48 : (⟨#[48]⟩ : ByteArray) ++ ⟨(digL b n j []).toArray⟩ = ⟨(digL b n (j + 1) []).toArray⟩ := by
        rw [hp]
        apply ByteArray.ext
        apply Array.toList_inj.1
        simp
      have hs2 : (⟨(digL b n (j + 1) []).toArray⟩ : ByteArray).size = j + 1 := by
        show (digL b n (j + 1) []).toArray.size = j + 1
        simp [digL_lenD]
      refine ⟨⟨trivial, j + 1, by omega, by omega, by rw [e48]⟩, ?_⟩
      simp only [e48, hs, hs2]
      omega
    · have hjm : j = many := by omega
      subst hjm
      go_wp2_with fail
      go_ret
      exact ⟨rfl, hb1⟩
end Go.Proofs.YtafofcenphopbaaGreatDoor
