/- The reference: spell, Spell. -/
import Derived.Test.YtafofcenphopbaaGreatDoorB5
import Derived.IntWalk
namespace Go.Proofs.YtafofcenphopbaaGreatDoor
open Go.RowKit Lx

theorem allI_bits (s : ByteArray) : allI (fun c => decide (48 ≤ c) && decide (c ≤ 49)) s = allI bitI s := by
  unfold allI
  congr 1
  funext c
  unfold bitI
  rw [Bool.eq_iff_iff]; simp; omega
theorem of_bits (s : ByteArray) (hs : s.size ≤ 140737488351232) (b : Bool) (hb : allI bitI s = b) (w : World) : Calls Tryz.prog 79 #[.string s, .int .u8 48, .int .u8 49] w fun e w' => e = .returned (.bool b) ∧ w' = w := by
  have h := of_any s 48 49 (by decide) (by decide) hs w
  rw [allI_bits, hb] at h
  exact h
theorem of_shown (s : ByteArray) (hs : s.size ≤ 140737488351232) (b : Bool) (hb : allI shownI s = b) (w : World) : Calls Tryz.prog 79 #[.string s, .int .u8 32, .int .u8 126] w fun e w' => e = .returned (.bool b) ∧ w' = w := by
  have h := of_any s 32 126 (by decide) (by decide) hs w
  rw [show allI (fun c => decide (32 ≤ c) && decide (c ≤ 126)) s = allI shownI s from rfl, hb] at h
  exact h
theorem memB_take (t : ByteArray) (k : Nat) (h : k < opList.length) : memB t (opList.take (k + 1)) = (memB t (opList.take k) || decide (opList[k] = t)) := by
  rw [List.take_succ_eq_append_getElem h]
  unfold memB
  rw [List.any_append]
  simp
set_option maxHeartbeats 1000000 in
set_option maxRecDepth 100000 in
theorem rCheck_1 (t : ByteArray) (a : Int) (hs : t.size ≤ 1000000) (w : World) : Calls Tryz.prog 38 #[.agg #[.int .i64 1, .string t, .int .i64 a]] w fun e w' => e = .returned (.int .i64 (errIf (checkI 1 t))) ∧ Below w.heap.size w w' := by
  have hq := fun W => rIsName_any t hs W
  have HQ := Lib.hid hq
  clear hq
  have hf : errIf (checkI 1 t) = errIf (isNameI t) := rfl
  rw [hf]
  clear hf
  cases hv : isNameI t
  all_goals (
    rw [hv] at HQ
    clear hv
    go_enter Tryz.func38, Tryz.ntmps38
    go_wp2_with fail
    refine (HQ.out _).mono ?_
    rintro e w' ⟨rfl, hb0⟩
    have hb := below_box_then _ _ _ hb0
    have k0 := cell_after_box (j := 0) hb0 rfl
    have k1 := cell_after_box (j := 1) hb0 rfl
    go_wp2_with fail
    go_ret
    exact ⟨rfl, hb⟩)
set_option maxHeartbeats 1000000 in
set_option maxRecDepth 100000 in
theorem rCheck_2 (t : ByteArray) (a : Int) (hs : t.size ≤ 1000000) (w : World) : Calls Tryz.prog 38 #[.agg #[.int .i64 2, .string t, .int .i64 a]] w fun e w' => e = .returned (.int .i64 (errIf (checkI 2 t))) ∧ Below w.heap.size w w' := by
  have hq := fun W => rNumber_any t hs W
  have hf : errIf (checkI 2 t) = errIf (numR t).2.2 := rfl
  rw [hf]
  clear hf
  generalize numR t = r at hq ⊢
  obtain ⟨d, b, v⟩ := r
  have hq : ∀ W, Calls Tryz.prog 50 #[.string t] W fun e w' => e = .returned (.tuple #[.int .i64 d, .int .i64 b, .bool v]) ∧ w' = W := hq
  have HQ := Lib.hid hq
  clear hq
  cases v
  all_goals (
    go_enter Tryz.func38, Tryz.ntmps38
    go_wp2_with (go_at_call 50; refine (HQ.out _).mono ?_; rintro e w' ⟨rfl, hw⟩; rw [hw]; clear hw)
    go_ret
    exact ⟨rfl, below_box _ _⟩)
set_option maxHeartbeats 1000000 in
set_option maxRecDepth 100000 in
theorem rCheck_3 (t : ByteArray) (a : Int) (hs : t.size ≤ 1000000) (w : World) : Calls Tryz.prog 38 #[.agg #[.int .i64 3, .string t, .int .i64 a]] w fun e w' => e = .returned (.int .i64 (errIf (checkI 3 t))) ∧ Below w.heap.size w w' := by
  have hf : errIf (checkI 3 t) = errIf (decide (1 ≤ t.size) && decide (t.size ≤ 31) && allI bitI t) := rfl
  rw [hf]
  clear hf
  by_cases h0 : t.size < 1
  · have e : errIf (decide (1 ≤ t.size) && decide (t.size ≤ 31) && allI bitI t) = 50 := by rw [decide_eq_false (show ¬ 1 ≤ t.size by omega)]; rfl
    rw [e]
    clear e
    have h0z : ¬ (1 : Int) ≤ (t.size : Int) := by omega
    go_enter Tryz.func38, Tryz.ntmps38
    go_wp2_with fail
    go_ret
    exact ⟨rfl, below_box _ _⟩
  have h0z : (1 : Int) ≤ (t.size : Int) := by omega
  by_cases h1 : 31 < t.size
  · have e : errIf (decide (1 ≤ t.size) && decide (t.size ≤ 31) && allI bitI t) = 50 := by rw [decide_eq_false (show ¬ t.size ≤ 31 by omega)]; simp [errIf]
    rw [e]
    clear e
    have h1z : ¬ (t.size : Int) ≤ (31 : Int) := by omega
    go_enter Tryz.func38, Tryz.ntmps38
    go_wp2_with fail
    go_ret
    exact ⟨rfl, below_box _ _⟩
  have h1z : (t.size : Int) ≤ (31 : Int) := by omega
  have hq := fun b hb W => of_bits t (by omega) b hb W
  have HQ := Lib.hid hq
  clear hq
  have e : errIf (decide (1 ≤ t.size) && decide (t.size ≤ 31) && allI bitI t) = errIf (allI bitI t) := by simp [show t.size ≤ 31 by omega, show 1 ≤ t.size by omega]
  rw [e]
  clear e
  cases hv : allI bitI t
  all_goals (
    have HV := Lib.hid (HQ.out _ hv)
    clear hv
    go_enter Tryz.func38, Tryz.ntmps38
    go_wp2_with (go_at_call 79; refine (HV.out _).mono ?_; rintro e w' ⟨rfl, hw⟩; rw [hw]; clear hw)
    go_ret
    exact ⟨rfl, below_box _ _⟩)
set_option maxHeartbeats 1000000 in
set_option maxRecDepth 100000 in
theorem rCheck_4 (t : ByteArray) (a : Int) (hs : t.size ≤ 1000000) (w : World) : Calls Tryz.prog 38 #[.agg #[.int .i64 4, .string t, .int .i64 a]] w fun e w' => e = .returned (.int .i64 (errIf (checkI 4 t))) ∧ Below w.heap.size w w' := by
  have hf : errIf (checkI 4 t) = errIf (decide (t.size ≤ 255) && allI shownI t) := rfl
  rw [hf]
  clear hf
  by_cases h1 : 255 < t.size
  · have e : errIf (decide (t.size ≤ 255) && allI shownI t) = 50 := by rw [decide_eq_false (show ¬ t.size ≤ 255 by omega)]; simp [errIf]
    rw [e]
    clear e
    have h1z : ¬ (t.size : Int) ≤ (255 : Int) := by omega
    go_enter Tryz.func38, Tryz.ntmps38
    go_wp2_with fail
    go_ret
    exact ⟨rfl, below_box _ _⟩
  have h1z : (t.size : Int) ≤ (255 : Int) := by omega
  have hq := fun b hb W => of_shown t (by omega) b hb W
  have HQ := Lib.hid hq
  clear hq
  have e : errIf (decide (t.size ≤ 255) && allI shownI t) = errIf (allI shownI t) := by simp [show t.size ≤ 255 by omega]
  rw [e]
  clear e
  cases hv : allI shownI t
  all_goals (
    have HV := Lib.hid (HQ.out _ hv)
    clear hv
    go_enter Tryz.func38, Tryz.ntmps38
    go_wp2_with (go_at_call 79; refine (HV.out _).mono ?_; rintro e w' ⟨rfl, hw⟩; rw [hw]; clear hw)
    go_ret
    exact ⟨rfl, below_box _ _⟩)
set_option maxHeartbeats 1000000 in
set_option maxRecDepth 100000 in
theorem rCheck_5 (t : ByteArray) (a : Int) (hs : t.size ≤ 1000000) (w : World) : Calls Tryz.prog 38 #[.agg #[.int .i64 5, .string t, .int .i64 a]] w fun e w' => e = .returned (.int .i64 (errIf (checkI 5 t))) ∧ Below w.heap.size w w' := by
  have hf : errIf (checkI 5 t) = errIf (decide (t.size ≤ 64) && allI bitI t) := rfl
  rw [hf]
  clear hf
  by_cases h1 : 64 < t.size
  · have e : errIf (decide (t.size ≤ 64) && allI bitI t) = 50 := by rw [decide_eq_false (show ¬ t.size ≤ 64 by omega)]; simp [errIf]
    rw [e]
    clear e
    have h1z : ¬ (t.size : Int) ≤ (64 : Int) := by omega
    go_enter Tryz.func38, Tryz.ntmps38
    go_wp2_with fail
    go_ret
    exact ⟨rfl, below_box _ _⟩
  have h1z : (t.size : Int) ≤ (64 : Int) := by omega
  have hq := fun b hb W => of_bits t (by omega) b hb W
  have HQ := Lib.hid hq
  clear hq
  have e : errIf (decide (t.size ≤ 64) && allI bitI t) = errIf (allI bitI t) := by simp [show t.size ≤ 64 by omega]
  rw [e]
  clear e
  cases hv : allI bitI t
  all_goals (
    have HV := Lib.hid (HQ.out _ hv)
    clear hv
    go_enter Tryz.func38, Tryz.ntmps38
    go_wp2_with (go_at_call 79; refine (HV.out _).mono ?_; rintro e w' ⟨rfl, hw⟩; rw [hw]; clear hw)
    go_ret
    exact ⟨rfl, below_box _ _⟩)
set_option maxHeartbeats 1000000 in
set_option maxRecDepth 100000 in
theorem rCheck_6 (t : ByteArray) (a : Int) (_hs : t.size ≤ 1000000) (w : World) : Calls Tryz.prog 38 #[.agg #[.int .i64 6, .string t, .int .i64 a]] w fun e w' => e = .returned (.int .i64 (errIf (checkI 6 t))) ∧ Below w.heap.size w w' := by
  have hf : errIf (checkI 6 t) = errIf (memB t opList) := by rw [memB_ops]; rfl
  rw [hf]
  clear hf
  have hlen : opList.length = 24 := rfl
  have htk : ∀ k (h : k < opList.length), memB t (opList.take (k + 1)) = (memB t (opList.take k) || decide (opList[k] = t)) := memB_take t
  have hall : memB t (opList.take 24) = memB t opList := rfl
  have hnl : memB t (opList.take 0) = false := rfl
  have hcell : ∀ (w : World) k (h : k < opList.length), (w.alloc (.cells (opList.map Value.string).toArray 9)).cell? ⟨w.heap.size, k, none⟩ = some (.string opList[k]) := by
    intro w k h
    rw [cell_box]; simp [h]
  have hop := fun W => roperators_any W
  generalize opList = L at hlen htk hall hnl hcell hop ⊢
  have HOP := Lib.hid hop
  have HC := Lib.hid hcell
  have HTK := Lib.hid htk
  have HALL := Lib.hid hall
  have HNL := Lib.hid hnl
  clear htk hall hnl hcell hop
  go_enter Tryz.func38, Tryz.ntmps38
  go_wp2_with fail
  have b1 := below_box w (.cells #[.int .i64 6, .string t, .int .i64 a] 24)
  have c1 := cell_box w #[.int .i64 6, .string t, .int .i64 a] 24 1
  have z1 : w.heap.size < (w.alloc (.cells #[.int .i64 6, .string t, .int .i64 a] 24)).heap.size := by simp
  generalize w.alloc (.cells #[.int .i64 6, .string t, .int .i64 a] 24) = w1 at b1 c1 z1 ⊢
  refine (HOP.out _).mono ?_
  rintro e w2 ⟨rfl, hw2⟩
  have c2 := HC.out w1
  have b2 := below_box w1 (.cells (L.map Value.string).toArray 9)
  rw [← hw2] at c2 b2
  clear hw2
  have c3 : w2.cell? ⟨w.heap.size, 1, none⟩ = some (.string t) := (b2.cell (p := ⟨w.heap.size, 1, none⟩) z1).trans c1
  have bb := b1.trans (b2.mono b1.size)
  generalize w1.heap.size = B at c2 ⊢
  have C2 := Lib.hid c2
  clear c1 c2 b1 b2 z1 HOP HC
  go_wp2_with fail
  go_loopw [3, 5] (fun ok i wr => ∃ k : Nat, ∃ b : Bool, k ≤ 24 ∧ i = .int .i64 k ∧ ok = .bool b ∧ b = memB t (L.take k) ∧ ∃ q, wr = w2.drewN q) (fun _ i _ => 24 - (intOf i).toNat)
  case atStart => exact ⟨0, false, Nat.zero_le _, rfl, rfl, HNL.out.symm, 0, rfl⟩
  case round =>
    obtain ⟨k, b, hk, rfl, rfl, hb, q, rfl⟩ := hrel
    by_cases hlt : k < 24
    · have hl : k < L.length := by omega
      have hst := HTK.out k hl
      have hx := C2.out k hl
      generalize L[k] = x at hst hx
      have hz : (k : Int) < 24 := by omega
      have hz0 : (0 : Int) ≤ (k : Int) := by omega
      cases b with
      | true =>
        rw [← hb, Bool.true_or] at hst
        have HST := Lib.hid hst
        clear hst hb hx
        go_wp2_with fail
        go_quiet (fail)
        go_wp2_with fail
        go_roundw
        case rel => exact ⟨k + 1, true, hlt, by go_num, rfl, HST.out.symm, _, rfl⟩
        case measure => simp [intOf]; omega
      | false =>
        rw [← hb, Bool.false_or, ← beq_toList] at hst
        have HST := Lib.hid hst
        clear hst hb
        go_wp2_with fail
        go_quiet (fail)
        go_wp2_with fail
        go_roundw
        case rel => exact ⟨k + 1, _, hlt, by go_num, rfl, HST.out.symm, _, rfl⟩
        case measure => simp [intOf]; omega
    · obtain rfl : k = 24 := by omega
      rw [HALL.out] at hb
      cases b
      all_goals (
        have HB := Lib.hid hb
        clear hb
        go_wp2_with fail
        go_ret
        exact ⟨ret_int (by rw [← HB.out]; rfl), below_drewN bb q⟩)
set_option maxHeartbeats 1000000 in
set_option maxRecDepth 100000 in
theorem rCheck_any (k : Int) (t : ByteArray) (a : Int) (hs : t.size ≤ 1000000) (w : World) : Calls Tryz.prog 38 #[.agg #[.int .i64 k, .string t, .int .i64 a]] w fun e w' => e = .returned (.int .i64 (errIf (checkI k t))) ∧ Below w.heap.size w w' := by
  by_cases h1 : k = 1
  · subst h1; exact rCheck_1 t a hs w
  by_cases h2 : k = 2
  · subst h2; exact rCheck_2 t a hs w
  by_cases h3 : k = 3
  · subst h3; exact rCheck_3 t a hs w
  by_cases h4 : k = 4
  · subst h4; exact rCheck_4 t a hs w
  by_cases h5 : k = 5
  · subst h5; exact rCheck_5 t a hs w
  by_cases h6 : k = 6
  · subst h6; exact rCheck_6 t a hs w
  · have e1 : (k == 1) = false := by simpa using h1
    have e2 : (k == 2) = false := by simpa using h2
    have e3 : (k == 3) = false := by simpa using h3
    have e4 : (k == 4) = false := by simpa using h4
    have e5 : (k == 5) = false := by simpa using h5
    have e6 : (k == 6) = false := by simpa using h6
    have hf : errIf (checkI k t) = 50 := by unfold checkI; simp [*]; rfl
    have HF := Lib.hid hf
    clear hf h1 h2 h3 h4 h5 h6
    go_enter Tryz.func38, Tryz.ntmps38
    go_wp2
    go_ret
    exact ⟨ret_int HF.out.symm, below_box _ _⟩
end Go.Proofs.YtafofcenphopbaaGreatDoor
namespace Go.Proofs.YtafofcenphopbaaGreatDoor
open Go.RowKit Lx

theorem dbl_app (a b : Bs) : dbl (a ++ b) = dbl a ++ dbl b := by
  induction a with
  | nil => rfl
  | cons c a ih => simp only [List.cons_append, dbl]; split <;> simp [ih]
theorem ext_one (t : ByteArray) (k : Nat) (h : k < t.size) : (t.extract k (k + 1)).data.toList = [t[k]] := by
  rw [extract_take t k (k + 1) (by omega) (by omega), show k + 1 - k = 1 by omega, drop_cons t k h]; rfl
theorem dbl_take (t : ByteArray) (k : Nat) (h : k < t.size) : (((t[k]'h).toNat : Int) = 39 → 39 :: dbl (t.data.toList.take (k + 1)) = 39 :: dbl (t.data.toList.take k) ++ (t.extract k (k + 1)).data.toList ++ [39]) ∧
    (¬ ((t[k]'h).toNat : Int) = 39 → 39 :: dbl (t.data.toList.take (k + 1)) = 39 :: dbl (t.data.toList.take k) ++ (t.extract k (k + 1)).data.toList) := by
  rw [take_snoc t k h, dbl_app, ext_one t k h]
  refine ⟨fun h39 => ?_, fun h39 => ?_⟩
  · have e : t[k] = 39 := (byte_eq _ 39 (by decide)).2 h39
    rw [e]; simp [dbl]
  · have e : ¬ t[k] = 39 := fun he => h39 ((byte_eq _ 39 (by decide)).1 he)
    simp [dbl, e]
theorem cat2 (a b : ByteArray) : (a ++ b).data.toList = a.data.toList ++ b.data.toList := by simp [ByteArray.data_append]
theorem cat3 (a b : ByteArray) (c : Array UInt8) : (a ++ b ++ ⟨c⟩).data.toList = a.data.toList ++ b.data.toList ++ c.toList := by simp [ByteArray.data_append]
theorem dbl_bits (l : Bs) (h : (l.all fun c => bitI (c.toNat : Int)) = true) : dbl l = l := by
  induction l with
  | nil => rfl
  | cons c l ih =>
    rw [List.all_cons, Bool.and_eq_true] at h
    have hc : ¬ c = 39 := by rintro rfl; exact absurd h.1 (by decide)
    simp [dbl, hc, ih h.2]
set_option maxHeartbeats 1000000 in
set_option maxRecDepth 100000 in
theorem rspell_4 (t : ByteArray) (a : Int) (hs : t.size ≤ 1000000) (w : World) : Calls Tryz.prog 45 #[.agg #[.int .i64 4, .string t, .int .i64 a]] w fun e w' => e = .returned (.string ⟨(39 :: dbl t.data.toList ++ [39]).toArray⟩) ∧ Below w.heap.size w w' := by
  go_enter Tryz.func45, Tryz.ntmps45
  go_wp2_with fail
  have b1 := below_box w (.cells #[.int .i64 4, .string t, .int .i64 a] 24)
  have c0 := cell_box w #[.int .i64 4, .string t, .int .i64 a] 24 0
  have c1 := cell_box w #[.int .i64 4, .string t, .int .i64 a] 24 1
  have k0 : (w.alloc (.cells #[.int .i64 4, .string t, .int .i64 a] 24)).cell? ⟨w.heap.size, 0, none⟩ = some (.int .i64 4) := c0
  have k1 : (w.alloc (.cells #[.int .i64 4, .string t, .int .i64 a] 24)).cell? ⟨w.heap.size, 1, none⟩ = some (.string t) := c1
  clear c0 c1
  generalize w.alloc (.cells #[.int .i64 4, .string t, .int .i64 a] 24) = w1 at b1 k0 k1 ⊢
  go_loop [3, 4] (fun s i => ∃ k : Nat, ∃ S : ByteArray, k ≤ t.size ∧ i = .int .i64 k ∧ s = .string S ∧ S.data.toList = 39 :: dbl (t.data.toList.take k) ∧ S.size ≤ 2 * k + 1) (fun _ i => t.size - (intOf i).toNat)
  case atStart => exact ⟨0, ⟨#[39]⟩, Nat.zero_le _, rfl, rfl, rfl, Nat.le_refl _⟩
  case round =>
    obtain ⟨k, S, hk, rfl, rfl, hS, hSz⟩ := hrel
    have HS := Lib.hid hS
    clear hS
    by_cases hlt : k < t.size
    · have hst := Lib.hid (dbl_take t k hlt)
      have g0 : (k : Int) < (t.size : Int) := by omega
      have g1 : (0 : Int) ≤ (k : Int) := by omega
      have g2 : (k : Int) ≤ (k : Int) + 1 := by omega
      have g3 : (k : Int) + 1 ≤ (t.size : Int) := by omega
      have q1 : ¬ 9223372036854775807 < S.size + (min (k + 1) t.size - k) := by omega
      have q2 : ¬ 9223372036854775807 < S.size + (min (k + 1) t.size - k) + 1 := by omega
      have z3 : IntKind.i64.wrap ((k : Int) + 1) = (k : Int) + 1 := IntWalk.i64_in _ (by omega)
      have z4 : ((k : Int) + 1).toNat = k + 1 := by omega
      by_cases h39 : ((t[k]'hlt).toNat : Int) = 39
      · have hq : (((t[k]'hlt).toNat : Int) == 39) = true := by rw [h39]; rfl
        have hd := Lib.hid (hst.out.1 h39)
        clear h39
        go_wp2_with fail
        go_round
        case rel => exact ⟨k + 1, S ++ t.extract k (k + 1) ++ ⟨#[39]⟩, by omega, by go_num, rfl, by rw [cat3, HS.out, hd.out], by rw [ByteArray.size_append, ByteArray.size_append, ByteArray.size_extract]; show S.size + (min (k + 1) t.size - k) + 1 ≤ _; omega⟩
        case measure => simp [intOf]; omega
      · have hq : (((t[k]'hlt).toNat : Int) == 39) = false := by simpa using h39
        have hd := Lib.hid (hst.out.2 h39)
        clear h39
        go_wp2_with fail
        go_round
        case rel => exact ⟨k + 1, S ++ t.extract k (k + 1), by omega, by go_num, rfl, by rw [cat2, HS.out, hd.out], by rw [ByteArray.size_append, ByteArray.size_extract]; omega⟩
        case measure => simp [intOf]; omega
    · have hfin : S.data.toList = 39 :: dbl t.data.toList := by rw [HS.out, List.take_of_length_le (by rw [size_list]; omega)]
      have HF := Lib.hid hfin
      have q1 : ¬ 9223372036854775807 < S.size + 1 := by omega
      have q2 : ¬ 9223372036854775807 < S.size + 1 + 1 := by omega
      clear hfin
      go_wp2_with fail
      go_ret
      exact ⟨ret_str (ba_ext (by simp [HF.out])), b1⟩
set_option maxHeartbeats 1000000 in
set_option maxRecDepth 100000 in
theorem rspell_5 (t : ByteArray) (a : Int) (hs : t.size ≤ 1000000) (w : World) : Calls Tryz.prog 45 #[.agg #[.int .i64 5, .string t, .int .i64 a]] w fun e w' => e = .returned (.string ⟨(39 :: dbl t.data.toList ++ [39, 66]).toArray⟩) ∧ Below w.heap.size w w' := by
  go_enter Tryz.func45, Tryz.ntmps45
  go_wp2_with fail
  have b1 := below_box w (.cells #[.int .i64 5, .string t, .int .i64 a] 24)
  have c0 := cell_box w #[.int .i64 5, .string t, .int .i64 a] 24 0
  have c1 := cell_box w #[.int .i64 5, .string t, .int .i64 a] 24 1
  have k0 : (w.alloc (.cells #[.int .i64 5, .string t, .int .i64 a] 24)).cell? ⟨w.heap.size, 0, none⟩ = some (.int .i64 5) := c0
  have k1 : (w.alloc (.cells #[.int .i64 5, .string t, .int .i64 a] 24)).cell? ⟨w.heap.size, 1, none⟩ = some (.string t) := c1
  clear c0 c1
  generalize w.alloc (.cells #[.int .i64 5, .string t, .int .i64 a] 24) = w1 at b1 k0 k1 ⊢
  go_loop [3, 4] (fun s i => ∃ k : Nat, ∃ S : ByteArray, k ≤ t.size ∧ i = .int .i64 k ∧ s = .string S ∧ S.data.toList = 39 :: dbl (t.data.toList.take k) ∧ S.size ≤ 2 * k + 1) (fun _ i => t.size - (intOf i).toNat)
  case atStart => exact ⟨0, ⟨#[39]⟩, Nat.zero_le _, rfl, rfl, rfl, Nat.le_refl _⟩
  case round =>
    obtain ⟨k, S, hk, rfl, rfl, hS, hSz⟩ := hrel
    have HS := Lib.hid hS
    clear hS
    by_cases hlt : k < t.size
    · have hst := Lib.hid (dbl_take t k hlt)
      have g0 : (k : Int) < (t.size : Int) := by omega
      have g1 : (0 : Int) ≤ (k : Int) := by omega
      have g2 : (k : Int) ≤ (k : Int) + 1 := by omega
      have g3 : (k : Int) + 1 ≤ (t.size : Int) := by omega
      have q1 : ¬ 9223372036854775807 < S.size + (min (k + 1) t.size - k) := by omega
      have q2 : ¬ 9223372036854775807 < S.size + (min (k + 1) t.size - k) + 1 := by omega
      have z3 : IntKind.i64.wrap ((k : Int) + 1) = (k : Int) + 1 := IntWalk.i64_in _ (by omega)
      have z4 : ((k : Int) + 1).toNat = k + 1 := by omega
      by_cases h39 : ((t[k]'hlt).toNat : Int) = 39
      · have hq : (((t[k]'hlt).toNat : Int) == 39) = true := by rw [h39]; rfl
        have hd := Lib.hid (hst.out.1 h39)
        clear h39
        go_wp2_with fail
        go_round
        case rel => exact ⟨k + 1, S ++ t.extract k (k + 1) ++ ⟨#[39]⟩, by omega, by go_num, rfl, by rw [cat3, HS.out, hd.out], by rw [ByteArray.size_append, ByteArray.size_append, ByteArray.size_extract]; show S.size + (min (k + 1) t.size - k) + 1 ≤ _; omega⟩
        case measure => simp [intOf]; omega
      · have hq : (((t[k]'hlt).toNat : Int) == 39) = false := by simpa using h39
        have hd := Lib.hid (hst.out.2 h39)
        clear h39
        go_wp2_with fail
        go_round
        case rel => exact ⟨k + 1, S ++ t.extract k (k + 1), by omega, by go_num, rfl, by rw [cat2, HS.out, hd.out], by rw [ByteArray.size_append, ByteArray.size_extract]; omega⟩
        case measure => simp [intOf]; omega
    · have hfin : S.data.toList = 39 :: dbl t.data.toList := by rw [HS.out, List.take_of_length_le (by rw [size_list]; omega)]
      have HF := Lib.hid hfin
      have q1 : ¬ 9223372036854775807 < S.size + 1 := by omega
      have q2 : ¬ 9223372036854775807 < S.size + 1 + 1 := by omega
      clear hfin
      go_wp2_with fail
      go_ret
      exact ⟨ret_str (ba_ext (by simp [HF.out])), b1⟩
set_option maxHeartbeats 1000000 in
theorem rspell_any (k : Int) (t : ByteArray) (a : Int) (hc : checkI k t = true) (hs : t.size ≤ 1000000) (w : World) : Calls Tryz.prog 45 #[.agg #[.int .i64 k, .string t, .int .i64 a]] w fun e w' => e = .returned (.string (spellI k t)) ∧ Below w.heap.size w w' := by
  by_cases h3 : k = 3
  · subst h3
    clear hc
    go_enter Tryz.func45, Tryz.ntmps45
    go_wp2
    go_ret
    exact ⟨ret_str (ba_ext (by simp [spellI])), below_box _ _⟩
  by_cases h4 : k = 4
  · subst h4
    exact rspell_4 t a hs w
  by_cases h5 : k = 5
  · subst h5
    have hb : allI bitI t = true := by
      have : checkI 5 t = (decide (t.size ≤ 64) && allI bitI t) := rfl
      rw [this, Bool.and_eq_true] at hc; exact hc.2
    have h := rspell_5 t a hs w
    rw [dbl_bits _ hb] at h
    exact h
  · have e3 : (k == 3) = false := by simpa using h3
    have e4 : (k == 4) = false := by simpa using h4
    have e5 : (k == 5) = false := by simpa using h5
    have n4 : (k != 4) = true := by simpa using h4
    have n5 : (k != 5) = true := by simpa using h5
    have hf : spellI k t = t := by unfold spellI; rw [if_neg h3, if_neg h4, if_neg h5]
    have HF := Lib.hid hf
    clear hf h3 h4 h5 hc
    go_enter Tryz.func45, Tryz.ntmps45
    go_wp2
    go_ret
    exact ⟨by rw [HF.out]; rfl, below_box _ _⟩
end Go.Proofs.YtafofcenphopbaaGreatDoor
