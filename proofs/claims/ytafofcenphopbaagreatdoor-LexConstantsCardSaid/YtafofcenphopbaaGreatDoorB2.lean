/- The reference: while, comment. -/
import Derived.Test.YtafofcenphopbaaGreatDoorA5
import Derived.Test.YtafofcenphopbaaGreatDoorL5
namespace Go.Proofs.YtafofcenphopbaaGreatDoor
open Go.RowKit Lx

set_option maxHeartbeats 400000 in
theorem rdigit_any (c : Int) (h0 : 0 ≤ c) (h1 : c ≤ 255) (w : World) : Calls Tryz.prog 88 #[.int .u8 c] w fun e w' => e = .returned (.bool (digI c)) ∧ w' = w := by
  go_enter Tryz.func88, Tryz.ntmps88
  go_wp2
  all_goals (go_ret; exact ⟨ret_bool (by unfold digI; rw [Bool.eq_iff_iff]; simp <;> omega), rfl⟩)
set_option maxHeartbeats 400000 in
theorem rletter_any (c : Int) (h0 : 0 ≤ c) (h1 : c ≤ 255) (w : World) : Calls Tryz.prog 147 #[.int .u8 c] w fun e w' => e = .returned (.bool (alphI c)) ∧ w' = w := by
  go_enter Tryz.func147, Tryz.ntmps147
  go_wp2
  all_goals (go_ret; exact ⟨ret_bool (by unfold alphI; rw [Bool.eq_iff_iff]; simp <;> omega), rfl⟩)
set_option maxHeartbeats 400000 in
theorem rprinting_any (c : Int) (h0 : 0 ≤ c) (h1 : c ≤ 255) (w : World) : Calls Tryz.prog 148 #[.int .u8 c] w fun e w' => e = .returned (.bool (shownI c)) ∧ w' = w := by
  go_enter Tryz.func148, Tryz.ntmps148
  go_wp2
  all_goals (go_ret; exact ⟨ret_bool (by unfold shownI; rw [Bool.eq_iff_iff]; simp <;> omega), rfl⟩)
set_option maxHeartbeats 400000 in
theorem rbegins_any (c : Int) (h0 : 0 ≤ c) (h1 : c ≤ 255) (w : World) : Calls Tryz.prog 126 #[.int .u8 c] w fun e w' => e = .returned (.bool (begI c)) ∧ w' = w := by
  cases ha : alphI c with
  | true =>
    have hb : begI c = true := by unfold begI partI; unfold alphI at ha; unfold alphI digI symI; simp at ha ⊢; omega
    have HB := Lib.hid hb
    have HA := Lib.hid ha
    clear ha hb
    go_enter Tryz.func126, Tryz.ntmps126
    go_wp2_with (go_at_call 147; refine (rletter_any _ h0 h1 _).mono ?_; rintro e w' ⟨rfl, hw⟩; rw [hw, HA.out]; clear hw)
    go_ret
    exact ⟨by rw [HB.out]; rfl, rfl⟩
  | false =>
    have hb : begI c = (c == 36 || (c == 35 || c == 64)) := by
      unfold begI partI; rw [ha]; unfold digI symI; rw [Bool.eq_iff_iff]; simp; omega
    have HB := Lib.hid hb
    have HA := Lib.hid ha
    clear ha hb
    go_enter Tryz.func126, Tryz.ntmps126
    go_wp2_with (go_at_call 147; refine (rletter_any _ h0 h1 _).mono ?_; rintro e w' ⟨rfl, hw⟩; rw [hw, HA.out]; clear hw)
    all_goals (go_ret; exact ⟨ret_bool (by rw [HB.out]; first | done | rfl | (simp_all; done) | simp only [Bool.or_assoc]), rfl⟩)
set_option maxHeartbeats 400000 in
theorem rnamed_any (c : Int) (h0 : 0 ≤ c) (h1 : c ≤ 255) (w : World) : Calls Tryz.prog 127 #[.int .u8 c] w fun e w' => e = .returned (.bool (partI c)) ∧ w' = w := by
  cases hd : digI c with
  | true =>
    have hb : partI c = true := by unfold partI; simp [hd]
    have HB := Lib.hid hb
    have HD := Lib.hid hd
    clear hd hb
    go_enter Tryz.func127, Tryz.ntmps127
    go_wp2_with (go_at_call 88; refine (rdigit_any _ h0 h1 _).mono ?_; rintro e w' ⟨rfl, hw⟩; rw [hw, HD.out]; clear hw)
    go_ret
    exact ⟨by rw [HB.out]; rfl, rfl⟩
  | false =>
    cases ha : alphI c with
    | true =>
      have hb : partI c = true := by unfold partI; simp [ha]
      have HB := Lib.hid hb
      have HA := Lib.hid ha
      have HD := Lib.hid hd
      clear ha hb hd
      go_enter Tryz.func127, Tryz.ntmps127
      go_wp2_with (first | (go_at_call 88; refine (rdigit_any _ h0 h1 _).mono ?_; rintro e w' ⟨rfl, hw⟩; rw [hw, HD.out]; clear hw) | (go_at_call 147; refine (rletter_any _ h0 h1 _).mono ?_; rintro e w' ⟨rfl, hw⟩; rw [hw, HA.out]; clear hw))
      go_ret
      exact ⟨by rw [HB.out]; rfl, rfl⟩
    | false =>
      have hb : partI c = (c == 95 || (c == 36 || (c == 35 || c == 64))) := by unfold partI; rw [ha, hd]; unfold symI; rw [Bool.eq_iff_iff]; simp; omega
      have HB := Lib.hid hb
      have HA := Lib.hid ha
      have HD := Lib.hid hd
      clear ha hb hd
      go_enter Tryz.func127, Tryz.ntmps127
      go_wp2_with (first | (go_at_call 88; refine (rdigit_any _ h0 h1 _).mono ?_; rintro e w' ⟨rfl, hw⟩; rw [hw, HD.out]; clear hw) | (go_at_call 147; refine (rletter_any _ h0 h1 _).mono ?_; rintro e w' ⟨rfl, hw⟩; rw [hw, HA.out]; clear hw))
      all_goals (go_ret; exact ⟨ret_bool (by rw [HB.out]; first | done | rfl | (simp_all; done) | simp only [Bool.or_assoc]), rfl⟩)
theorem upC_int (c : UInt8) : ((upC c).toNat : Int) = if 97 ≤ c.toNat ∧ c.toNat ≤ 122 then (c.toNat : Int) - 32 else c.toNat := by
  unfold upC
  split
  · rw [UInt8.toNat_ofNat']; omega
  · rfl
set_option maxHeartbeats 400000 in
theorem rcapital_any (c : UInt8) (w : World) : Calls Tryz.prog 128 #[.int .u8 c.toNat] w fun e w' => e = .returned (.int .u8 (upC c).toNat) ∧ w' = w := by
  have hu := upC_int c
  have hc := c.toNat_lt
  generalize (upC c).toNat = u at hu ⊢
  generalize c.toNat = k at hu hc ⊢
  have HU := Lib.hid hu
  clear hu
  go_enter Tryz.func128, Tryz.ntmps128
  go_wp2
  all_goals (
    go_ret
    refine ⟨ret_int ?_, rfl⟩
    have hu := HU.out
    split at hu <;> omega)
end Go.Proofs.YtafofcenphopbaaGreatDoor
namespace Go.Proofs.YtafofcenphopbaaGreatDoor
open Go.RowKit Lx

/-- How many digits stand ahead. -/
def digLen : Bs → Nat
  | [] => 0
  | c :: l => if digI (c.toNat : Int) = true then digLen l + 1 else 0
theorem digLen_le (l : Bs) : digLen l ≤ l.length := by
  induction l with
  | nil => exact Nat.le_refl _
  | cons c l ih => unfold digLen; split <;> simp <;> omega
theorem digLen_step (s : ByteArray) (j : Nat) (hj : j < s.size) (h : digI ((s[j]'hj).toNat : Int) = true) : digLen (s.data.toList.drop j) = digLen (s.data.toList.drop (j + 1)) + 1 := by
  rw [drop_cons s j hj]
  conv => lhs; unfold digLen
  rw [if_pos h]
theorem digLen_stop (s : ByteArray) (j : Nat) (hj : j < s.size) (h : digI ((s[j]'hj).toNat : Int) = false) : digLen (s.data.toList.drop j) = 0 := by
  rw [drop_cons s j hj]
  unfold digLen
  rw [if_neg (by rw [h]; decide)]
theorem drop_end (s : ByteArray) (j : Nat) (h : s.size ≤ j) : s.data.toList.drop j = [] := List.drop_of_length_le (by rw [size_list]; exact h)
theorem name_step (s : ByteArray) (j : Nat) (hj : j < s.size) (h : partI ((s[j]'hj).toNat : Int) = true) : nameLen (s.data.toList.drop j) = nameLen (s.data.toList.drop (j + 1)) + 1 := by
  rw [drop_cons s j hj]
  conv => lhs; unfold nameLen
  rw [if_pos h]
theorem name_stop (s : ByteArray) (j : Nat) (hj : j < s.size) (h : partI ((s[j]'hj).toNat : Int) = false) : nameLen (s.data.toList.drop j) = 0 := by
  rw [drop_cons s j hj]
  unfold nameLen
  rw [if_neg (by rw [h]; decide)]
theorem byte_range (s : ByteArray) (j : Nat) (hj : j < s.size) : (0 : Int) ≤ ((s[j]'hj).toNat : Int) ∧ ((s[j]'hj).toNat : Int) ≤ 255 := by
  have := (s[j]'hj).toNat_lt; omega
set_option maxHeartbeats 1000000 in
set_option maxRecDepth 100000 in
theorem while_digits (s : ByteArray) (i : Nat) (hi : i ≤ s.size) (hs : s.size ≤ 1000000) (w : World) : Calls Tryz.prog 149 #[.string s, .int .i64 i, .bool false] w fun e w' => e = .returned (.int .i64 (i + digLen (s.data.toList.drop i) : Nat)) ∧ w' = w := by
  go_enter Tryz.func149, Tryz.ntmps149
  go_wp2_with fail
  go_loop [1] (fun q => ∃ j : Nat, i ≤ j ∧ j ≤ s.size ∧ q = .int .i64 j ∧ i + digLen (s.data.toList.drop i) = j + digLen (s.data.toList.drop j)) (fun q => s.size - (intOf q).toNat)
  case atStart => exact ⟨i, Nat.le_refl _, hi, rfl, rfl⟩
  case round =>
    obtain ⟨j, hij, hj, rfl, hq⟩ := hrel
    by_cases hlt : j < s.size
    · have hr := byte_range s j hlt
      cases hd : digI ((s[j]'hlt).toNat : Int) with
      | true =>
        rw [digLen_step s j hlt hd] at hq
        have HQ := Lib.hid hq
        have HD := Lib.hid hd
        obtain ⟨r1, r2⟩ := hr
        clear hq hd
        go_wp2_with (go_at_call 88; refine (rdigit_any _ r1 r2 _).mono ?_; rintro e w' ⟨rfl, hw⟩; rw [hw, HD.out]; clear hw)
        go_round
        case rel => exact ⟨j + 1, by omega, hlt, by go_num, by rw [HQ.out]; omega⟩
        case measure => simp [intOf]; omega
      | false =>
        rw [digLen_stop s j hlt hd] at hq
        have HQ := Lib.hid hq
        have HD := Lib.hid hd
        obtain ⟨r1, r2⟩ := hr
        clear hq hd
        go_wp2_with (go_at_call 88; refine (rdigit_any _ r1 r2 _).mono ?_; rintro e w' ⟨rfl, hw⟩; rw [hw, HD.out]; clear hw)
        go_ret
        exact ⟨by rw [HQ.out]; rfl, rfl⟩
    · rw [drop_end s j (by omega)] at hq
      have HQ := Lib.hid hq
      clear hq
      go_wp2_with fail
      go_ret
      exact ⟨ret_int (by have h := HQ.out; simp only [digLen] at h; omega), rfl⟩
set_option maxHeartbeats 1000000 in
set_option maxRecDepth 100000 in
theorem while_names (s : ByteArray) (i : Nat) (hi : i ≤ s.size) (hs : s.size ≤ 1000000) (w : World) : Calls Tryz.prog 149 #[.string s, .int .i64 i, .bool true] w fun e w' => e = .returned (.int .i64 (i + nameLen (s.data.toList.drop i) : Nat)) ∧ w' = w := by
  go_enter Tryz.func149, Tryz.ntmps149
  go_wp2_with fail
  go_loop [1] (fun q => ∃ j : Nat, i ≤ j ∧ j ≤ s.size ∧ q = .int .i64 j ∧ i + nameLen (s.data.toList.drop i) = j + nameLen (s.data.toList.drop j)) (fun q => s.size - (intOf q).toNat)
  case atStart => exact ⟨i, Nat.le_refl _, hi, rfl, rfl⟩
  case round =>
    obtain ⟨j, hij, hj, rfl, hq⟩ := hrel
    by_cases hlt : j < s.size
    · have hr := byte_range s j hlt
      cases hp : partI ((s[j]'hlt).toNat : Int) with
      | true =>
        rw [name_step s j hlt hp] at hq
        have HQ := Lib.hid hq
        have HP := Lib.hid hp
        obtain ⟨r1, r2⟩ := hr
        clear hq hp
        cases hd : digI ((s[j]'hlt).toNat : Int) with
        | true =>
          have HD := Lib.hid hd
          clear hd
          go_wp2_with (go_at_call 88; refine (rdigit_any _ r1 r2 _).mono ?_; rintro e w' ⟨rfl, hw⟩; rw [hw, HD.out]; clear hw)
          go_round
          case rel => exact ⟨j + 1, by omega, hlt, by go_num, by rw [HQ.out]; omega⟩
          case measure => simp [intOf]; omega
        | false =>
          have HD := Lib.hid hd
          clear hd
          go_wp2_with (first | (go_at_call 88; refine (rdigit_any _ r1 r2 _).mono ?_; rintro e w' ⟨rfl, hw⟩; rw [hw, HD.out]; clear hw) | (go_at_call 127; refine (rnamed_any _ r1 r2 _).mono ?_; rintro e w' ⟨rfl, hw⟩; rw [hw, HP.out]; clear hw))
          go_round
          case rel => exact ⟨j + 1, by omega, hlt, by go_num, by rw [HQ.out]; omega⟩
          case measure => simp [intOf]; omega
      | false =>
        have hd : digI ((s[j]'hlt).toNat : Int) = false := by
          rw [Bool.eq_false_iff]; intro h; rw [dig_part h] at hp; cases hp
        rw [name_stop s j hlt hp] at hq
        have HQ := Lib.hid hq
        have HP := Lib.hid hp
        have HD := Lib.hid hd
        obtain ⟨r1, r2⟩ := hr
        clear hq hp hd
        go_wp2_with (first | (go_at_call 88; refine (rdigit_any _ r1 r2 _).mono ?_; rintro e w' ⟨rfl, hw⟩; rw [hw, HD.out]; clear hw) | (go_at_call 127; refine (rnamed_any _ r1 r2 _).mono ?_; rintro e w' ⟨rfl, hw⟩; rw [hw, HP.out]; clear hw))
        go_ret
        exact ⟨by rw [HQ.out]; rfl, rfl⟩
    · rw [drop_end s j (by omega)] at hq
      have HQ := Lib.hid hq
      clear hq
      go_wp2_with fail
      go_ret
      exact ⟨ret_int (by have h := HQ.out; simp only [nameLen] at h; omega), rfl⟩
/-- The comment's end, by going through it: from behind its beginning on. -/
def cmtR : Bs → Option Nat
  | [] => none
  | c :: l => match l with
    | [] => none
    | d :: _ => if (shownI (c.toNat : Int) || c == 10) = false then none else if c = 42 ∧ d = 47 then some 2 else (cmtR l).map (· + 1)
theorem cmtR_two (c d : UInt8) (l : Bs) : cmtR (c :: d :: l) = if (shownI (c.toNat : Int) || c == 10) = false then none else if c = 42 ∧ d = 47 then some 2 else (cmtR (d :: l)).map (· + 1) := by
  conv => lhs; unfold cmtR
theorem occ_two (c d : UInt8) (l : Bs) : [42, 47].isPrefixOf (c :: d :: l) = decide (c = 42 ∧ d = 47) := by
  show ((42 : UInt8) == c && ((47 : UInt8) == d && true)) = _
  rw [Bool.eq_iff_iff]
  simp only [Bool.and_true, Bool.and_eq_true, beq_iff_eq, decide_eq_true_eq]
  constructor
  · rintro ⟨a, b⟩; exact ⟨a.symm, b.symm⟩
  · rintro ⟨a, b⟩; exact ⟨a.symm, b.symm⟩
theorem cmtR_index : ∀ (l : Bs), cmtR l = if Lib.index l [42, 47] < 0 then none else if (l.take ((Lib.index l [42, 47]).toNat + 2)).all (fun c => shownI (c.toNat : Int) || c == 10) then some ((Lib.index l [42, 47]).toNat + 2) else none := by
  intro l
  induction l with
  | nil => rw [show Lib.index [] [42, 47] = -1 from rfl]; rfl
  | cons c l ih =>
    cases l with
    | nil =>
      have : Lib.index [c] [42, 47] = -1 := Lib.index_past (i := 0) (by simp) (fun j hj => absurd hj (Nat.not_lt_zero _)) (by simp)
      rw [this]; rfl
    | cons d l =>
      rw [cmtR_two]
      have hidx : Lib.index (c :: d :: l) [42, 47] = if (c = 42 ∧ d = 47) then 0 else if Lib.index (d :: l) [42, 47] == -1 then -1 else Lib.index (d :: l) [42, 47] + 1 := by
        conv => lhs; unfold Lib.index
        rw [occ_two]
        by_cases h : c = 42 ∧ d = 47
        · rw [if_pos (by simpa using h), if_pos h]
        · rw [if_neg (by simpa using h), if_neg h]
      by_cases hm : c = 42 ∧ d = 47
      · rw [hidx, if_pos hm]
        obtain ⟨rfl, rfl⟩ := hm
        have e1 : (shownI ((42 : UInt8).toNat : Int) || (42 : UInt8) == 10) = true := by decide
        have e2 : (shownI ((47 : UInt8).toNat : Int) || (47 : UInt8) == 10) = true := by decide
        rw [if_neg (by rw [e1]; decide), if_pos (⟨rfl, rfl⟩ : (42 : UInt8) = 42 ∧ (47 : UInt8) = 47), if_neg (by decide), if_pos]
        · rfl
        · show (List.all [(42 : UInt8), 47] _) = true
          simp only [List.all_cons, e1, e2, List.all_nil, Bool.true_and]
      · have hid2 : Lib.index (c :: d :: l) [42, 47] = if Lib.index (d :: l) [42, 47] < 0 then -1 else Lib.index (d :: l) [42, 47] + 1 := by
          rw [hidx, if_neg hm]
          have hge := Lib.index_ge (d :: l) [42, 47]
          by_cases hn : Lib.index (d :: l) [42, 47] < 0
          · have : Lib.index (d :: l) [42, 47] = -1 := by omega
            rw [if_pos hn, this]; rfl
          · rw [if_neg hn, if_neg]
            intro h; have := beq_iff_eq.1 h; omega
        by_cases hn : Lib.index (d :: l) [42, 47] < 0
        · have h2 : Lib.index (c :: d :: l) [42, 47] = -1 := by rw [hid2, if_pos hn]
          rw [h2]
          by_cases hb : (shownI (c.toNat : Int) || c == 10) = false
          · rw [if_pos hb]; rfl
          · rw [if_neg hb, if_neg hm, ih, if_pos hn]; rfl
        · have h2 : Lib.index (c :: d :: l) [42, 47] = Lib.index (d :: l) [42, 47] + 1 := by rw [hid2, if_neg hn]
          rw [h2]
          have e : (Lib.index (d :: l) [42, 47] + 1).toNat + 2 = ((Lib.index (d :: l) [42, 47]).toNat + 2) + 1 := by omega
          have hp : ¬ (Lib.index (d :: l) [42, 47] + 1 < 0) := by omega
          rw [if_neg hp, e, List.take_succ_cons, List.all_cons]
          by_cases hb : (shownI (c.toNat : Int) || c == 10) = false
          · rw [if_pos hb, hb, Bool.false_and, if_neg (by decide)]
          · have hb' : (shownI (c.toNat : Int) || c == 10) = true := eq_true_of_ne_false hb
            rw [if_neg hb, if_neg hm, ih, if_neg hn, hb', Bool.true_and]
            split <;> rfl
theorem cmt_cmtR (l : Bs) (h1 : hd l = 47) (h2 : hd (l.drop 1) = 42) : cmt l = (cmtR (l.drop 2)).map (· + 2) := by
  match l, h1, h2 with
  | [c], _, h2 => exact absurd (show (-1 : Int) = 42 from h2) (by decide)
  | c :: d :: r, h1, h2 =>
    have hc : c = 47 := (byte_eq c 47 (by decide)).2 h1
    have hd' : d = 42 := (byte_eq d 42 (by decide)).2 h2
    subst hc; subst hd'
    rw [cmtR_index]
    unfold cmt
    simp only [List.drop_succ_cons, List.drop_zero]
    split
    · rfl
    · rw [show (Lib.index r [42, 47]).toNat + 4 = ((Lib.index r [42, 47]).toNat + 2) + 1 + 1 from by omega, List.take_succ_cons, List.take_succ_cons, List.all_cons, List.all_cons]
      rw [show (shownI ((47 : UInt8).toNat : Int) || (47 : UInt8) == 10) = true from by decide, show (shownI ((42 : UInt8).toNat : Int) || (42 : UInt8) == 10) = true from by decide]
      simp only [Bool.true_and]
      split <;> rfl
end Go.Proofs.YtafofcenphopbaaGreatDoor
