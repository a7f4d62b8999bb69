/- Walks: names, numbers, all. -/
import Derived.Test.YtafofcenphopbaaGreatDoorA2
namespace Go.Proofs.YtafofcenphopbaaGreatDoor
open Go.RowKit Lx

set_option maxHeartbeats 400000 in
theorem bit_any (c : Int) (w : World) :
    Calls Tryz.prog 73 #[.int .u8 c] w fun e w' => e = .returned (.bool (bitI c)) ∧ w' = w := by
  go_enter Tryz.func73, Tryz.ntmps73
  go_wp2
  all_goals (go_ret; exact ⟨ret_bool (by unfold bitI; simp [*]), rfl⟩)
set_option maxHeartbeats 400000 in
theorem shown_any (c : Int) (w : World) :
    Calls Tryz.prog 74 #[.int .u8 c] w fun e w' => e = .returned (.bool (shownI c)) ∧ w' = w := by
  go_enter Tryz.func74, Tryz.ntmps74
  go_wp2
  all_goals (go_ret; exact ⟨ret_bool (by unfold shownI; rw [Bool.eq_iff_iff]; simp <;> omega), rfl⟩)

theorem nameI_empty (s : ByteArray) (h : s.size = 0) : nameI s = false := by unfold nameI; simp [h]
theorem nameI_long (s : ByteArray) (h : 31 < s.size) : nameI s = false := by
  have : ¬ s.size ≤ 31 := by omega
  unfold nameI; simp [this]
theorem nameI_beg (s : ByteArray) (h : begI (atI s 0) = false) : nameI s = false := by unfold nameI; simp [h]
theorem nameI_part (s : ByteArray) (h : allI partI s = false) : nameI s = false := by unfold nameI; simp [h]
theorem nameI_yes (s : ByteArray) (h0 : 1 ≤ s.size) (h1 : s.size ≤ 31) (h2 : begI (atI s 0) = true) (h3 : allI partI s = true) : nameI s = true := by unfold nameI; simp [*]

set_option maxHeartbeats 400000 in
theorem isName_any (s : ByteArray) (w : World) :
    Calls Tryz.prog 68 #[.string s] w fun e w' => e = .returned (.bool (nameI s)) ∧ ∃ n, w' = w.drewN n := by
  have r0 := atI_range s 0
  by_cases h0 : s.size = 0
  · have e1 : s.toList = [] := (toList_nil s).2 h0
    have hf := Lib.hid (nameI_empty s h0)
    clear h0
    go_enter Tryz.func68, Tryz.ntmps68
    go_wp2
    go_ret; exact ⟨ret_bool hf.out.symm, 0, rfl⟩
  · have e1 : s.toList.isEmpty = false := by rw [List.isEmpty_eq_false_iff]; exact fun h => h0 ((toList_nil s).1 h)
    have e2 : ¬ s.toList = [] := fun h => h0 ((toList_nil s).1 h)
    by_cases h1 : 31 < s.size
    · have e3 : decide (31 < (s.size : Int)) = true := by simp; omega
      have hf := Lib.hid (nameI_long s h1)
      go_enter Tryz.func68, Tryz.ntmps68
      go_wp2
      go_ret; exact ⟨ret_bool hf.out.symm, 0, rfl⟩
    · have e3 : decide (31 < (s.size : Int)) = false := by simp; omega
      have hs : s.size ≤ 31 := by omega
      by_cases h2 : begI (atI s 0) = true
      · go_enter Tryz.func68, Tryz.ntmps68
        go_wp2_with (first | (go_at_call 86; refine (at_any _ _ _).mono ?_; rintro e w' ⟨rfl, hw⟩; rw [hw]; clear hw) | (go_at_call 99; refine (begins_any _ r0.1 r0.2 _).mono ?_; rintro e w' ⟨rfl, n, rfl⟩))
        go_loopw [19] (fun i wr => ∃ k : Nat, k ≤ s.size ∧ i = .int .i64 k ∧ (s.data.toList.take k).all (fun c => partI (c.toNat : Int)) = true ∧ ∃ n, wr = w.drewN n) (fun i _ => s.size - (intOf i).toNat)
        case atStart => exact ⟨0, Nat.zero_le _, rfl, rfl, _, rfl⟩
        case round =>
          obtain ⟨k, hk, rfl, hall, m, rfl⟩ := hrel
          have ra := atI_range s k
          by_cases hlt : k < s.size
          · have hat := atI_in s k (by omega) (by simpa using hlt)
            have HA := Lib.hid hat
            have HALL := Lib.hid hall
            clear hat hall
            go_wp2_with (first | (go_at_call 86; refine (at_any _ _ _).mono ?_; rintro e w' ⟨rfl, hw⟩; rw [hw]; clear hw) | (go_at_call 100; refine (part_any _ ra.1 ra.2 _).mono ?_; rintro e w' ⟨rfl, n, rfl⟩))
            · have hp : (!partI (atI s (k : Int))) = true := by assumption
              have hp' : partI (atI s (k : Int)) = false := by simpa using hp
              go_ret; exact ⟨ret_bool (nameI_part s (allI_false partI s k hlt (by rw [← hp', HA.out]; rfl))).symm, _, rfl⟩
            · have hp : (!partI (atI s (k : Int))) = false := by assumption
              have hp' : partI (atI s (k : Int)) = true := by simpa using hp
              go_roundw
              case rel => exact ⟨k + 1, by omega, by go_num, all_take_succ partI s k hlt HALL.out (by rw [← hp', HA.out]; rfl), _, rfl⟩
              case measure => simp [intOf]; omega
          · have hfin := allI_take partI s k (by omega) hall
            have hf := Lib.hid (nameI_yes s (by omega) hs h2 hfin)
            clear hall hfin
            go_wp2
            go_ret; exact ⟨ret_bool hf.out.symm, _, rfl⟩
      · have h2' : begI (atI s 0) = false := by simpa using h2
        have hf := Lib.hid (nameI_beg s h2')
        go_enter Tryz.func68, Tryz.ntmps68
        go_wp2_with (first | (go_at_call 86; refine (at_any _ _ _).mono ?_; rintro e w' ⟨rfl, hw⟩; rw [hw]; clear hw) | (go_at_call 99; refine (begins_any _ r0.1 r0.2 _).mono ?_; rintro e w' ⟨rfl, n, rfl⟩))
        go_ret; exact ⟨ret_bool hf.out.symm, _, rfl⟩

theorem atI_byte (s : ByteArray) (k : Nat) (h : k < s.size) : atI s (k : Int) = ((s[k]'h).toNat : Int) := by
  rw [atI_in s k (by omega) (by simpa using h)]; rfl

/-- numGo, one step at the index k. -/
theorem numGo_cons (c : UInt8) (l : Bs) (d b : Nat) (pt : Bool) : numGo (c :: l) d b pt =
    if digI (c.toNat : Int) then numGo l (d + 1) (if pt then b + 1 else b) pt else if (c.toNat : Int) = 46 ∧ pt = false ∧ digI (hd l) = true then numGo l d b true else none := rfl
theorem numGo_digit (s : ByteArray) (k d b : Nat) (pt : Bool) (h : k < s.size) (h1 : digI (atI s k) = true) :
    numGo (s.data.toList.drop k) d b pt = numGo (s.data.toList.drop (k + 1)) (d + 1) (if pt then b + 1 else b) pt := by
  rw [drop_cons s k h, numGo_cons, if_pos (by rw [← atI_byte s k h]; exact h1)]
theorem numGo_point (s : ByteArray) (k d b : Nat) (h : k < s.size) (h1 : digI (atI s k) = false) (he : atI s k = 46) (hn : digI (atI s (k + 1)) = true) :
    numGo (s.data.toList.drop k) d b false = numGo (s.data.toList.drop (k + 1)) d b true := by
  have e : (k : Int) + 1 = ((k + 1 : Nat) : Int) := by omega
  rw [e, atI_nat s (k + 1)] at hn
  rw [drop_cons s k h, numGo_cons, ← atI_byte s k h, if_neg (by rw [h1]; decide), if_pos ⟨he, rfl, hn⟩]
theorem numGo_bad (s : ByteArray) (k d b : Nat) (pt : Bool) (h : k < s.size) (h1 : digI (atI s k) = false) (hn : ¬ (atI s k = 46 ∧ pt = false ∧ digI (atI s (k + 1)) = true)) :
    numGo (s.data.toList.drop k) d b pt = none := by
  have e : (k : Int) + 1 = ((k + 1 : Nat) : Int) := by omega
  rw [e, atI_nat s (k + 1)] at hn
  rw [drop_cons s k h, numGo_cons, ← atI_byte s k h, if_neg (by rw [h1]; decide), if_neg hn]
theorem numR_none (s : ByteArray) (h : numGo s.data.toList 0 0 false = none) : numR s = (0, 0, false) := by unfold numR; rw [h]
theorem numR_some (s : ByteArray) (d b : Nat) (h : numGo s.data.toList 0 0 false = some (d, b)) : numR s = (d, b, decide (1 ≤ d) && decide (d ≤ 9)) := by unfold numR; rw [h]

def numV (r : Nat × Nat × Bool) : Value := .tuple #[.int .i64 r.1, .int .i64 r.2.1, .bool r.2.2]

theorem numV_ret {d b : Nat} {x y : Bool} (h : x = y) : Ending.returned (.tuple #[.int .i64 d, .int .i64 b, .bool x]) = .returned (numV (d, b, y)) := by rw [h]; rfl

set_option maxHeartbeats 1000000 in
theorem number_any (s : ByteArray) (hs : s.size ≤ 140737488351232) (w : World) :
    Calls Tryz.prog 48 #[.string s] w fun e w' => e = .returned (numV (numR s)) ∧ w' = w := by
  go_enter Tryz.func48, Tryz.ntmps48
  go_wp2
  go_loop [5, 6, 7, 12] (fun d b pt i => ∃ k d' b' : Nat, ∃ p : Bool, k ≤ s.size ∧ d' ≤ k ∧ b' ≤ k ∧ i = .int .i64 k ∧ d = .int .i64 d' ∧ b = .int .i64 b' ∧ pt = .bool p ∧ numGo s.data.toList 0 0 false = numGo (s.data.toList.drop k) d' b' p) (fun _ _ _ i => s.size - (intOf i).toNat)
  case atStart => exact ⟨0, 0, 0, false, Nat.zero_le _, Nat.le_refl _, Nat.le_refl _, rfl, rfl, rfl, rfl, rfl⟩
  case round =>
    obtain ⟨k, d', b', p, hk, hd', hb', rfl, rfl, rfl, rfl, hgo⟩ := hrel
    have HGO := Lib.hid hgo
    clear hgo
    by_cases hlt : k < s.size
    · by_cases hd : digI (atI s (k : Int)) = true
      · have hstep := Lib.hid (numGo_digit s k d' b' p hlt hd)
        cases p
        · go_wp2_with (first | (go_at_call 86; refine (at_any _ _ _).mono ?_; rintro e w' ⟨rfl, rfl⟩) | (go_at_call 87; refine (digit_any _ _).mono ?_; rintro e w' ⟨rfl, rfl⟩))
          go_round
          case rel => exact ⟨k + 1, d' + 1, b', false, by omega, by omega, by omega, by go_num, by go_num, rfl, rfl, by rw [HGO.out, hstep.out]; rfl⟩
          case measure => simp [intOf]; omega
        · go_wp2_with (first | (go_at_call 86; refine (at_any _ _ _).mono ?_; rintro e w' ⟨rfl, rfl⟩) | (go_at_call 87; refine (digit_any _ _).mono ?_; rintro e w' ⟨rfl, rfl⟩))
          go_round
          case rel => exact ⟨k + 1, d' + 1, b' + 1, true, by omega, by omega, by omega, by go_num, by go_num, by go_num, rfl, by rw [HGO.out, hstep.out]; rfl⟩
          case measure => simp [intOf]; omega
      · have hd0 : digI (atI s (k : Int)) = false := by simpa using hd
        clear hd
        by_cases hpt : atI s (k : Int) = 46 ∧ p = false ∧ digI (atI s ((k : Int) + 1)) = true
        · obtain ⟨he, rfl, hn⟩ := hpt
          have hstep := Lib.hid (numGo_point s k d' b' hlt hd0 he hn)
          have hq : (atI s (k : Int) == 46) = true := by rw [he]; rfl
          clear he
          go_wp2_with (first | (go_at_call 86; refine (at_any _ _ _).mono ?_; rintro e w' ⟨rfl, rfl⟩) | (go_at_call 87; refine (digit_any _ _).mono ?_; rintro e w' ⟨rfl, rfl⟩))
          go_round
          case rel => exact ⟨k + 1, d', b', true, by omega, by omega, by omega, by go_num, rfl, rfl, rfl, by rw [HGO.out, hstep.out]⟩
          case measure => simp [intOf]; omega
        · have hnone := Lib.hid (numR_none s (by rw [HGO.out, numGo_bad s k d' b' p hlt hd0 hpt]))
          go_wp2_with (first | (go_at_call 86; refine (at_any _ _ _).mono ?_; rintro e w' ⟨rfl, rfl⟩) | (go_at_call 87; refine (digit_any _ _).mono ?_; rintro e w' ⟨rfl, rfl⟩))
          all_goals first
            | (exfalso; exact hpt ⟨by assumption, by have hp : ¬ p = true := by assumption
                                                     simpa using hp, by assumption⟩)
            | (go_ret3; exact ⟨by rw [hnone.out]; rfl, rfl⟩)
    · have hgo := HGO.out
      rw [List.drop_of_length_le (by have : s.data.toList.length = s.size := rfl; omega)] at hgo
      have hfin := Lib.hid (numR_some s d' b' (by rw [hgo]; rfl))
      clear hgo
      go_wp2
      all_goals (go_ret3; refine ⟨?_, rfl⟩; rw [hfin.out]; exact numV_ret (by rw [Bool.eq_iff_iff]; simp <;> omega))

set_option maxHeartbeats 400000 in
theorem all_bit (s : ByteArray) (hs : s.size ≤ 140737488351232) (w : World) :
    Calls Tryz.prog 72 #[.string s, .func (.func 73) #[] #[]] w fun e w' => e = .returned (.bool (allI bitI s)) ∧ w' = w := by
  go_enter Tryz.func72, Tryz.ntmps72
  go_wp2
  go_loop [8] (fun i => ∃ k : Nat, k ≤ s.size ∧ i = .int .i64 k ∧ (s.data.toList.take k).all (fun c => bitI (c.toNat : Int)) = true) (fun i => s.size - (intOf i).toNat)
  case atStart => exact ⟨0, Nat.zero_le _, rfl, rfl⟩
  case round =>
    obtain ⟨k, hk, rfl, hall⟩ := hrel
    have HALL := Lib.hid hall
    clear hall
    by_cases hlt : k < s.size
    · go_wp2_with (go_at_call 73; refine (bit_any _ _).mono ?_; rintro e w' ⟨rfl, rfl⟩)
      · have hp : (!bitI (s[k].toNat : Int)) = true := by assumption
        go_ret; exact ⟨ret_bool (allI_false bitI s k hlt (by simpa using hp)).symm, rfl⟩
      · have hp : (!bitI (s[k].toNat : Int)) = false := by assumption
        go_round
        case rel => exact ⟨k + 1, by omega, by go_num, all_take_succ bitI s k hlt HALL.out (by simpa using hp)⟩
        case measure => simp [intOf]; omega
    · have hfin := Lib.hid (allI_take bitI s k (by omega) HALL.out)
      go_wp2
      go_ret; exact ⟨ret_bool hfin.out.symm, rfl⟩
set_option maxHeartbeats 400000 in
theorem all_shown (s : ByteArray) (hs : s.size ≤ 140737488351232) (w : World) :
    Calls Tryz.prog 72 #[.string s, .func (.func 74) #[] #[]] w fun e w' => e = .returned (.bool (allI shownI s)) ∧ w' = w := by
  go_enter Tryz.func72, Tryz.ntmps72
  go_wp2
  go_loop [8] (fun i => ∃ k : Nat, k ≤ s.size ∧ i = .int .i64 k ∧ (s.data.toList.take k).all (fun c => shownI (c.toNat : Int)) = true) (fun i => s.size - (intOf i).toNat)
  case atStart => exact ⟨0, Nat.zero_le _, rfl, rfl⟩
  case round =>
    obtain ⟨k, hk, rfl, hall⟩ := hrel
    have HALL := Lib.hid hall
    clear hall
    by_cases hlt : k < s.size
    · go_wp2_with (go_at_call 74; refine (shown_any _ _).mono ?_; rintro e w' ⟨rfl, rfl⟩)
      · have hp : (!shownI (s[k].toNat : Int)) = true := by assumption
        go_ret; exact ⟨ret_bool (allI_false shownI s k hlt (by simpa using hp)).symm, rfl⟩
      · have hp : (!shownI (s[k].toNat : Int)) = false := by assumption
        go_round
        case rel => exact ⟨k + 1, by omega, by go_num, all_take_succ shownI s k hlt HALL.out (by simpa using hp)⟩
        case measure => simp [intOf]; omega
    · have hfin := Lib.hid (allI_take shownI s k (by omega) HALL.out)
      go_wp2
      go_ret; exact ⟨ret_bool hfin.out.symm, rfl⟩
end Go.Proofs.YtafofcenphopbaaGreatDoor
