/- The reference: comment. -/
import Derived.Test.YtafofcenphopbaaGreatDoorB2
namespace Go.Proofs.YtafofcenphopbaaGreatDoor
open Go.RowKit Lx

/-- Where the comment ends that begins somewhere. -/
def comR (s : ByteArray) (i : Nat) : Int :=
  if hd (s.data.toList.drop i) = 47 ∧ hd (s.data.toList.drop (i + 1)) = 42 then
    match cmt (s.data.toList.drop i) with
    | none => -1
    | some n => ((i + n : Nat) : Int)
  else 0
theorem hd_at (s : ByteArray) (j : Nat) (hj : j < s.size) : hd (s.data.toList.drop j) = ((s[j]'hj).toNat : Int) := by rw [drop_cons s j hj]; rfl
theorem comR_no (s : ByteArray) (i : Nat) (h : ¬ (hd (s.data.toList.drop i) = 47 ∧ hd (s.data.toList.drop (i + 1)) = 42)) : comR s i = 0 := if_neg h
theorem comR_yes (s : ByteArray) (i : Nat) (h1 : hd (s.data.toList.drop i) = 47) (h2 : hd (s.data.toList.drop (i + 1)) = 42) : comR s i = match cmtR (s.data.toList.drop (i + 2)) with
    | none => -1
    | some n => ((i + 2 + n : Nat) : Int) := by
  unfold comR
  rw [if_pos ⟨h1, h2⟩, cmt_cmtR _ h1 (by rw [List.drop_drop]; exact h2), List.drop_drop]
  cases cmtR (s.data.toList.drop (i + 2)) with
  | none => rfl
  | some n => simp only [Option.map_some]; congr 1; omega
theorem cmtR_short (s : ByteArray) (j : Nat) (h : s.size ≤ j + 1) : cmtR (s.data.toList.drop j) = none := by
  rcases Nat.lt_or_ge j s.size with h' | h'
  · rw [drop_cons s j h', drop_end s (j + 1) h]; rfl
  · rw [drop_end s j h']; rfl
theorem eq10 (c : UInt8) : (c == 10) = ((c.toNat : Int) == 10) := by
  rw [Bool.eq_iff_iff, beq_iff_eq, beq_iff_eq]; exact byte_eq c 10 (by decide)
theorem cmtR_step (s : ByteArray) (j : Nat) (h : j + 1 < s.size) : cmtR (s.data.toList.drop j) = if (shownI ((s[j]'(by omega)).toNat : Int) || ((s[j]'(by omega)).toNat : Int) == 10) = false then none else if ((s[j]'(by omega)).toNat : Int) = 42 ∧ ((s[j + 1]'h).toNat : Int) = 47 then some 2 else (cmtR (s.data.toList.drop (j + 1))).map (· + 1) := by
  rw [drop_cons s j (by omega), drop_cons s (j + 1) h, cmtR_two, eq10]
  have h1 := byte_eq (s[j]'(by omega)) 42 (by decide)
  have h2 := byte_eq (s[j + 1]'h) 47 (by decide)
  split
  · rfl
  · by_cases hc : (s[j]'(by omega)) = 42 ∧ (s[j + 1]'h) = 47
    · rw [if_pos hc, if_pos ⟨h1.1 hc.1, h2.1 hc.2⟩]
    · rw [if_neg hc, if_neg (fun hd => hc ⟨h1.2 hd.1, h2.2 hd.2⟩)]
set_option maxHeartbeats 1000000 in
set_option maxRecDepth 100000 in
theorem comment_any (s : ByteArray) (i : Nat) (hi : i < s.size) (hs : s.size ≤ 1000000) (w : World) : Calls Tryz.prog 129 #[.string s, .int .i64 i] w fun e w' => e = .returned (.int .i64 (comR s i)) ∧ w' = w := by
  by_cases h1 : s.size ≤ i + 1
  · have hr : comR s i = 0 := comR_no s i (by rw [drop_end s (i + 1) h1]; rintro ⟨_, h⟩; exact absurd (show (-1 : Int) = 42 from h) (by decide))
    have HR := Lib.hid hr
    have h1' : (s.size : Int) ≤ (i : Int) + 1 := by omega
    clear hr
    go_enter Tryz.func129, Tryz.ntmps129
    go_wp2_with fail
    go_ret
    exact ⟨by rw [HR.out]; rfl, rfl⟩
  · have h1' : (i : Int) + 1 < (s.size : Int) := by omega
    have h1n : i + 1 < s.size := by omega
    have hx := hd_at s i hi
    have hy := hd_at s (i + 1) h1n
    by_cases h2 : ((s[i]'hi).toNat : Int) = 47
    · by_cases h3 : ((s[i + 1]'h1n).toNat : Int) = 42
      · have hr := comR_yes s i (hx.trans h2) (hy.trans h3)
        have e2 : (((s[i]'hi).toNat : Int) != 47) = false := by rw [bne_eq_false_iff_eq]; exact h2
        have e3 : (((s[i + 1]'h1n).toNat : Int) != 42) = false := by rw [bne_eq_false_iff_eq]; exact h3
        have HR := Lib.hid hr
        clear hr hx hy h2 h3 h1
        go_enter Tryz.func129, Tryz.ntmps129
        go_wp2_with fail
        clear e2 e3
        go_loop [5] (fun q => ∃ j : Nat, i + 2 ≤ j ∧ q = .int .i64 j ∧ j ≤ s.size ∧ cmtR (s.data.toList.drop (i + 2)) = (cmtR (s.data.toList.drop j)).map (· + (j - (i + 2)))) (fun q => s.size - (intOf q).toNat)
        case atStart => exact ⟨i + 2, Nat.le_refl _, by go_num, by omega, by simp⟩
        case round =>
          obtain ⟨j, hij, rfl, hj, hq⟩ := hrel
          by_cases hlt : j + 1 < s.size
          · have hltz : (j : Int) + 1 < (s.size : Int) := by omega
            have hjl : j < s.size := by omega
            have hr := byte_range s j hjl
            rw [cmtR_step s j hlt] at hq
            obtain ⟨r1, r2⟩ := hr
            have hpr := fun W => rprinting_any ((s[j]'hjl).toNat : Int) r1 r2 W
            have HPR := Lib.hid hpr
            clear hpr
            cases hsh : shownI ((s[j]'hjl).toNat : Int) with
            | false =>
              rw [hsh] at HPR hq
              by_cases h10 : ((s[j]'hjl).toNat : Int) = 10
              · have e10 : (((s[j]'hjl).toNat : Int) != 10) = false := by rw [bne_eq_false_iff_eq]; exact h10
                have e42 : (((s[j]'hjl).toNat : Int) == 42) = false := by rw [beq_eq_false_iff_ne]; omega
                rw [if_neg (by rw [beq_iff_eq.2 h10]; decide), if_neg (by omega)] at hq
                have HQ := Lib.hid hq
                clear hq h10 hsh
                go_wp2_with (go_at_call 148; refine (HPR.out _).mono ?_; rintro e w' ⟨rfl, hw⟩; rw [hw]; clear hw)
                go_round
                case rel => exact ⟨j + 1, by omega, by go_num, by omega, by rw [HQ.out]; cases cmtR (s.data.toList.drop (j + 1)) with | none => rfl | some m => simp; omega⟩
                case measure => simp [intOf]; omega
              · have e10 : (((s[j]'hjl).toNat : Int) != 10) = true := by rw [bne_iff_ne]; exact h10
                rw [if_pos (by rw [beq_eq_false_iff_ne.2 h10]; decide)] at hq
                have HQ := Lib.hid hq
                clear hq h10 hsh
                go_wp2_with (go_at_call 148; refine (HPR.out _).mono ?_; rintro e w' ⟨rfl, hw⟩; rw [hw]; clear hw)
                go_ret
                exact ⟨by rw [HR.out, HQ.out]; rfl, rfl⟩
            | true =>
              rw [hsh] at HPR hq
              rw [if_neg (by simp)] at hq
              by_cases h42 : ((s[j]'hjl).toNat : Int) = 42
              · have e42 : (((s[j]'hjl).toNat : Int) == 42) = true := by rw [beq_iff_eq]; exact h42
                by_cases h47 : ((s[j + 1]'hlt).toNat : Int) = 47
                · have e47 : (((s[j + 1]'hlt).toNat : Int) == 47) = true := by rw [beq_iff_eq]; exact h47
                  rw [if_pos ⟨h42, h47⟩] at hq
                  have HQ := Lib.hid hq
                  clear hq h42 h47 hsh
                  go_wp2_with (go_at_call 148; refine (HPR.out _).mono ?_; rintro e w' ⟨rfl, hw⟩; rw [hw]; clear hw)
                  go_ret
                  exact ⟨ret_int (by rw [HR.out, HQ.out]; show ((j : Int) + 2) = ((i + 2 + (2 + (j - (i + 2))) : Nat) : Int); omega), rfl⟩
                · have e47 : (((s[j + 1]'hlt).toNat : Int) == 47) = false := by rw [beq_eq_false_iff_ne]; exact h47
                  rw [if_neg (by rintro ⟨_, h⟩; exact h47 h)] at hq
                  have HQ := Lib.hid hq
                  clear hq h42 h47 hsh
                  go_wp2_with (go_at_call 148; refine (HPR.out _).mono ?_; rintro e w' ⟨rfl, hw⟩; rw [hw]; clear hw)
                  go_round
                  case rel => exact ⟨j + 1, by omega, by go_num, by omega, by rw [HQ.out]; cases cmtR (s.data.toList.drop (j + 1)) with | none => rfl | some m => simp; omega⟩
                  case measure => simp [intOf]; omega
              · have e42 : (((s[j]'hjl).toNat : Int) == 42) = false := by rw [beq_eq_false_iff_ne]; exact h42
                rw [if_neg (by rintro ⟨h, _⟩; exact h42 h)] at hq
                have HQ := Lib.hid hq
                clear hq h42 hsh
                go_wp2_with (go_at_call 148; refine (HPR.out _).mono ?_; rintro e w' ⟨rfl, hw⟩; rw [hw]; clear hw)
                go_round
                case rel => exact ⟨j + 1, by omega, by go_num, by omega, by rw [HQ.out]; cases cmtR (s.data.toList.drop (j + 1)) with | none => rfl | some m => simp; omega⟩
                case measure => simp [intOf]; omega
          · have hltz : ¬ (j : Int) + 1 < (s.size : Int) := by omega
            rw [cmtR_short s j (by omega)] at hq
            have HQ := Lib.hid hq
            clear hq
            go_wp2_with fail
            go_ret
            exact ⟨by rw [HR.out, HQ.out]; rfl, rfl⟩
      · have hr : comR s i = 0 := comR_no s i (by rw [hy]; rintro ⟨_, h⟩; exact h3 h)
        have e2 : (((s[i]'hi).toNat : Int) != 47) = false := by rw [bne_eq_false_iff_eq]; exact h2
        have e3 : (((s[i + 1]'h1n).toNat : Int) != 42) = true := by rw [bne_iff_ne]; exact h3
        have HR := Lib.hid hr
        clear hr hx hy h2 h3 h1
        go_enter Tryz.func129, Tryz.ntmps129
        go_wp2_with fail
        go_ret
        exact ⟨by rw [HR.out]; rfl, rfl⟩
    · have hr : comR s i = 0 := comR_no s i (by rw [hx]; rintro ⟨h, _⟩; exact h2 h)
      have e2 : (((s[i]'hi).toNat : Int) != 47) = true := by rw [bne_iff_ne]; exact h2
      have HR := Lib.hid hr
      clear hr hx hy h2 h1
      go_enter Tryz.func129, Tryz.ntmps129
      go_wp2_with fail
      go_ret
      exact ⟨by rw [HR.out]; rfl, rfl⟩
end Go.Proofs.YtafofcenphopbaaGreatDoor
