/- Walks: the lexer's functions of one character. -/
import Derived.Test.YtafofcenphopbaaGreatDoorRows
import Derived.Test.YtafofcenphopbaaGreatDoorP1
import Derived.WalkKit
import Derived.WalkSpells
import Derived.WalkLawsBesides
import Derived.Test.YtafofcenphopbaaGreatDoorShelf
import Derived.Lib.Hide
import Derived.Deep.QuietTactic
import Derived.BigQuiet
namespace Go.Proofs.YtafofcenphopbaaGreatDoor
open Go.RowKit Lx

theorem ret_bool {a b : Bool} (h : a = b) : Ending.returned (.bool a) = .returned (.bool b) := by rw [h]
theorem ret_int {k : IntKind} {a b : Int} (h : a = b) : Ending.returned (.int k a) = .returned (.int k b) := by rw [h]
theorem wrap32_byte (n : Nat) (h : n < 256) : wrap32 (n : Int) = n := by simp [wrap32]; omega

set_option maxHeartbeats 400000 in
theorem digit_any (c : Int) (w : World) :
    Calls Tryz.prog 87 #[.int .i32 c] w fun e w' => e = .returned (.bool (digI c)) ∧ w' = w := by
  go_enter Tryz.func87, Tryz.ntmps87
  go_wp2
  all_goals (go_ret; exact ⟨ret_bool (by unfold digI; rw [Bool.eq_iff_iff]; simp <;> omega), rfl⟩)

set_option maxHeartbeats 400000 in
theorem letter_any (c : Int) (w : World) :
    Calls Tryz.prog 125 #[.int .i32 c] w fun e w' => e = .returned (.bool (alphI c)) ∧ w' = w := by
  go_enter Tryz.func125, Tryz.ntmps125
  go_wp2
  all_goals (go_ret; exact ⟨ret_bool (by unfold alphI; rw [Bool.eq_iff_iff]; simp <;> omega), rfl⟩)

set_option maxHeartbeats 400000 in
theorem at_any (s : ByteArray) (i : Int) (w : World) :
    Calls Tryz.prog 86 #[.string s, .int .i64 i] w fun e w' => e = .returned (.int .i32 (atI s i)) ∧ w' = w := by
  go_enter Tryz.func86, Tryz.ntmps86
  go_wp2
  · have hx : i < 0 ∨ (s.size : Int) ≤ i := by assumption
    go_ret; exact ⟨ret_int (by rw [atI_out s i hx]), rfl⟩
  · have hx : 0 ≤ i ∧ i < (s.size : Int) := by assumption
    have hlt := (s[i.toNat]'(by omega)).toNat_lt
    go_ret; exact ⟨ret_int (by rw [atI_in s i hx.1 (by omega), wrap32_byte _ hlt]), rfl⟩
  · have hx : i < 0 := by assumption
    go_ret; exact ⟨ret_int (by rw [atI_out s i (.inl hx)]), rfl⟩


theorem quiet_add {P : Program} {f : FuncId} {args : Array Value} {w : World} {a n : Nat} {v : Value}
    (h : Calls P f args (w.drewN (a + n)) fun e w' => e = .returned v ∧ ∃ m, w' = (w.drewN (a + n)).drewN m) :
    Calls P f args (w.drewN (a + n)) fun e w'' => e = .returned v ∧ ∃ m, w'' = w.drewN (a + m) :=
  h.mono fun _ _ ⟨he, m, hm⟩ => ⟨he, n + m, by rw [hm, World.drewN_drewN, Nat.add_assoc]⟩
theorem quiet_add_same {P : Program} {f : FuncId} {args : Array Value} {w : World} {a n : Nat} {v : Value}
    (h : Calls P f args (w.drewN (a + n)) fun e w' => e = .returned v ∧ w' = w.drewN (a + n)) :
    Calls P f args (w.drewN (a + n)) fun e w'' => e = .returned v ∧ ∃ m, w'' = w.drewN (a + m) :=
  h.mono fun _ _ ⟨he, hm⟩ => ⟨he, n, hm⟩

theorem cr_none : ∀ n : Fin 256, 128 ≤ n.val → Lib.indexByte [35, 64] n.val.toUInt8 = -1 := by decide +kernel

theorem cr_some : ∀ n : Fin 128, decide (0 ≤ Lib.indexByte (⟨#[95, 36, 35, 64]⟩ : ByteArray).data.toList ((n.val : Int)).toNat.toUInt8) = symI (n.val : Int) := by decide +kernel

set_option maxHeartbeats 400000 in
set_option maxRecDepth 100000 in
theorem indexRune_neg (w : World) :
    Calls Tryz.prog 123 #[.string ⟨#[95, 36, 35, 64]⟩, .int .i32 (-1)] w fun e w' => e = .returned (.int .i64 (-1)) ∧ w' = w := by
  go_enter Tryz.func123, Tryz.ntmps123
  go_wp2_with fail
  have h : Lib.validRune (-1) = false := by decide
  have hv := Tryz.utf8_ValidRune (-1) w
  rw [h] at hv
  refine hv.mono ?_
  rintro e w' ⟨rfl, rfl⟩
  clear hv h
  go_wp2
  go_ret
  exact ⟨rfl, rfl⟩

theorem enc_two (c : Int) (h0 : 128 ≤ c) (h1 : c ≤ 255) : ∃ x y : UInt8, 128 ≤ y.toNat ∧ Utf8.encode c = ⟨#[x, y]⟩ := by
  refine ⟨UInt8.ofNat (192 + c.toNat / 64), UInt8.ofNat (128 + c.toNat % 64), ?_, ?_⟩
  · rw [UInt8.toNat_ofNat']; omega
  · have hv : Utf8.valid c = true := by unfold Utf8.valid; simp; omega
    unfold Utf8.encode
    simp only [hv, if_true]
    rw [if_neg (by omega), if_pos (by omega)]

theorem validRune_hi (c : Int) (h0 : 128 ≤ c) (h1 : c ≤ 255) (w : World) :
    Calls Tryz.prog 144 #[.int .i32 c] w fun e w' => e = .returned (.bool true) ∧ w' = w := by
  have h : Lib.validRune c = true := by unfold Lib.validRune; simp; omega
  have := Tryz.utf8_ValidRune c w
  rw [h] at this; exact this

set_option maxHeartbeats 400000 in
set_option maxRecDepth 100000 in
theorem indexRune_hi (c : Int) (h0 : 128 ≤ c) (h1 : c ≤ 255) (w : World) :
    Calls Tryz.prog 123 #[.string ⟨#[95, 36, 35, 64]⟩, .int .i32 c] w fun e w' => e = .returned (.int .i64 (-1)) ∧ ∃ n, w' = w.drewN n := by
  have hv : ¬ c = 65533 := by omega
  go_enter Tryz.func123, Tryz.ntmps123
  go_wp2_with fail
  refine (validRune_hi c h0 h1 w).mono ?_
  rintro e w' ⟨rfl, hw⟩
  rw [hw]
  clear hw
  obtain ⟨x, y, hy, henc⟩ := enc_two c h0 h1
  go_wp2_with fail
  go_step3
  go_wp2_with fail
  clear henc
  refine wp_loop_rounds 1 ?_
  rw [rounds_succ]
  go_wp2_with fail
  go_step3
  have hy2 : ((36 : Int) != (y.toNat : Int)) = true := by rw [bne_iff_ne]; omega
  have g1 : ((⟨#[95, 36, 35, 64]⟩ : ByteArray)[1]'(by decide)) = 36 := rfl
  have g2 : ((⟨#[x, y]⟩ : ByteArray)[1]'(by simp [ByteArray.size])) = y := rfl
  have hib : Lib.indexByte [35, 64] y = -1 := by
    have := cr_none ⟨y.toNat, y.toNat_lt⟩ hy
    simpa using this
  go_wp2_with fail
  go_quiet (fail)
  go_wp2_with fail
  go_quiet ((go_at_call 143; exact quiet_add_same (Tryz.strings_IndexByte _ _ _)))
  go_wp2_with fail
  rw [Exit.noGoto_ret]
  go_wp2
  rw [Exit.noGoto_ret]
  go_wp2
  go_ret
  exact ⟨rfl, _, rfl⟩

/-- strings.ContainsRune of the four signs of names, at every character of a text and at -1. -/
theorem containsSym (c : Int) (h0 : -1 ≤ c) (h1 : c ≤ 255) (w : World) :
    Calls Tryz.prog 96 #[.string ⟨#[95, 36, 35, 64]⟩, .int .i32 c] w fun e w' => e = .returned (.bool (symI c)) ∧ ∃ n, w' = w.drewN n := by
  rcases Int.lt_or_le c 0 with hn | hn
  · obtain rfl : c = -1 := by omega
    go_enter Tryz.func96, Tryz.ntmps96
    go_wp2_with fail
    refine (indexRune_neg w).mono ?_
    rintro e w' ⟨rfl, rfl⟩
    go_wp2
    go_ret
    exact ⟨rfl, 0, rfl⟩
  · rcases Int.lt_or_le c 128 with hc | hc
    · refine (Tryz.strings_ContainsRune_ascii ⟨#[95, 36, 35, 64]⟩ c w hn hc).mono ?_
      rintro e w' ⟨rfl, rfl⟩
      refine ⟨ret_bool ?_, 0, rfl⟩
      obtain ⟨n, rfl⟩ := Int.eq_ofNat_of_zero_le hn
      exact cr_some ⟨n, by omega⟩
    · go_enter Tryz.func96, Tryz.ntmps96
      go_wp2_with fail
      refine (indexRune_hi c hc h1 w).mono ?_
      rintro e w' ⟨rfl, n, rfl⟩
      go_wp2
      go_ret
      refine ⟨ret_bool ?_, n, rfl⟩
      unfold symI; symm; simp; omega

/-- A name character. -/
theorem part_any (c : Int) (h0 : -1 ≤ c) (h1 : c ≤ 255) (w : World) :
    Calls Tryz.prog 100 #[.int .i32 c] w fun e w' => e = .returned (.bool (partI c)) ∧ ∃ n, w' = w.drewN n := by
  by_cases ha : alphI c = true
  · go_enter Tryz.func100, Tryz.ntmps100
    go_wp2_with (go_at_call 125; refine (letter_any _ _).mono ?_; rintro e w' ⟨rfl, rfl⟩)
    all_goals (go_ret; exact ⟨ret_bool (by unfold partI; simp [*]), 0, rfl⟩)
  · by_cases hd : digI c = true
    · go_enter Tryz.func100, Tryz.ntmps100
      go_wp2_with (first | (go_at_call 125; refine (letter_any _ _).mono ?_; rintro e w' ⟨rfl, rfl⟩) | (go_at_call 87; refine (digit_any _ _).mono ?_; rintro e w' ⟨rfl, rfl⟩))
      all_goals (go_ret; exact ⟨ret_bool (by unfold partI; simp [*]), 0, rfl⟩)
    · have ha' : alphI c = false := by simpa using ha
      have hd' : digI c = false := by simpa using hd
      go_enter Tryz.func100, Tryz.ntmps100
      go_wp2_with (first | (go_at_call 125; refine (letter_any _ _).mono ?_; rintro e w' ⟨rfl, rfl⟩) | (go_at_call 87; refine (digit_any _ _).mono ?_; rintro e w' ⟨rfl, rfl⟩) | (go_at_call 96; refine (containsSym _ h0 h1 _).mono ?_; rintro e w' ⟨rfl, n, rfl⟩))
      all_goals (go_ret; exact ⟨ret_bool (by unfold partI; simp [*]), _, rfl⟩)

theorem begins_any (c : Int) (h0 : -1 ≤ c) (h1 : c ≤ 255) (w : World) :
    Calls Tryz.prog 99 #[.int .i32 c] w fun e w' => e = .returned (.bool (begI c)) ∧ ∃ n, w' = w.drewN n := by
  go_enter Tryz.func99, Tryz.ntmps99
  go_wp2_with (first | (go_at_call 100; refine (part_any _ h0 h1 _).mono ?_; rintro e w' ⟨rfl, n, rfl⟩) | (go_at_call 87; refine (digit_any _ _).mono ?_; rintro e w' ⟨rfl, rfl⟩))
  all_goals (go_ret; exact ⟨ret_bool (by unfold begI; simp [*]), _, rfl⟩)

end Go.Proofs.YtafofcenphopbaaGreatDoor
