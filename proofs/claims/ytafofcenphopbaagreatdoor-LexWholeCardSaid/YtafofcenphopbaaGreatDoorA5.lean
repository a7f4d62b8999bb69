/- Walks: spelling. -/
import Derived.Test.YtafofcenphopbaaGreatDoorA4
import Derived.Test.YtafofcenphopbaaGreatDoorP2
namespace Go.Proofs.YtafofcenphopbaaGreatDoor
open Go.RowKit Lx

/-- The library's variable MaxLen holds an integer. -/
def ML (w : World) : Prop := 3 < w.heap.size ∧ ∃ m : Int, w.cell? ⟨3, 0, none⟩ = some (.int .i64 m)
theorem ML.below {w w' : World} (h : ML w) (hb : Below w.heap.size w w') : ML w' := by
  obtain ⟨h1, m, h2⟩ := h
  exact ⟨Nat.lt_of_lt_of_le h1 hb.size, m, (hb.cell (p := ⟨_, 0, none⟩) h1).trans h2⟩

theorem quotes_any (s : ByteArray) (hs : s.size ≤ 2147483647) (w : World) (hm : ML w) :
    Calls Tryz.prog 84 #[.string s, .string ⟨#[39]⟩, .string ⟨#[39, 39]⟩] w fun e w' => e = .returned (.string ⟨(dbl s.data.toList).toArray⟩) ∧ Below w.heap.size w w' := by
  obtain ⟨_, m, hm⟩ := hm
  have hc : Lib.countB s ⟨#[39]⟩ ≤ s.size := Lib.countB_le _ (by decide) _ s (Nat.le_refl _)
  have h := Tryz.strings_ReplaceAll s ⟨#[39]⟩ ⟨#[39, 39]⟩ m w (by omega) hm (by decide) (by
    have : (⟨#[39, 39]⟩ : ByteArray).size = 2 := rfl
    rw [this]; omega)
  rw [show (⟨#[39]⟩ : ByteArray).data.toList = [39] from rfl, show (⟨#[39, 39]⟩ : ByteArray).data.toList = [39, 39] from rfl, replaceAll_dbl] at h
  exact h

theorem ret_str {a b : ByteArray} (h : a = b) : Ending.returned (.string a) = .returned (.string b) := by rw [h]
theorem ba_ext {a b : ByteArray} (h : a.data.toList = b.data.toList) : a = b := by obtain ⟨⟨x⟩⟩ := a; obtain ⟨⟨y⟩⟩ := b; simpa using h

set_option maxHeartbeats 1000000 in
theorem spell_any (k : Int) (t : ByteArray) (a : Int) (hs : t.size ≤ 2147483647) (w : World) (hm : ML w) :
    Calls Tryz.prog 42 #[.agg #[.int .i64 k, .string t, .int .i64 a]] w fun e w' => e = .returned (.string (spellI k t)) ∧ Below w.heap.size w w' := by
  by_cases h3 : k = 3
  · subst h3
    go_enter Tryz.func42, Tryz.ntmps42
    go_wp2
    go_ret
    exact ⟨ret_str (ba_ext (by simp [spellI])), below_box _ _⟩
  by_cases h4 : k = 4
  · subst h4
    have hd : (dbl t.data.toList).length ≤ 4294967294 := by have := dbl_length t.data.toList; have h2 := count_le t.data.toList; have : t.data.toList.length = t.size := rfl; omega
    have hm1 : ML (w.alloc (.cells #[.int .i64 4, .string t, .int .i64 a] 24)) := hm.below (below_box _ _)
    go_enter Tryz.func42, Tryz.ntmps42
    go_wp2_with (go_at_call 84; refine (quotes_any _ hs _ hm1).mono ?_; rintro e w' ⟨rfl, hb⟩)
    go_ret
    exact ⟨ret_str (ba_ext (by simp [spellI])), below_box_then _ _ _ hb⟩
  by_cases h5 : k = 5
  · subst h5
    go_enter Tryz.func42, Tryz.ntmps42
    go_wp2
    go_ret
    exact ⟨ret_str (ba_ext (by simp [spellI])), below_box _ _⟩
  · have e3 : (k == 3) = false := by simpa using h3
    have e4 : (k == 4) = false := by simpa using h4
    have e5 : (k == 5) = false := by simpa using h5
    have hf : spellI k t = t := by unfold spellI; rw [if_neg h3, if_neg h4, if_neg h5]
    have HF := Lib.hid hf
    clear hf h3 h4 h5
    go_enter Tryz.func42, Tryz.ntmps42
    go_wp2
    go_ret
    exact ⟨by rw [HF.out]; rfl, below_box _ _⟩

set_option maxHeartbeats 1000000 in
theorem Spell_any (k : Int) (t : ByteArray) (a : Int) (hs : t.size ≤ 2147483647) (w : World) (hm : ML w) :
    Calls Tryz.prog 23 #[.agg #[.int .i64 k, .string t, .int .i64 a]] w fun e w' => e = .returned (.tuple #[.string (if checkI k t then spellI k t else ⟨#[]⟩), .int .i64 (errIf (checkI k t))]) ∧ Below w.heap.size w w' := by
  by_cases hc : checkI k t = true
  · go_enter Tryz.func23, Tryz.ntmps23
    go_wp2_with fail
    refine (Check_any k t a (by omega) _).mono ?_
    rintro e w' ⟨rfl, hb0⟩
    have hb := below_box_then _ _ _ hb0
    have k0 := cell_after_box (j := 0) hb0 rfl
    have k1 := cell_after_box (j := 1) hb0 rfl
    have k2 := cell_after_box (j := 2) hb0 rfl
    have hm1 := hm.below hb
    rw [hc]
    go_wp2_with fail
    refine (spell_any k t a hs w' hm1).mono ?_
    rintro e w2 ⟨rfl, hb2⟩
    go_wp2
    go_ret2
    exact ⟨by simp [errIf], hb.trans (hb2.mono hb.size)⟩
  · have hc' : checkI k t = false := by simpa using hc
    go_enter Tryz.func23, Tryz.ntmps23
    go_wp2_with fail
    refine (Check_any k t a (by omega) _).mono ?_
    rintro e w' ⟨rfl, hb0⟩
    have hb := below_box_then _ _ _ hb0
    rw [hc']
    go_wp2
    go_ret2
    exact ⟨by simp [errIf], hb⟩
end Go.Proofs.YtafofcenphopbaaGreatDoor
