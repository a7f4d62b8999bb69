/- Plain functions of the lexer: spelling. -/
import Derived.Test.YtafofcenphopbaaGreatDoorP1
import Derived.Lib.Replace
import Derived.Lib.SplitLaws
namespace Go.Proofs.YtafofcenphopbaaGreatDoor
namespace Lx
/-- Quotes twice. -/
def dbl : Bs → Bs
  | [] => []
  | c :: l => if c = 39 then 39 :: 39 :: dbl l else c :: dbl l

theorem dbl_cons (c : UInt8) (l : Bs) : dbl (c :: l) = if c = 39 then 39 :: 39 :: dbl l else c :: dbl l := rfl
theorem occ0 (c : UInt8) (l : Bs) (h : Lib.occAt (c :: l) [39] 0 = false) : ¬ c = 39 := by
  intro e; subst e; simp [Lib.occAt] at h
theorem dbl_pre (m r : Bs) : (∀ j, j < m.length → Lib.occAt (m ++ r) [39] j = false) → m.count 39 = 0 ∧ dbl (m ++ r) = m ++ dbl r := by
  induction m with
  | nil => intro _; exact ⟨rfl, rfl⟩
  | cons c m im =>
    intro hm
    have hc : ¬ c = 39 := occ0 c (m ++ r) (hm 0 (by simp))
    have hr := im (fun j hj => by have := hm (j + 1) (by simp; omega); simpa [Lib.occAt] using this)
    refine ⟨by simp [hr.1, hc], ?_⟩
    rw [List.cons_append, dbl_cons, if_neg hc, hr.2]; rfl

theorem indexByte_dbl : ∀ (n : Nat) (l : Bs), l.length = n → Lib.replaceK [39] [39, 39] (l.count 39) l = dbl l := by
  intro n
  induction n using Nat.strongRecOn with
  | ind n ih =>
    intro l hl
    rcases Lib.index_spec l [39] with ⟨h1, h2⟩ | ⟨i, h1, h2, h3, h4⟩
    · have hno := dbl_pre l [] (fun j hj => by rw [List.append_nil]; exact h2 j (Nat.le_of_lt hj))
      rw [List.append_nil] at hno
      rw [hno.1, hno.2]; simp [Lib.replaceK, dbl]
    · have hi : i < l.length := by
        rcases Nat.lt_or_ge i l.length with h' | h'
        · exact h'
        · have : i = l.length := by omega
          subst this; simp [Lib.occAt] at h3
      obtain ⟨a, b, hab, hla⟩ : ∃ a b, l = a ++ 39 :: b ∧ a.length = i := by
        refine ⟨l.take i, l.drop (i + 1), ?_, by simp; omega⟩
        have hd := List.drop_eq_getElem_cons hi
        have hc : l[i] = 39 := by
          have := h3; unfold Lib.occAt at this; rw [hd] at this
          simp [List.isPrefixOf] at this; exact this.symm
        rw [hc] at hd
        rw [← hd, List.take_append_drop]
      subst hab
      have hp := dbl_pre a (39 :: b) (fun j hj => h4 j (by omega))
      have hcount : (a ++ 39 :: b).count 39 = b.count 39 + 1 := by
        rw [List.count_append, hp.1]; simp
      rw [hcount, Lib.replaceK_hit _ _ _ _ i h1, hp.2, dbl_cons, if_pos rfl]
      have e1 : (a ++ 39 :: b).take i = a := by rw [← hla]; simp
      have e2 : (a ++ 39 :: b).drop (i + [(39 : UInt8)].length) = b := by
        have : i + [(39 : UInt8)].length = a.length + 1 := by simp [hla]
        rw [this, List.drop_append]; simp
      rw [e1, e2, ih b.length (by simp at hl; omega) b rfl]; simp
theorem replaceAll_dbl (l : Bs) : Lib.replaceAll l [39] [39, 39] = dbl l := by
  unfold Lib.replaceAll Lib.replace
  rw [if_neg (by decide)]
  unfold Lib.replaceNum
  rw [if_pos (.inl (by decide)), Lib.count_one]
  exact indexByte_dbl _ l rfl
theorem dbl_length (l : Bs) : (dbl l).length = l.length + l.count 39 := by
  induction l with
  | nil => rfl
  | cons c l ih =>
    rw [dbl_cons]
    by_cases h : c = 39
    · subst h; simp [ih]; omega
    · rw [if_neg h]; simp [h, ih]; omega
theorem count_le (l : Bs) : l.count 39 ≤ l.length := List.count_le_length
/-- How a token is written. -/
def spellI (k : Int) (t : ByteArray) : ByteArray :=
  if k = 3 then ⟨t.data ++ #[66]⟩
  else if k = 4 then ⟨(39 :: dbl t.data.toList ++ [39]).toArray⟩
  else if k = 5 then ⟨(39 :: t.data.toList ++ [39, 66]).toArray⟩
  else t
end Lx
end Go.Proofs.YtafofcenphopbaaGreatDoor
