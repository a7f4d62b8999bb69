/- Constant and Literal, at whatever arguments. -/
import Derived.Test.YtafofcenphopbaaGreatDoorA27
namespace Go.Proofs.YtafofcenphopbaaGreatDoor
open Go.RowKit Lx

theorem Constant_any (k : Int) (t : ByteArray) (a : Int) (hs : t.size ≤ 140737488351232) (w : World) : Calls Tryz.prog 14 #[.agg #[.int .i64 k, .string t, .int .i64 a]] w (ConQ k t w) := by
  cases hc : checkI k t with
  | false => exact Constant_bad k t a hs hc w
  | true =>
    by_cases h2 : k = 2
    · subst h2; exact Constant_2 t a hs hc hc w
    by_cases h3 : k = 3
    · subst h3
      have h := hc
      unfold checkI at h
      simp at h
      exact Constant_3 t a hs hc h.1.2 h.2 w
    by_cases h4 : k = 4
    · subst h4; exact Constant_4 t a hs hc w
    by_cases h5 : k = 5
    · subst h5; exact Constant_5 t a hs hc w
    exact Constant_none k t a hs hc h2 h3 h4 h5 w

def decT (l : Bs) (p q : Nat) : ByteArray := if q = 0 then ⟨l.toArray⟩ else ⟨(l.take (p - q) ++ 46 :: l.drop (p - q)).toArray⟩
def numK (k p q n : Int) : Int × ByteArray := if k = 2 then (3, ⟨(digL 2 n.natAbs p.toNat []).toArray⟩) else (2, decT (digL 10 n.natAbs p.toNat []) p.toNat q.toNat)
def litI (k p q : Int) (vary : Bool) (pic : ByteArray) (n : Int) (s : ByteArray) : List (Int × ByteArray) × Int :=
  if litT k p q vary pic = false then ([], 5)
  else if litV k p n s = false then ([], 6)
  else if k = 3 then ([(4, s)], 0)
  else if k = 4 then ([(5, s)], 0)
  else ((if n < 0 then [(6, ⟨#[45]⟩)] else []) ++ [numK k p q n], 0)
theorem litT_cases {k p q : Int} {vary : Bool} {pic : ByteArray} (h : litT k p q vary pic = true) :
    (k = 1 ∧ 1 ≤ p ∧ p ≤ 9 ∧ 0 ≤ q ∧ q ≤ p) ∨ (k = 2 ∧ 1 ≤ p ∧ p ≤ 31 ∧ q = 0) ∨ (k = 3 ∧ 0 ≤ p ∧ p ≤ 255 ∧ q = 0) ∨ (k = 4 ∧ 0 ≤ p ∧ p ≤ 64 ∧ q = 0) := by
  unfold litT plainT at h
  split at h
  · rename_i e; simp at h; exact .inl ⟨e, h.2.1, h.2.2.1, h.2.2.2.1, h.2.2.2.2⟩
  · split at h
    · rename_i e; simp at h; exact .inr (.inl ⟨e, h.2.1, h.2.2, h.1.1⟩)
    · split at h
      · rename_i e; simp at h; exact .inr (.inr (.inl ⟨e, h.2.1, h.2.2, h.1.1⟩))
      · split at h
        · rename_i e; simp at h; exact .inr (.inr (.inr ⟨e, h.2.1, h.2.2, h.1.1⟩))
        · cases h
theorem litT_plain {k p q : Int} {vary : Bool} {pic : ByteArray} (h : litT k p q vary pic = true) : vary = false ∧ pic.toList = [] := by
  unfold litT plainT at h
  repeat' split at h
  all_goals (simp at h <;> first | exact h.1.2 | exact h.1)
theorem litV_num {k p n : Int} {s : ByteArray} (hk : k = 1 ∨ k = 2) (h : litV k p n s = true) : s.toList = [] ∧ n < mostN k p ∧ -(mostN k p : Int) < n := by
  unfold litV at h
  rw [if_pos hk] at h
  simpa using h
theorem litV_text {k p n : Int} {s : ByteArray} (hk : ¬ (k = 1 ∨ k = 2)) (h : litV k p n s = true) : n = 0 ∧ (s.size : Int) = p ∧ allI (if k = 3 then shownI else bitI) s = true := by
  unfold litV at h
  rw [if_neg hk] at h
  simpa using h
theorem mostN_le (k p : Int) (h : (k = 1 ∧ p ≤ 9) ∨ (k = 2 ∧ p ≤ 31)) : mostN k p ≤ 2147483648 := by
  unfold mostN
  rcases h with ⟨rfl, h⟩ | ⟨rfl, h⟩
  · exact Nat.le_trans (Nat.pow_le_pow_right (by decide) (show p.toNat ≤ 9 by omega)) (by decide)
  · exact Nat.le_trans (Nat.pow_le_pow_right (by decide) (show p.toNat ≤ 31 by omega)) (by decide)
theorem Literal_any (k p q n : Int) (vary : Bool) (pic s : ByteArray) (hs : s.size ≤ 140737488351232) (w : World) :
    Calls Tryz.prog 16 #[.agg #[.int .i64 k, .int .i64 p, .int .i64 q, .bool vary, .string pic], .agg #[.int .i64 n, .string s]] w (LitQ (litI k p q vary pic n s).1 (litI k p q vary pic n s).2 w) := by
  cases ht : litT k p q vary pic with
  | false =>
    rw [show litI k p q vary pic n s = ([], 5) from if_pos ht]
    exact Literal_type k p q n vary pic s ht w
  | true =>
    have hc := litT_cases ht
    cases hv : litV k p n s with
    | false =>
      rw [show litI k p q vary pic n s = ([], 6) from by unfold litI; rw [if_neg (by rw [ht]; decide), if_pos hv]]
      rcases hc with ⟨rfl, a, b, _, _⟩ | ⟨rfl, a, b, _⟩ | ⟨rfl, _, _, _⟩ | ⟨rfl, _, _, _⟩
      · exact Literal_value1 p q n vary pic s ht hv ⟨a, b⟩ w
      · exact Literal_value2 p q n vary pic s ht hv ⟨a, b⟩ w
      · exact Literal_value3 p q n vary pic s ht hv hs w
      · exact Literal_value4 p q n vary pic s ht hv hs w
    | true =>
      have hl : litI k p q vary pic n s = if k = 3 then ([(4, s)], 0) else if k = 4 then ([(5, s)], 0) else ((if n < 0 then [(6, ⟨#[45]⟩)] else []) ++ [numK k p q n], 0) := by
        unfold litI; rw [if_neg (by rw [ht]; decide), if_neg (by rw [hv]; decide)]
      rcases hc with ⟨rfl, a, b, c, d⟩ | ⟨rfl, a, b, rfl⟩ | ⟨rfl, _, _, _⟩ | ⟨rfl, _, _, _⟩
      · rw [hl, if_neg (by decide), if_neg (by decide)]
        obtain ⟨_, h1, h2⟩ := litV_num (.inl rfl) hv
        have hm := mostN_le 1 p (.inl ⟨rfl, b⟩)
        obtain ⟨P, rfl⟩ : ∃ P : Nat, p = P := ⟨p.toNat, by omega⟩
        obtain ⟨Q, rfl⟩ : ∃ Q : Nat, q = Q := ⟨q.toNat, by omega⟩
        by_cases hq : Q = 0
        · subst hq
          by_cases hn : n < 0
          · obtain ⟨m, rfl⟩ : ∃ m : Nat, n = -(m : Int) := ⟨n.natAbs, by omega⟩
            have := Literal_10n0 P m vary pic s ⟨(digL 10 m P []).toArray⟩ ht hv rfl (by omega) (by omega) (by omega) (by omega) w
            rw [if_pos hn]
            simpa [numK, decT] using this
          · obtain ⟨m, rfl⟩ : ∃ m : Nat, n = (m : Int) := ⟨n.natAbs, by omega⟩
            have := Literal_10p0 P m vary pic s ⟨(digL 10 m P []).toArray⟩ ht hv rfl (by omega) (by omega) (by omega) w
            rw [if_neg hn]
            simpa [numK, decT] using this
        · obtain ⟨D, rfl⟩ : ∃ D, P = D + Q := ⟨P - Q, by omega⟩
          have hDQ : D + Q - Q = D := by omega
          rw [Int.natCast_add] at ht hv ⊢
          have hto : ((D : Int) + (Q : Int)).toNat = D + Q := by omega
          by_cases hn : n < 0
          · obtain ⟨m, rfl⟩ : ∃ m : Nat, n = -(m : Int) := ⟨n.natAbs, by omega⟩
            have := Literal_10n1 D Q m vary pic s ⟨(digL 10 m (D + Q) []).toArray⟩ ht hv rfl (by omega) (by omega) (by omega) (by omega) (by omega) w
            rw [if_pos hn]
            simpa [numK, decT, hq, hto, hDQ] using this
          · obtain ⟨m, rfl⟩ : ∃ m : Nat, n = (m : Int) := ⟨n.natAbs, by omega⟩
            have := Literal_10p1 D Q m vary pic s ⟨(digL 10 m (D + Q) []).toArray⟩ ht hv rfl (by omega) (by omega) (by omega) (by omega) w
            rw [if_neg hn]
            simpa [numK, decT, hq, hto, hDQ] using this
      · rw [hl, if_neg (by decide), if_neg (by decide)]
        obtain ⟨_, h1, h2⟩ := litV_num (.inr rfl) hv
        have hm := mostN_le 2 p (.inr ⟨rfl, b⟩)
        obtain ⟨P, rfl⟩ : ∃ P : Nat, p = P := ⟨p.toNat, by omega⟩
        by_cases hn : n < 0
        · obtain ⟨m, rfl⟩ : ∃ m : Nat, n = -(m : Int) := ⟨n.natAbs, by omega⟩
          have := Literal_2n0 P m vary pic s ⟨(digL 2 m P []).toArray⟩ ht hv rfl (by omega) (by omega) (by omega) (by omega) w
          rw [if_pos hn]
          simpa [numK] using this
        · obtain ⟨m, rfl⟩ : ∃ m : Nat, n = (m : Int) := ⟨n.natAbs, by omega⟩
          have := Literal_2p0 P m vary pic s ⟨(digL 2 m P []).toArray⟩ ht hv rfl (by omega) (by omega) (by omega) w
          rw [if_neg hn]
          simpa [numK] using this
      · rw [hl, if_pos rfl]
        obtain ⟨rfl, _, _⟩ := litV_text (by decide) hv
        exact Literal_3 p q vary pic s ht hv hs w
      · rw [hl, if_neg (by decide), if_pos rfl]
        obtain ⟨rfl, _, _⟩ := litV_text (by decide) hv
        exact Literal_4 p q vary pic s ht hv hs w
end Go.Proofs.YtafofcenphopbaaGreatDoor
