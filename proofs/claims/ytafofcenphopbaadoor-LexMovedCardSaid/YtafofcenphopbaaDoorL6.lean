/- Plain laws: places. -/
import Derived.Test.YtafofcenphopbaaDoorA20
import Derived.Test.YtafofcenphopbaaDoorL5
namespace Go.Proofs.YtafofcenphopbaaDoor
open Go.RowKit Lx

/-- Line and column behind a text, by going through it. -/
def posF : Bs → Nat → Nat → Nat × Nat
  | [], a, b => (a, b)
  | c :: l, a, b => if c = 10 then posF l (a + 1) 1 else posF l a (b + 1)
theorem posF_app (x y : Bs) : ∀ a b, posF (x ++ y) a b = posF y (posF x a b).1 (posF x a b).2 := by
  induction x with
  | nil => intro a b; rfl
  | cons c x ih =>
    intro a b
    simp only [List.cons_append, posF]
    split <;> exact ih _ _
theorem posF_line (x : Bs) : ∀ a b, (posF x a b).1 = a + x.count 10 := by
  induction x with
  | nil => intro a b; rfl
  | cons c x ih =>
    intro a b
    unfold posF
    by_cases h : c = 10
    · rw [if_pos h, ih, h, List.count_cons_self]; omega
    · rw [if_neg h, ih, List.count_cons_of_ne (by simpa using h)]
theorem posF_flat (x : Bs) : ∀ a b, x.count 10 = 0 → (posF x a b).2 = b + x.length := by
  induction x with
  | nil => intro a b _; rfl
  | cons c x ih =>
    intro a b h
    unfold posF
    by_cases hc : c = 10
    · rw [hc, List.count_cons_self] at h; omega
    · rw [List.count_cons_of_ne (by simpa using hc)] at h
      rw [if_neg hc, ih _ _ h, List.length_cons]; omega
theorem posF_col (x : Bs) : ∀ a b a' b', x.count 10 ≠ 0 → (posF x a b).2 = (posF x a' b').2 := by
  induction x with
  | nil => intro a b a' b' h; exact absurd rfl h
  | cons c x ih =>
    intro a b a' b' h
    unfold posF
    by_cases hc : c = 10
    · rw [if_pos hc, if_pos hc]
      by_cases h0 : x.count 10 = 0
      · rw [posF_flat x _ _ h0, posF_flat x _ _ h0]
      · exact ih _ _ _ _ h0
    · rw [List.count_cons_of_ne (by simpa using hc)] at h
      rw [if_neg hc, if_neg hc]; exact ih _ _ _ _ h
theorem posF_pos (x : Bs) : ∀ a b, 1 ≤ b → 1 ≤ (posF x a b).2 ∧ (posF x a b).2 ≤ b + x.length := by
  induction x with
  | nil => intro a b h; exact ⟨h, Nat.le_refl _⟩
  | cons c x ih =>
    intro a b h
    unfold posF
    split
    · have := ih (a + 1) 1 (Nat.le_refl _); rw [List.length_cons]; exact ⟨this.1, by omega⟩
    · have := ih a (b + 1) (by omega); rw [List.length_cons]; exact ⟨this.1, by omega⟩
theorem nlL_above (l : Bs) : ∀ o n, n ∈ nlL l o → o < n := fun o n h => nlL_ge l o n h
theorem nlL_count (l : Bs) : ∀ (o i : Nat), i ≤ l.length → (nlL l o).countP (fun n => decide (n ≤ o + i)) = (l.take i).count 10 := by
  induction l with
  | nil => intro o i h; simp [nlL]
  | cons c l ih =>
    intro o i h
    cases i with
    | zero =>
      rw [List.take_zero, List.count_nil, List.countP_eq_zero]
      intro n hn
      have := nlL_above _ o n hn
      simp; omega
    | succ i =>
      have := ih (o + 1) i (by simpa using h)
      rw [show o + 1 + i = o + (i + 1) from by omega] at this
      unfold nlL
      by_cases hc : c = 10
      · rw [if_pos hc, List.countP_cons_of_pos (by simp), this, hc, List.take_succ_cons, List.count_cons_self]
      · rw [if_neg hc, this, List.take_succ_cons, List.count_cons_of_ne (by simpa using hc)]
theorem nlL_start (l : Bs) : ∀ (o o0 i a : Nat), i ≤ l.length → o0 ≤ o → posF (l.take i) a (o - o0 + 1) = (a + (l.take i).count 10, o + i - (o0 :: nlL l o).getD ((l.take i).count 10) 0 + 1) ∧ (o0 :: nlL l o).getD ((l.take i).count 10) 0 ≤ o + i := by
  induction l with
  | nil => intro o o0 i a h h2; simp at h; subst h; simp [posF]; exact h2
  | cons c l ih =>
    intro o o0 i a h h2
    cases i with
    | zero => simp [posF]; exact h2
    | succ i =>
      rw [List.take_succ_cons]
      unfold posF nlL
      by_cases hc : c = 10
      · have := ih (o + 1) (o + 1) i (a + 1) (by simpa using h) (Nat.le_refl _)
        rw [show o + 1 - (o + 1) + 1 = 1 from by omega] at this
        rw [if_pos hc, if_pos hc, this.1, hc, List.count_cons_self]
        have e : (o0 :: (o + 1) :: nlL l (o + 1)).getD ((l.take i).count 10 + 1) 0 = ((o + 1) :: nlL l (o + 1)).getD ((l.take i).count 10) 0 := rfl
        rw [e]
        refine ⟨?_, by omega⟩
        rw [show a + 1 + (l.take i).count 10 = a + ((l.take i).count 10 + 1) from by omega, show o + 1 + i = o + (i + 1) from by omega]
      · have := ih (o + 1) o0 i a (by simpa using h) (by omega)
        rw [show o + 1 - o0 + 1 = o - o0 + 1 + 1 from by omega] at this
        rw [if_neg hc, if_neg hc, this.1, List.count_cons_of_ne (by simpa using hc)]
        refine ⟨?_, by omega⟩
        rw [show o + 1 + i = o + (i + 1) from by omega]
theorem nlL_next (l : Bs) : ∀ (o i n : Nat), i ≤ l.length → (nlL l o)[(l.take i).count 10]? = some n → o + i < n := by
  induction l with
  | nil => intro o i n h hn; simp [nlL] at hn
  | cons c l ih =>
    intro o i n h hn
    cases i with
    | zero =>
      rw [List.take_zero, List.count_nil] at hn
      exact nlL_above _ o n (List.mem_of_getElem? hn)
    | succ i =>
      unfold nlL at hn
      rw [List.take_succ_cons] at hn
      by_cases hc : c = 10
      · rw [if_pos hc, hc, List.count_cons_self, List.getElem?_cons_succ] at hn
        have := ih (o + 1) i n (by simpa using h) hn; omega
      · rw [if_neg hc, List.count_cons_of_ne (by simpa using hc)] at hn
        have := ih (o + 1) i n (by simpa using h) hn; omega
theorem lineN_count (s : ByteArray) (i : Nat) (h : i ≤ s.size) : lineN s (i : Int) = 1 + (s.data.toList.take i).count 10 := by
  unfold lineN linesL
  rw [List.countP_cons_of_pos (by simp)]
  have := nlL_count s.data.toList 0 i (by rw [size_list]; exact h)
  rw [Nat.zero_add] at this
  rw [← this, Nat.add_comm]
  congr 1
  apply List.countP_congr
  intro n _
  simp; omega
/-- The place of a byte. -/
def posN (s : ByteArray) (i : Nat) : Nat × Nat := posF (s.data.toList.take i) 1 1
theorem where_pos (s : ByteArray) (i : Nat) (h : i ≤ s.size) (hs : s.size ≤ 20000) : whereL s (i : Int) = (((posN s i).1 : Int), ((posN s i).2 : Int), 0) ∧ (posN s i).1 = lineN s i ∧ (posN s i).2 = i - (linesL s).getD (lineN s i - 1) 0 + 1 ∧ (linesL s).getD (lineN s i - 1) 0 ≤ i := by
  have hst := nlL_start s.data.toList 0 0 i 1 (by rw [size_list]; exact h) (Nat.le_refl _)
  have hln := lineN_count s i h
  have hp : posN s i = (1 + (s.data.toList.take i).count 10, 0 + i - (0 :: nlL s.data.toList 0).getD ((s.data.toList.take i).count 10) 0 + 1) := hst.1
  have e1 : lineN s i - 1 = (s.data.toList.take i).count 10 := by omega
  have h2 := hst.2
  rw [Nat.zero_add] at hp h2
  refine ⟨?_, ?_, ?_, ?_⟩
  · unfold whereL
    rw [if_neg (by omega), if_neg (by omega), hp, e1, hln]
    show (((1 + _ : Nat) : Int), _, (0 : Int)) = _
    unfold linesL
    simp only [Prod.mk.injEq, and_true, true_and]
    omega
  · rw [hp, hln]
  · rw [hp, e1]; first | done | rfl
  · rw [e1]; exact h2
theorem at_pos (s : ByteArray) (i : Nat) (h : i ≤ s.size) (hs : s.size ≤ 20000) : atL s ((posN s i).1 : Int) ((posN s i).2 : Int) = ((i : Int), 0) := by
  obtain ⟨_, h1, h2, h3⟩ := where_pos s i h hs
  have hln := lineN_count s i h
  have hN : lineN s i ≤ (linesL s).length := List.countP_le_length
  have hpos := posF_pos (s.data.toList.take i) 1 1 (Nat.le_refl _)
  have hc1 : 1 ≤ (posN s i).2 := hpos.1
  have hc2 : (posN s i).2 ≤ 1 + i := by have := hpos.2; rw [List.length_take] at this; show (posF _ 1 1).2 ≤ _; omega
  unfold atL
  rw [if_neg (by omega), if_neg (by rw [h1]; omega)]
  simp only
  have e0 : (((posN s i).1 : Int) - 1).toNat = lineN s i - 1 := by rw [h1]; omega
  have e1 : (((posN s i).1 : Int)).toNat = lineN s i := by rw [h1]; omega
  rw [e0, e1]
  have hi : ((linesL s).getD (lineN s i - 1) 0 : Int) + ((posN s i).2 : Int) - 1 = (i : Int) := by rw [h2]; omega
  rw [hi]
  rw [if_neg]
  by_cases hl : ((posN s i).1 : Int) < (linesL s).length
  · rw [if_pos hl]
    rw [h1] at hl
    have hl' : lineN s i < (linesL s).length := by omega
    have hn := nlL_next s.data.toList 0 i ((linesL s).getD (lineN s i) 0) (by rw [size_list]; exact h) (by
      have e : lineN s i = (s.data.toList.take i).count 10 + 1 := by omega
      rw [e] at hl' ⊢
      unfold linesL at hl' ⊢
      rw [List.length_cons] at hl'
      rw [List.getElem?_eq_getElem (by omega), List.getD_cons_succ, List.getD_eq_getElem?_getD, List.getElem?_eq_getElem (by omega)]; rfl)
    omega
  · rw [if_neg hl]; omega
theorem law_moved (s : ByteArray) (i a : Nat) (hs : s.size ≤ 2000) (hi : i ≤ s.size) (ha : a ≤ i) (u : ByteArray) (c : UInt8) (hu : u.data.toList = s.data.toList.take a ++ c :: s.data.toList.drop a) :
    u.size = s.size + 1 ∧ (posN s a).1 ≤ (posN s i).1 ∧ ((posN s a).1 = (posN s i).1 → (posN s i).2 = (posN s a).2 + (i - a)) ∧
    (c = 32 → (posN u (i + 1)).1 = (posN s i).1 ∧ (posN u (i + 1)).2 = if (posN s a).1 = (posN s i).1 then (posN s i).2 + 1 else (posN s i).2) ∧
    (c = 10 → (posN u (i + 1)).1 = (posN s i).1 + 1 ∧ (posN u (i + 1)).2 = if (posN s a).1 = (posN s i).1 then i - a + 1 else (posN s i).2) := by
  have hl : s.data.toList.length = s.size := rfl
  have hul : u.size = s.size + 1 := by
    have := congrArg List.length hu
    rw [size_list] at this
    simp only [List.length_append, List.length_take, List.length_cons, List.length_drop] at this
    omega
  obtain ⟨A, hA⟩ : ∃ A, s.data.toList.take a = A := ⟨_, rfl⟩
  obtain ⟨M, hM⟩ : ∃ M, (s.data.toList.drop a).take (i - a) = M := ⟨_, rfl⟩
  have hAl : A.length = a := by rw [← hA, List.length_take]; omega
  have hMl : M.length = i - a := by rw [← hM, List.length_take, List.length_drop]; omega
  have hti : s.data.toList.take i = A ++ M := by
    rw [← hA, ← hM, show i = a + (i - a) from by omega, List.take_add]
    rw [show a + (i - a) - a = i - a from by omega]
  have htu : u.data.toList.take (i + 1) = A ++ c :: M := by
    rw [hu, hA, List.take_append, List.take_of_length_le (by omega), hAl, show i + 1 - a = (i - a) + 1 from by omega, List.take_succ_cons, hM]
  have p1 : posN s i = posF M (posN s a).1 (posN s a).2 := by unfold posN; rw [hti, posF_app, hA]
  have pu : posN u (i + 1) = posF (c :: M) (posN s a).1 (posN s a).2 := by unfold posN; rw [htu, posF_app, hA]
  have hline := posF_line M (posN s a).1 (posN s a).2
  rw [← p1] at hline
  refine ⟨hul, by omega, fun h => ?_, ?_, ?_⟩
  · rw [p1, posF_flat M _ _ (by omega), hMl]
  · rintro rfl
    have e : posN u (i + 1) = posF M (posN s a).1 ((posN s a).2 + 1) := by rw [pu]; rfl
    rw [e]
    refine ⟨by rw [posF_line, hline], ?_⟩
    split
    · rename_i h
      rw [p1, posF_flat M _ _ (by omega), posF_flat M _ _ (by omega)]; omega
    · rename_i h
      rw [p1]; exact posF_col M _ _ _ _ (by omega)
  · rintro rfl
    have e : posN u (i + 1) = posF M ((posN s a).1 + 1) 1 := by rw [pu]; rfl
    rw [e]
    refine ⟨by rw [posF_line, hline]; omega, ?_⟩
    split
    · rename_i h
      rw [posF_flat M _ _ (by omega), hMl]; omega
    · rename_i h
      rw [p1]; exact posF_col M _ _ _ _ (by omega)
end Go.Proofs.YtafofcenphopbaaDoor
