/- The reference: At. -/
import Derived.Test.YtafofcenphopbaaDoorA20
import Derived.Test.YtafofcenphopbaaDoorL5
import Derived.Test.YtafofcenphopbaaDoorB2
import Derived.Laws.Rows
import Derived.IntWalk
import Derived.Test.YtafofcenphopbaaDoorA21
namespace Go.Proofs.YtafofcenphopbaaDoor
open Go.RowKit Lx

/-- Line and column behind a text, by going through it. -/
def posF : Bs → Nat → Nat → Nat × Nat
  | [], a, b => (a, b)
  | c :: l, a, b => if c = 10 then posF l (a + 1) 1 else posF l a (b + 1)
theorem posF_app (x y : Bs) : ∀ a b, posF (x ++ y) a b = posF y (posF x a b).1 (posF x a b).2 := by
  induction x with
  | nil => intro a b; rfl
  | cons c x ih =>
    intro a b
    simp only [List.cons_append, posF]
    split <;> exact ih _ _
theorem posF_line (x : Bs) : ∀ a b, (posF x a b).1 = a + x.count 10 := by
  induction x with
  | nil => intro a b; rfl
  | cons c x ih =>
    intro a b
    unfold posF
    by_cases h : c = 10
    · rw [if_pos h, ih, h, List.count_cons_self]; omega
    · rw [if_neg h, ih, List.count_cons_of_ne (by simpa using h)]
theorem posF_flat (x : Bs) : ∀ a b, x.count 10 = 0 → (posF x a b).2 = b + x.length := by
  induction x with
  | nil => intro a b _; rfl
  | cons c x ih =>
    intro a b h
    unfold posF
    by_cases hc : c = 10
    · rw [hc, List.count_cons_self] at h; omega
    · rw [List.count_cons_of_ne (by simpa using hc)] at h
      rw [if_neg hc, ih _ _ h, List.length_cons]; omega
theorem posF_col (x : Bs) : ∀ a b a' b', x.count 10 ≠ 0 → (posF x a b).2 = (posF x a' b').2 := by
  induction x with
  | nil => intro a b a' b' h; exact absurd rfl h
  | cons c x ih =>
    intro a b a' b' h
    unfold posF
    by_cases hc : c = 10
    · rw [if_pos hc, if_pos hc]
      by_cases h0 : x.count 10 = 0
      · rw [posF_flat x _ _ h0, posF_flat x _ _ h0]
      · exact ih _ _ _ _ h0
    · rw [List.count_cons_of_ne (by simpa using hc)] at h
      rw [if_neg hc, if_neg hc]; exact ih _ _ _ _ h
theorem posF_pos (x : Bs) : ∀ a b, 1 ≤ b → 1 ≤ (posF x a b).2 ∧ (posF x a b).2 ≤ b + x.length := by
  induction x with
  | nil => intro a b h; exact ⟨h, Nat.le_refl _⟩
  | cons c x ih =>
    intro a b h
    unfold posF
    split
    · have := ih (a + 1) 1 (Nat.le_refl _); rw [List.length_cons]; exact ⟨this.1, by omega⟩
    · have := ih a (b + 1) (by omega); rw [List.length_cons]; exact ⟨this.1, by omega⟩
theorem nlL_above (l : Bs) : ∀ o n, n ∈ nlL l o → o < n := fun o n h => nlL_ge l o n h
theorem nlL_count (l : Bs) : ∀ (o i : Nat), i ≤ l.length → (nlL l o).countP (fun n => decide (n ≤ o + i)) = (l.take i).count 10 := by
  induction l with
  | nil => intro o i h; simp [nlL]
  | cons c l ih =>
    intro o i h
    cases i with
    | zero =>
      rw [List.take_zero, List.count_nil, List.countP_eq_zero]
      intro n hn
      have := nlL_above _ o n hn
      simp; omega
    | succ i =>
      have := ih (o + 1) i (by simpa using h)
      rw [show o + 1 + i = o + (i + 1) from by omega] at this
      unfold nlL
      by_cases hc : c = 10
      · rw [if_pos hc, List.countP_cons_of_pos (by simp), this, hc, List.take_succ_cons, List.count_cons_self]
      · rw [if_neg hc, this, List.take_succ_cons, List.count_cons_of_ne (by simpa using hc)]
theorem nlL_start (l : Bs) : ∀ (o o0 i a : Nat), i ≤ l.length → o0 ≤ o → posF (l.take i) a (o - o0 + 1) = (a + (l.take i).count 10, o + i - (o0 :: nlL l o).getD ((l.take i).count 10) 0 + 1) ∧ (o0 :: nlL l o).getD ((l.take i).count 10) 0 ≤ o + i := by
  induction l with
  | nil => intro o o0 i a h h2; simp at h; subst h; simp [posF]; exact h2
  | cons c l ih =>
    intro o o0 i a h h2
    cases i with
    | zero => simp [posF]; exact h2
    | succ i =>
      rw [List.take_succ_cons]
      unfold posF nlL
      by_cases hc : c = 10
      · have := ih (o + 1) (o + 1) i (a + 1) (by simpa using h) (Nat.le_refl _)
        rw [show o + 1 - (o + 1) + 1 = 1 from by omega] at this
        rw [if_pos hc, if_pos hc, this.1, hc, List.count_cons_self]
        have e : (o0 :: (o + 1) :: nlL l (o + 1)).getD ((l.take i).count 10 + 1) 0 = ((o + 1) :: nlL l (o + 1)).getD ((l.take i).count 10) 0 := rfl
        rw [e]
        refine ⟨?_, by omega⟩
        rw [show a + 1 + (l.take i).count 10 = a + ((l.take i).count 10 + 1) from by omega, show o + 1 + i = o + (i + 1) from by omega]
      · have := ih (o + 1) o0 i a (by simpa using h) (by omega)
        rw [show o + 1 - o0 + 1 = o - o0 + 1 + 1 from by omega] at this
        rw [if_neg hc, if_neg hc, this.1, List.count_cons_of_ne (by simpa using hc)]
        refine ⟨?_, by omega⟩
        rw [show o + 1 + i = o + (i + 1) from by omega]
theorem nlL_next (l : Bs) : ∀ (o i n : Nat), i ≤ l.length → (nlL l o)[(l.take i).count 10]? = some n → o + i < n := by
  induction l with
  | nil => intro o i n h hn; simp [nlL] at hn
  | cons c l ih =>
    intro o i n h hn
    cases i with
    | zero =>
      rw [List.take_zero, List.count_nil] at hn
      exact nlL_above _ o n (List.mem_of_getElem? hn)
    | succ i =>
      unfold nlL at hn
      rw [List.take_succ_cons] at hn
      by_cases hc : c = 10
      · rw [if_pos hc, hc, List.count_cons_self, List.getElem?_cons_succ] at hn
        have := ih (o + 1) i n (by simpa using h) hn; omega
      · rw [if_neg hc, List.count_cons_of_ne (by simpa using hc)] at hn
        have := ih (o + 1) i n (by simpa using h) hn; omega
theorem lineN_count (s : ByteArray) (i : Nat) (h : i ≤ s.size) : lineN s (i : Int) = 1 + (s.data.toList.take i).count 10 := by
  unfold lineN linesL
  rw [List.countP_cons_of_pos (by simp)]
  have := nlL_count s.data.toList 0 i (by rw [size_list]; exact h)
  rw [Nat.zero_add] at this
  rw [← this, Nat.add_comm]
  congr 1
  apply List.countP_congr
  intro n _
  simp; omega
/-- The place of a byte. -/
def posN (s : ByteArray) (i : Nat) : Nat × Nat := posF (s.data.toList.take i) 1 1
theorem where_pos (s : ByteArray) (i : Nat) (h : i ≤ s.size) (hs : s.size ≤ 20000) : whereL s (i : Int) = (((posN s i).1 : Int), ((posN s i).2 : Int), 0) ∧ (posN s i).1 = lineN s i ∧ (posN s i).2 = i - (linesL s).getD (lineN s i - 1) 0 + 1 ∧ (linesL s).getD (lineN s i - 1) 0 ≤ i := by
  have hst := nlL_start s.data.toList 0 0 i 1 (by rw [size_list]; exact h) (Nat.le_refl _)
  have hln := lineN_count s i h
  have hp : posN s i = (1 + (s.data.toList.take i).count 10, 0 + i - (0 :: nlL s.data.toList 0).getD ((s.data.toList.take i).count 10) 0 + 1) := hst.1
  have e1 : lineN s i - 1 = (s.data.toList.take i).count 10 := by omega
  have h2 := hst.2
  rw [Nat.zero_add] at hp h2
  refine ⟨?_, ?_, ?_, ?_⟩
  · unfold whereL
    rw [if_neg (by omega), if_neg (by omega), hp, e1, hln]
    show (((1 + _ : Nat) : Int), _, (0 : Int)) = _
    unfold linesL
    simp only [Prod.mk.injEq, and_true, true_and]
    omega
  · rw [hp, hln]
  · rw [hp, e1]; first | done | rfl
  · rw [e1]; exact h2
theorem at_pos (s : ByteArray) (i : Nat) (h : i ≤ s.size) (hs : s.size ≤ 20000) : atL s ((posN s i).1 : Int) ((posN s i).2 : Int) = ((i : Int), 0) := by
  obtain ⟨_, h1, h2, h3⟩ := where_pos s i h hs
  have hln := lineN_count s i h
  have hN : lineN s i ≤ (linesL s).length := List.countP_le_length
  have hpos := posF_pos (s.data.toList.take i) 1 1 (Nat.le_refl _)
  have hc1 : 1 ≤ (posN s i).2 := hpos.1
  have hc2 : (posN s i).2 ≤ 1 + i := by have := hpos.2; rw [List.length_take] at this; show (posF _ 1 1).2 ≤ _; omega
  unfold atL
  rw [if_neg (by omega), if_neg (by rw [h1]; omega)]
  simp only
  have e0 : (((posN s i).1 : Int) - 1).toNat = lineN s i - 1 := by rw [h1]; omega
  have e1 : (((posN s i).1 : Int)).toNat = lineN s i := by rw [h1]; omega
  rw [e0, e1]
  have hi : ((linesL s).getD (lineN s i - 1) 0 : Int) + ((posN s i).2 : Int) - 1 = (i : Int) := by rw [h2]; omega
  rw [hi]
  rw [if_neg]
  by_cases hl : ((posN s i).1 : Int) < (linesL s).length
  · rw [if_pos hl]
    rw [h1] at hl
    have hl' : lineN s i < (linesL s).length := by omega
    have hn := nlL_next s.data.toList 0 i ((linesL s).getD (lineN s i) 0) (by rw [size_list]; exact h) (by
      have e : lineN s i = (s.data.toList.take i).count 10 + 1 := by omega
      rw [e] at hl' ⊢
      unfold linesL at hl' ⊢
      rw [List.length_cons] at hl'
      rw [List.getElem?_eq_getElem (by omega), List.getD_cons_succ, List.getD_eq_getElem?_getD, List.getElem?_eq_getElem (by omega)]; rfl)
    omega
  · rw [if_neg hl]; omega
theorem law_moved (s : ByteArray) (i a : Nat) (hs : s.size ≤ 2000) (hi : i ≤ s.size) (ha : a ≤ i) (u : ByteArray) (c : UInt8) (hu : u.data.toList = s.data.toList.take a ++ c :: s.data.toList.drop a) :
    u.size = s.size + 1 ∧ (posN s a).1 ≤ (posN s i).1 ∧ ((posN s a).1 = (posN s i).1 → (posN s i).2 = (posN s a).2 + (i - a)) ∧
    (c = 32 → (posN u (i + 1)).1 = (posN s i).1 ∧ (posN u (i + 1)).2 = if (posN s a).1 = (posN s i).1 then (posN s i).2 + 1 else (posN s i).2) ∧
    (c = 10 → (posN u (i + 1)).1 = (posN s i).1 + 1 ∧ (posN u (i + 1)).2 = if (posN s a).1 = (posN s i).1 then i - a + 1 else (posN s i).2) := by
  have hl : s.data.toList.length = s.size := rfl
  have hul : u.size = s.size + 1 := by
    have := congrArg List.length hu
    rw [size_list] at this
    simp only [List.length_append, List.length_take, List.length_cons, List.length_drop] at this
    omega
  obtain ⟨A, hA⟩ : ∃ A, s.data.toList.take a = A := ⟨_, rfl⟩
  obtain ⟨M, hM⟩ : ∃ M, (s.data.toList.drop a).take (i - a) = M := ⟨_, rfl⟩
  have hAl : A.length = a := by rw [← hA, List.length_take]; omega
  have hMl : M.length = i - a := by rw [← hM, List.length_take, List.length_drop]; omega
  have hti : s.data.toList.take i = A ++ M := by
    rw [← hA, ← hM, show i = a + (i - a) from by omega, List.take_add]
    rw [show a + (i - a) - a = i - a from by omega]
  have htu : u.data.toList.take (i + 1) = A ++ c :: M := by
    rw [hu, hA, List.take_append, List.take_of_length_le (by omega), hAl, show i + 1 - a = (i - a) + 1 from by omega, List.take_succ_cons, hM]
  have p1 : posN s i = posF M (posN s a).1 (posN s a).2 := by unfold posN; rw [hti, posF_app, hA]
  have pu : posN u (i + 1) = posF (c :: M) (posN s a).1 (posN s a).2 := by unfold posN; rw [htu, posF_app, hA]
  have hline := posF_line M (posN s a).1 (posN s a).2
  rw [← p1] at hline
  refine ⟨hul, by omega, fun h => ?_, ?_, ?_⟩
  · rw [p1, posF_flat M _ _ (by omega), hMl]
  · rintro rfl
    have e : posN u (i + 1) = posF M (posN s a).1 ((posN s a).2 + 1) := by rw [pu]; rfl
    rw [e]
    refine ⟨by rw [posF_line, hline], ?_⟩
    split
    · rename_i h
      rw [p1, posF_flat M _ _ (by omega), posF_flat M _ _ (by omega)]; omega
    · rename_i h
      rw [p1]; exact posF_col M _ _ _ _ (by omega)
  · rintro rfl
    have e : posN u (i + 1) = posF M ((posN s a).1 + 1) 1 := by rw [pu]; rfl
    rw [e]
    refine ⟨by rw [posF_line, hline]; omega, ?_⟩
    split
    · rename_i h
      rw [posF_flat M _ _ (by omega), hMl]; omega
    · rename_i h
      rw [p1]; exact posF_col M _ _ _ _ (by omega)
end Go.Proofs.YtafofcenphopbaaDoor
namespace Go.Proofs.YtafofcenphopbaaDoor
open Lx

theorem countP_at : ∀ (L : List Nat) (n x : Nat), L.Pairwise (· < ·) → (∀ j (h : j < L.length), j < n → L[j] ≤ x) → (∀ j (h : j < L.length), n ≤ j → x < L[j]) → n ≤ L.length → L.countP (fun a => decide (a ≤ x)) = n := by
  intro L
  induction L with
  | nil => intro n x _ _ _ hn; simp at hn; simp [hn]
  | cons a L ih =>
    intro n x hs h1 h2 hn
    rw [List.pairwise_cons] at hs
    cases n with
    | zero =>
      have ha := h2 0 (by simp) (Nat.le_refl _)
      simp only [List.getElem_cons_zero] at ha
      rw [List.countP_cons_of_neg (by simp; omega)]
      exact ih 0 x hs.2 (fun j _ hj => absurd hj (Nat.not_lt_zero _)) (fun j h _ => by have := h2 (j + 1) (by simpa using h) (Nat.zero_le _); simpa using this) (Nat.zero_le _)
    | succ n =>
      have ha := h1 0 (by simp) (Nat.succ_pos _)
      simp only [List.getElem_cons_zero] at ha
      rw [List.countP_cons_of_pos (by simpa using ha)]
      rw [ih n x hs.2 (fun j h hj => by have := h1 (j + 1) (by simpa using h) (by omega); simpa using this) (fun j h hj => by have := h2 (j + 1) (by simpa using h) (by omega); simpa using this) (by simpa using hn)]
/-- Where the search finds a place. -/
def isAt (s : ByteArray) (ln col : Int) (i : Nat) : Bool := decide (((posN s i).1 : Int) = ln) && decide (((posN s i).2 : Int) = col)
theorem at_found (s : ByteArray) (ln col : Int) (i : Nat) (hs : s.size ≤ 20000) (hi : i ≤ s.size) (h : isAt s ln col i = true) : atL s ln col = ((i : Int), 0) := by
  unfold isAt at h
  rw [Bool.and_eq_true, decide_eq_true_iff, decide_eq_true_iff] at h
  rw [← h.1, ← h.2]
  exact at_pos s i hi hs
theorem lineN_at (s : ByteArray) (n x : Nat) (hn : n < (linesL s).length) (h1 : (linesL s)[n] ≤ x) (h2 : ∀ h : n + 1 < (linesL s).length, x < (linesL s)[n + 1]) : lineN s (x : Int) = n + 1 := by
  have hsort := linesL_sorted s
  have hmono := fun a b (hab : a < b) (hb : b < (linesL s).length) => List.pairwise_iff_getElem.1 hsort a b (by omega) hb hab
  have e : lineN s (x : Int) = (linesL s).countP (fun a => decide (a ≤ x)) := by
    unfold lineN
    refine List.countP_congr fun a _ => ?_
    simp
    omega
  rw [e]
  refine countP_at _ (n + 1) x hsort (fun j hj hjn => ?_) (fun j hj hjn => ?_) hn
  · rcases Nat.lt_or_ge j n with hlt | hge
    · have := hmono j n hlt hn; omega
    · obtain rfl : j = n := by omega
      exact h1
  · have h3 := h2 (by omega)
    rcases Nat.lt_or_ge (n + 1) j with hlt | hge
    · have := hmono (n + 1) j hlt hj; omega
    · obtain rfl : j = n + 1 := by omega
      exact h3
theorem at_none (s : ByteArray) (ln col : Int) (hs : s.size ≤ 20000) (h : ∀ i, i ≤ s.size → isAt s ln col i = false) : atL s ln col = (0, 1) := by
  unfold atL
  rw [if_neg (by omega)]
  split
  · rfl
  · rename_i hc
    obtain ⟨n, hn⟩ : ∃ n : Nat, ln = ((n + 1 : Nat) : Int) := ⟨(ln - 1).toNat, by omega⟩
    obtain ⟨c, hcc⟩ : ∃ c : Nat, col = ((c + 1 : Nat) : Int) := ⟨(col - 1).toNat, by omega⟩
    subst hn hcc
    have e1 : (((n + 1 : Nat) : Int) - 1).toNat = n := by omega
    have e2 : (((n + 1 : Nat) : Int)).toNat = n + 1 := by omega
    have hnl : n < (linesL s).length := by omega
    have hg : (linesL s).getD n 0 = (linesL s)[n] := by simp [List.getD, hnl]
    have key : ∀ x : Nat, x = (linesL s)[n] + c → x ≤ s.size → (∀ h : n + 1 < (linesL s).length, x < (linesL s)[n + 1]) → False := by
      intro x hx hi h2
      have hcnt := lineN_at s n x hnl (by omega) h2
      have hw := where_pos s x hi hs
      have hf := h x hi
      rw [hcnt] at hw
      rw [show n + 1 - 1 = n from rfl, hg] at hw
      unfold isAt at hf
      rw [hw.2.1, hw.2.2.1] at hf
      simp at hf
      omega
    have h0 : ∀ E : Int, (¬ E < (((linesL s)[n] : Nat) : Int) + ((c + 1 : Nat) : Int) - 1 → False) → (if E < (((linesL s)[n] : Nat) : Int) + ((c + 1 : Nat) : Int) - 1 then ((0 : Int), (1 : Int)) else ((((linesL s)[n] : Nat) : Int) + ((c + 1 : Nat) : Int) - 1, 0)) = (0, 1) := by
      intro E hE
      by_cases hlt : E < (((linesL s)[n] : Nat) : Int) + ((c + 1 : Nat) : Int) - 1
      · rw [if_pos hlt]
      · exact (hE hlt).elim
    rw [e1, e2, hg]
    refine h0 _ fun hle => ?_
    by_cases hlast : n + 1 < (linesL s).length
    · have hg2 : (linesL s).getD (n + 1) 0 = (linesL s)[n + 1] := by simp [List.getD, hlast]
      rw [if_pos (by omega), hg2] at hle
      have := linesL_le s (n + 1) hlast
      exact key _ rfl (by omega) (fun _ => by omega)
    · rw [if_neg (by omega)] at hle
      exact key _ rfl (by omega) (fun h => absurd h hlast)
end Go.Proofs.YtafofcenphopbaaDoor
namespace Go.Proofs.YtafofcenphopbaaDoor
open Go.RowKit Lx

theorem pair_set0 {w : World} {b : Nat} {x y : Value} {T : TypeId} (h : w.heap[b]? = some (.cells #[x, y] T)) (u : Value) : (w.setCell ⟨b, 0, none⟩ u).heap[b]? = some (.cells #[u, y] T) := by
  simp [World.setCell, Array.getElem?_modify, h]
theorem pair_set1 {w : World} {b : Nat} {x y : Value} {T : TypeId} (h : w.heap[b]? = some (.cells #[x, y] T)) (u : Value) : (w.setCell ⟨b, 1, none⟩ u).heap[b]? = some (.cells #[x, u] T) := by
  simp [World.setCell, Array.getElem?_modify, h]
theorem posN_next (s : ByteArray) (k : Nat) (h : k < s.size) : (((s[k]'h).toNat : Int) = 10 → posN s (k + 1) = ((posN s k).1 + 1, 1)) ∧ (¬ ((s[k]'h).toNat : Int) = 10 → posN s (k + 1) = ((posN s k).1, (posN s k).2 + 1)) := by
  unfold posN
  rw [take_snoc s k h, posF_app]
  refine ⟨fun h10 => ?_, fun h10 => ?_⟩
  · have e : s[k] = 10 := (byte_eq _ 10 (by decide)).2 h10
    simp [posF, e]
  · have e : ¬ s[k] = 10 := fun he => h10 ((byte_eq _ 10 (by decide)).1 he)
    simp [posF, e]
theorem posF_bound (l : Bs) : ∀ a b, 1 ≤ b → (posF l a b).1 ≤ a + l.length ∧ (posF l a b).2 ≤ b + l.length := by
  induction l with
  | nil => intro a b _; simp [posF]
  | cons c l ih =>
    intro a b hb
    simp only [posF]
    split
    · have := ih (a + 1) 1 (Nat.le_refl _)
      simp only [List.length_cons]; omega
    · have := ih a (b + 1) (by omega)
      simp only [List.length_cons]; omega
theorem posN_bound (s : ByteArray) (i : Nat) (h : i ≤ s.size) : (posN s i).1 ≤ i + 1 ∧ (posN s i).2 ≤ i + 1 := by
  have := posF_bound (s.data.toList.take i) 1 1 (Nat.le_refl _)
  rw [List.length_take] at this
  unfold posN; omega
set_option maxHeartbeats 1000000 in
set_option maxRecDepth 100000 in
theorem rWhere_in (s : ByteArray) (n : Nat) (hs : s.size ≤ 20000) (hn : n ≤ s.size) (w : World) : Calls Tryd.prog 37 #[.string s, .int .i64 n] w fun e w' =>
    e = .returned (.tuple #[.agg #[.int .i64 (posN s n).1, .int .i64 (posN s n).2], .int .i64 0]) ∧ Below w.heap.size w w' := by
  have g1 : ¬ (20000 : Int) < (s.size : Int) := by omega
  have g2 : ¬ (n : Int) < 0 := by omega
  have g3 : ¬ (s.size : Int) < (n : Int) := by omega
  go_enter Tryd.func37, Tryd.ntmps37
  go_upto_region 6 with fail
  have b1 := below_box w (.cells #[.int .i64 0, .int .i64 0] 45)
  have n1 := heap_alloc_new w (.cells #[.int .i64 0, .int .i64 0] 45)
  have hsz : (w.alloc (.cells #[.int .i64 0, .int .i64 0] 45)).heap.size = w.heap.size + 1 := by simp
  generalize w.alloc (.cells #[.int .i64 0, .int .i64 0] 45) = w1 at b1 n1 hsz ⊢
  have l1 := (Array.getElem?_eq_some_iff.1 n1).1
  have b2 := below_box w1 (.cells #[.int .i64 1, .int .i64 1] 45)
  have n2 := heap_alloc_new w1 (.cells #[.int .i64 1, .int .i64 1] 45)
  have n1 := (b2.block _ l1).trans n1
  have bb := b1.trans (b2.mono b1.size)
  generalize w1.alloc (.cells #[.int .i64 1, .int .i64 1] 45) = w2 at b2 n1 n2 bb ⊢
  rw [hsz] at n2
  clear b1 b2 hsz l1
  go_wp2_with fail
  go_loopw [7] (fun q wr => ∃ k : Nat, k ≤ n ∧ q = .int .i64 k ∧ wr.heap[w.heap.size + 1]? = some (.cells #[.int .i64 (posN s k).1, .int .i64 (posN s k).2] 45) ∧ wr.heap[w.heap.size]? = some (.cells #[.int .i64 0, .int .i64 0] 45) ∧ Below w.heap.size w wr) (fun q _ => n - (intOf q).toNat)
  case atStart => exact ⟨0, Nat.zero_le _, rfl, n2, n1, bb⟩
  case round =>
    obtain ⟨k, hk, rfl, hB, hR, bel⟩ := hrel
    clear n1 n2 bb
    have hbd := posN_bound s k (by omega)
    by_cases hlt : k < n
    · have hl : k < s.size := by omega
      have hltz : (k : Int) < (n : Int) := by omega
      have hz : (k : Int) < (s.size : Int) := by omega
      have hz0 : (0 : Int) ≤ (k : Int) := by omega
      have hnx := posN_next s k hl
      generalize posN s k = P at hB hnx hbd
      obtain ⟨l, c⟩ := P
      simp only at hB hnx hbd
      have HNX := Lib.hid hnx
      clear hnx
      have c0 : wr.cell? ⟨w.heap.size + 1, 0, none⟩ = some (.int .i64 l) := cell_of_row _ _ 0 _ _ _ hB
      have c1 : wr.cell? ⟨w.heap.size + 1, 1, none⟩ = some (.int .i64 c) := cell_of_row _ _ 1 _ _ _ hB
      have f0 := Lib.frozen_of_heap hB 0
      have f1 := Lib.frozen_of_heap hB 1
      have v1 : IntKind.i64.wrap ((c : Int) + 1) = (c : Int) + 1 := IntWalk.i64_in _ (by omega)
      have v2 : IntKind.i64.wrap ((l : Int) + 1) = (l : Int) + 1 := IntWalk.i64_in _ (by omega)
      have HB := Lib.hid hB
      have HR := Lib.hid hR
      clear hB hR
      go_upto_region 10 with fail
      have s1 := pair_set1 HB.out (.int .i64 ((c : Int) + 1))
      have sR := (heap_setCell_other wr ⟨w.heap.size + 1, 1, none⟩ w.heap.size (.int .i64 ((c : Int) + 1)) (by show w.heap.size ≠ w.heap.size + 1; omega)).trans HR.out
      have be1 := bel.setCell (p := ⟨w.heap.size + 1, 1, none⟩) (Nat.le_succ _) (.int .i64 ((c : Int) + 1))
      generalize wr.setCell ⟨w.heap.size + 1, 1, none⟩ (.int .i64 ((c : Int) + 1)) = wa at s1 sR be1 ⊢
      clear c0 c1 f0 f1 HB HR bel
      by_cases h10 : ((s[k]'hl).toNat : Int) = 10
      · have hq : (((s[k]'hl).toNat : Int) == 10) = true := by rw [h10]; rfl
        have he := HNX.out.1 h10
        have HE := Lib.hid he
        clear he h10
        have c0 : wa.cell? ⟨w.heap.size + 1, 0, none⟩ = some (.int .i64 l) := cell_of_row _ _ 0 _ _ _ s1
        have f0 := Lib.frozen_of_heap s1 0
        have HS := Lib.hid s1
        have HR := Lib.hid sR
        clear s1 sR
        go_upto_region 12 with fail
        have s2 := pair_set0 HS.out (.int .i64 ((l : Int) + 1))
        have sR := (heap_setCell_other wa ⟨w.heap.size + 1, 0, none⟩ w.heap.size (.int .i64 ((l : Int) + 1)) (by show w.heap.size ≠ w.heap.size + 1; omega)).trans HR.out
        have be2 := be1.setCell (p := ⟨w.heap.size + 1, 0, none⟩) (Nat.le_succ _) (.int .i64 ((l : Int) + 1))
        generalize wa.setCell ⟨w.heap.size + 1, 0, none⟩ (.int .i64 ((l : Int) + 1)) = wb at s2 sR be2 ⊢
        clear c0 f0 HS HR be1
        have c1 : wb.cell? ⟨w.heap.size + 1, 1, none⟩ = some (.int .i64 ((c : Int) + 1)) := cell_of_row _ _ 1 _ _ _ s2
        have f1 := Lib.frozen_of_heap s2 1
        have s3 := Lib.hid (pair_set1 s2 (.int .i64 1))
        have sR3 := Lib.hid ((heap_setCell_other wb ⟨w.heap.size + 1, 1, none⟩ w.heap.size (.int .i64 1) (by show w.heap.size ≠ w.heap.size + 1; omega)).trans sR)
        have be3 := be2.setCell (p := ⟨w.heap.size + 1, 1, none⟩) (Nat.le_succ _) (.int .i64 1)
        clear s2 sR
        go_wp2_with fail
        go_roundw
        case rel => exact ⟨k + 1, by omega, by go_num, by rw [HE.out]; exact s3.out, sR3.out, be3⟩
        case measure => simp [intOf]; omega
      · have hq : (((s[k]'hl).toNat : Int) == 10) = false := by simpa using h10
        have he := HNX.out.2 h10
        have HE := Lib.hid he
        clear he h10
        have HS := Lib.hid s1
        have HR := Lib.hid sR
        clear s1 sR
        go_wp2_with fail
        go_roundw
        case rel => exact ⟨k + 1, by omega, by go_num, by rw [HE.out]; exact HS.out, HR.out, be1⟩
        case measure => simp [intOf]; omega
    · obtain rfl : k = n := by omega
      have q0 : wr.cell? ⟨w.heap.size + 1, 0, none⟩ = some (.int .i64 (posN s k).1) := cell_of_row _ _ 0 _ _ _ hB
      have q1 : wr.cell? ⟨w.heap.size + 1, 1, none⟩ = some (.int .i64 (posN s k).2) := cell_of_row _ _ 1 _ _ _ hB
      have r0 : wr.cell? ⟨w.heap.size, 0, none⟩ = some (.int .i64 0) := cell_of_row _ _ 0 _ _ _ hR
      have r1 : wr.cell? ⟨w.heap.size, 1, none⟩ = some (.int .i64 0) := cell_of_row _ _ 1 _ _ _ hR
      have f0 := Lib.frozen_of_heap hR 0
      have f1 := Lib.frozen_of_heap hR 1
      have hltz : ¬ (k : Int) < (k : Int) := by omega
      clear hB hR
      go_wp2_with fail
      exact bodyPost_ret (v := .tuple #[.agg #[.int .i64 (posN s k).1, .int .i64 (posN s k).2], .int .i64 0]) (by simp [results, Tryd.results37, go_sem, r0, r1]) rfl ⟨rfl, (bel.setCell (p := ⟨w.heap.size, 0, none⟩) (Nat.le_refl _) _).setCell (p := ⟨w.heap.size, 1, none⟩) (Nat.le_refl _) _⟩
set_option maxHeartbeats 1000000 in
theorem rWhere_any (s : ByteArray) (i : Int) (w : World) : Calls Tryd.prog 37 #[.string s, .int .i64 i] w fun e w' =>
    e = .returned (.tuple #[.agg #[.int .i64 (whereL s i).1, .int .i64 (whereL s i).2.1], .int .i64 (whereL s i).2.2]) ∧ Below w.heap.size w w' := by
  by_cases h1 : 20000 < s.size
  · have h1' : (20000 : Int) < (s.size : Int) := by omega
    have hat : whereL s i = (0, 0, 2) := by unfold whereL; rw [if_pos h1]
    rw [hat]
    clear hat
    go_enter Tryd.func37, Tryd.ntmps37
    go_wp2_with fail
    have b1 := below_box w (.cells #[.int .i64 0, .int .i64 0] 45)
    have n1 := heap_alloc_new w (.cells #[.int .i64 0, .int .i64 0] 45)
    generalize w.alloc (.cells #[.int .i64 0, .int .i64 0] 45) = w1 at b1 n1 ⊢
    have q0 : w1.cell? ⟨w.heap.size, 0, none⟩ = some (.int .i64 0) := cell_of_row _ _ 0 _ _ _ n1
    have q1 : w1.cell? ⟨w.heap.size, 1, none⟩ = some (.int .i64 0) := cell_of_row _ _ 1 _ _ _ n1
    exact bodyPost_ret (v := .tuple #[.agg #[.int .i64 0, .int .i64 0], .int .i64 2]) (by simp [results, Tryd.results37, go_sem, q0, q1]) rfl ⟨rfl, b1⟩
  · have h1' : ¬ (20000 : Int) < (s.size : Int) := by omega
    by_cases h2 : i < 0 ∨ (s.size : Int) < i
    · have hat : whereL s i = (0, 0, 1) := by unfold whereL; rw [if_neg h1, if_pos h2]
      rw [hat]
      clear hat
      go_enter Tryd.func37, Tryd.ntmps37
      go_wp2_with fail
      all_goals (
        have b1 := below_box w (.cells #[.int .i64 0, .int .i64 0] 45)
        have n1 := heap_alloc_new w (.cells #[.int .i64 0, .int .i64 0] 45)
        generalize w.alloc (.cells #[.int .i64 0, .int .i64 0] 45) = w1 at b1 n1 ⊢
        have q0 : w1.cell? ⟨w.heap.size, 0, none⟩ = some (.int .i64 0) := cell_of_row _ _ 0 _ _ _ n1
        have q1 : w1.cell? ⟨w.heap.size, 1, none⟩ = some (.int .i64 0) := cell_of_row _ _ 1 _ _ _ n1
        exact bodyPost_ret (v := .tuple #[.agg #[.int .i64 0, .int .i64 0], .int .i64 1]) (by simp [results, Tryd.results37, go_sem, q0, q1]) rfl ⟨rfl, b1⟩)
    · obtain ⟨n, rfl⟩ : ∃ n : Nat, i = (n : Int) := ⟨i.toNat, by omega⟩
      rw [(where_pos s n (by omega) (by omega)).1]
      exact rWhere_in s n (by omega) (by omega) w
end Go.Proofs.YtafofcenphopbaaDoor
namespace Go.Proofs.YtafofcenphopbaaDoor
open Go.RowKit Lx

theorem eqSpot (l c l' c' : Int) (w : World) : (binOp .eql 45 (.agg #[.int .i64 l, .int .i64 c]) (.agg #[.int .i64 l', .int .i64 c'])).run Tryd.prog w =
    .ok (.bool (decide (l = l') && decide (c = c'))) w := by
  have u3 := Tryd.underlying3
  have a3 := Tryd.isAgg3
  have z3 := Tryd.sizeOf3
  have hS : Tryd.prog.underlying 45 = some (.struct (Tryd.prog.fieldsOf 45)) := by kernel_rfl
  have hp : Tryd.prog.stoodInHeld 45 = false := by kernel_rfl
  rw [run_eql_struct, show (10000 : Nat) = 9999 + 1 from rfl, run_equalIn_agg w 9999 45 _ _ hS hp]
  simp only [Program.fieldsOf, Tryd.underlying45]
  go_simp
  by_cases h1 : l = l' <;> by_cases h2 : c = c' <;> simp [h1, h2]
set_option maxHeartbeats 4000000 in
set_option maxRecDepth 100000 in
theorem rAt_in (s : ByteArray) (ln col : Int) (hs : s.size ≤ 20000) (w : World) : Calls Tryd.prog 38 #[.string s, .agg #[.int .i64 ln, .int .i64 col]] w fun e w' =>
    e = .returned (.tuple #[.int .i64 (atL s ln col).1, .int .i64 (atL s ln col).2]) ∧ Below w.heap.size w w' := by
  have g1 : ¬ (20000 : Int) < (s.size : Int) := by omega
  have hfound := fun i => at_found s ln col i hs
  have hnone := at_none s ln col hs
  generalize atL s ln col = R at hfound hnone ⊢
  have HF := Lib.hid hfound
  have HN := Lib.hid hnone
  clear hfound hnone
  go_enter Tryd.func38, Tryd.ntmps38
  go_upto_region 4 with fail
  have b1 := below_box w (.cells #[.int .i64 ln, .int .i64 col] 45)
  have n1 := heap_alloc_new w (.cells #[.int .i64 ln, .int .i64 col] 45)
  have hsz : (w.alloc (.cells #[.int .i64 ln, .int .i64 col] 45)).heap.size = w.heap.size + 1 := by simp
  generalize w.alloc (.cells #[.int .i64 ln, .int .i64 col] 45) = w1 at b1 n1 hsz ⊢
  have l1 := (Array.getElem?_eq_some_iff.1 n1).1
  have b2 := below_box w1 (.cells #[.int .i64 1, .int .i64 1] 45)
  have n2 := heap_alloc_new w1 (.cells #[.int .i64 1, .int .i64 1] 45)
  have n1 := (b2.block _ l1).trans n1
  have bb := b1.trans (b2.mono b1.size)
  generalize w1.alloc (.cells #[.int .i64 1, .int .i64 1] 45) = w2 at b2 n1 n2 bb ⊢
  rw [hsz] at n2
  clear b1 b2 hsz l1
  go_wp2_with fail
  go_loopw [7] (fun q wr => ∃ k l c : Nat, k ≤ s.size + 1 ∧ q = .int .i64 k ∧ l ≤ k + 1 ∧ c ≤ k + 1 ∧ wr.heap[w.heap.size + 1]? = some (.cells #[.int .i64 l, .int .i64 c] 45) ∧ wr.heap[w.heap.size]? = some (.cells #[.int .i64 ln, .int .i64 col] 45) ∧ Below w.heap.size w wr ∧ (k ≤ s.size → posN s k = (l, c)) ∧ (∀ j, j < k → isAt s ln col j = false)) (fun q _ => s.size + 1 - (intOf q).toNat)
  case atStart => exact ⟨0, 1, 1, Nat.zero_le _, rfl, Nat.le_refl _, Nat.le_refl _, n2, n1, bb, fun _ => rfl, fun j hj => absurd hj (Nat.not_lt_zero _)⟩
  case round =>
    obtain ⟨k, l, c, hk, rfl, hl, hc, hB, hR, bel, hpos, hno⟩ := hrel
    clear n1 n2 bb
    by_cases hle : k ≤ s.size
    · have hlez : (k : Int) ≤ (s.size : Int) := by omega
      have hp := hpos hle
      have hnx := fun h => posN_next s k h
      rw [hp] at hnx
      simp only at hnx
      have HNX := Lib.hid hnx
      have hiq : isAt s ln col k = (decide ((l : Int) = ln) && decide ((c : Int) = col)) := by unfold isAt; rw [hp]
      have heq := fun W => eqSpot l c ln col W
      rw [← hiq] at heq
      have HNO := Lib.hid hno
      clear hpos hp hnx hiq hno
      have c0 : wr.cell? ⟨w.heap.size + 1, 0, none⟩ = some (.int .i64 l) := cell_of_row _ _ 0 _ _ _ hB
      have c1 : wr.cell? ⟨w.heap.size + 1, 1, none⟩ = some (.int .i64 c) := cell_of_row _ _ 1 _ _ _ hB
      have d0 : wr.cell? ⟨w.heap.size, 0, none⟩ = some (.int .i64 ln) := cell_of_row _ _ 0 _ _ _ hR
      have d1 : wr.cell? ⟨w.heap.size, 1, none⟩ = some (.int .i64 col) := cell_of_row _ _ 1 _ _ _ hR
      have f1 := Lib.frozen_of_heap hB 1
      cases hv : isAt s ln col k with
      | true =>
        rw [hv] at heq
        have hfd := Lib.hid (HF.out k hle hv)
        clear hv hB hR
        go_wp2_with fail
        go_ret2
        exact ⟨by rw [hfd.out]; rfl, bel⟩
      | false =>
        rw [hv] at heq
        have HV := Lib.hid hv
        clear hv
        have v1 : IntKind.i64.wrap ((c : Int) + 1) = (c : Int) + 1 := IntWalk.i64_in _ (by omega)
        have v2 : IntKind.i64.wrap ((l : Int) + 1) = (l : Int) + 1 := IntWalk.i64_in _ (by omega)
        have HB := Lib.hid hB
        have HR := Lib.hid hR
        clear hB hR
        go_upto_region 10 with fail
        have s1 := pair_set1 HB.out (.int .i64 ((c : Int) + 1))
        have sR := (heap_setCell_other wr ⟨w.heap.size + 1, 1, none⟩ w.heap.size (.int .i64 ((c : Int) + 1)) (by show w.heap.size ≠ w.heap.size + 1; omega)).trans HR.out
        have be1 := bel.setCell (p := ⟨w.heap.size + 1, 1, none⟩) (Nat.le_succ _) (.int .i64 ((c : Int) + 1))
        generalize wr.setCell ⟨w.heap.size + 1, 1, none⟩ (.int .i64 ((c : Int) + 1)) = wa at s1 sR be1 ⊢
        clear c0 c1 d0 d1 f1 HB HR bel heq
        have hno' : ∀ j, j < k + 1 → isAt s ln col j = false := by
          intro j hj
          rcases Nat.lt_or_ge j k with h | h
          · exact HNO.out j h
          · obtain rfl : j = k := by omega
            exact HV.out
        have HNO' := Lib.hid hno'
        clear hno' HNO HV
        have HS := Lib.hid s1
        have HR := Lib.hid sR
        clear s1 sR
        by_cases hlt : k < s.size
        · have hz : (k : Int) < (s.size : Int) := by omega
          have hz0 : (0 : Int) ≤ (k : Int) := by omega
          by_cases h10 : ((s[k]'hlt).toNat : Int) = 10
          · have hq : (((s[k]'hlt).toNat : Int) == 10) = true := by rw [h10]; rfl
            have HE := Lib.hid ((HNX.out hlt).1 h10)
            clear h10
            have c0 : wa.cell? ⟨w.heap.size + 1, 0, none⟩ = some (.int .i64 l) := cell_of_row _ _ 0 _ _ _ HS.out
            have f0 := Lib.frozen_of_heap HS.out 0
            go_upto_region 12 with fail
            have s2 := pair_set0 HS.out (.int .i64 ((l : Int) + 1))
            have sR := (heap_setCell_other wa ⟨w.heap.size + 1, 0, none⟩ w.heap.size (.int .i64 ((l : Int) + 1)) (by show w.heap.size ≠ w.heap.size + 1; omega)).trans HR.out
            have be2 := be1.setCell (p := ⟨w.heap.size + 1, 0, none⟩) (Nat.le_succ _) (.int .i64 ((l : Int) + 1))
            generalize wa.setCell ⟨w.heap.size + 1, 0, none⟩ (.int .i64 ((l : Int) + 1)) = wb at s2 sR be2 ⊢
            clear c0 f0 HS HR be1
            have c1 : wb.cell? ⟨w.heap.size + 1, 1, none⟩ = some (.int .i64 ((c : Int) + 1)) := cell_of_row _ _ 1 _ _ _ s2
            have f1 := Lib.frozen_of_heap s2 1
            have s3 := Lib.hid (pair_set1 s2 (.int .i64 1))
            have sR3 := Lib.hid ((heap_setCell_other wb ⟨w.heap.size + 1, 1, none⟩ w.heap.size (.int .i64 1) (by show w.heap.size ≠ w.heap.size + 1; omega)).trans sR)
            have be3 := be2.setCell (p := ⟨w.heap.size + 1, 1, none⟩) (Nat.le_succ _) (.int .i64 1)
            clear s2 sR
            go_wp2_with fail
            go_roundw
            case rel => exact ⟨k + 1, l + 1, 1, by omega, by go_num, by omega, by omega, s3.out, sR3.out, be3, fun _ => HE.out, HNO'.out⟩
            case measure => simp [intOf]; omega
          · have hq : (((s[k]'hlt).toNat : Int) == 10) = false := by simpa using h10
            have HE := Lib.hid ((HNX.out hlt).2 h10)
            clear h10
            go_wp2_with fail
            go_roundw
            case rel => exact ⟨k + 1, l, c + 1, by omega, by go_num, by omega, by omega, HS.out, HR.out, be1, fun _ => HE.out, HNO'.out⟩
            case measure => simp [intOf]; omega
        · have hz : ¬ (k : Int) < (s.size : Int) := by omega
          go_wp2_with fail
          go_roundw
          case rel => exact ⟨k + 1, l, c + 1, by omega, by go_num, by omega, by omega, HS.out, HR.out, be1, fun h => by omega, HNO'.out⟩
          case measure => simp [intOf]; omega
    · have hlez : ¬ (k : Int) ≤ (s.size : Int) := by omega
      have hfin := Lib.hid (HN.out fun i hi => hno i (by omega))
      clear hno hpos hB hR
      go_wp2_with fail
      go_ret2
      exact ⟨by rw [hfin.out]; rfl, bel⟩
theorem rAt_any (s : ByteArray) (ln col : Int) (w : World) : Calls Tryd.prog 38 #[.string s, .agg #[.int .i64 ln, .int .i64 col]] w fun e w' =>
    e = .returned (.tuple #[.int .i64 (atL s ln col).1, .int .i64 (atL s ln col).2]) ∧ Below w.heap.size w w' := by
  by_cases h1 : 20000 < s.size
  · have h1' : (20000 : Int) < (s.size : Int) := by omega
    have hat : atL s ln col = (0, 2) := by unfold atL; rw [if_pos h1]
    rw [hat]
    clear hat
    go_enter Tryd.func38, Tryd.ntmps38
    go_wp2_with fail
    go_ret2
    exact ⟨rfl, below_box _ _⟩
  · exact rAt_in s ln col (by omega) w
end Go.Proofs.YtafofcenphopbaaDoor
