/- Plain functions of the lexer: what stands at the beginning of a text. -/
import Derived.Test.YtafofcenphopbaaGreatDoorP2
namespace Go.Proofs.YtafofcenphopbaaGreatDoor
namespace Lx
/-- How long a constant of digits is, and whether it has a point. -/
def numScan : Bs → Bool → Nat × Bool
  | [], p => (0, p)
  | c :: l, p =>
    if (c.toNat : Int) = 46 ∧ p = false ∧ digI (hd l) = true then ((numScan l true).1 + 1, (numScan l true).2)
    else if digI (c.toNat : Int) = true then ((numScan l p).1 + 1, (numScan l p).2)
    else (0, p)
theorem numScan_cons (c : UInt8) (l : Bs) (p : Bool) : numScan (c :: l) p =
    if (c.toNat : Int) = 46 ∧ p = false ∧ digI (hd l) = true then ((numScan l true).1 + 1, (numScan l true).2)
    else if digI (c.toNat : Int) = true then ((numScan l p).1 + 1, (numScan l p).2) else (0, p) := rfl
/-- B or b. -/
def isB (c : Int) : Bool := c == 66 || c == 98
/-- A token that was read: kind, text, length; whether it ends well. -/
structure Got where
  kind : Int
  text : Bs
  len : Nat
  ok : Bool
def numTok (l : Bs) : Got :=
  let n := (numScan l false).1
  let p := (numScan l false).2
  if isB (hd (l.drop n)) = true ∧ p = false then ⟨3, l.take n, n + 1, !partI (hd (l.drop (n + 1)))⟩
  else ⟨2, l.take n, n, !partI (hd (l.drop n))⟩
/-- The characters up to the closing quote, and how many bytes these have with it. -/
def quo : Bs → Option (Bs × Nat)
  | [] => none
  | c :: l =>
    if shownI (c.toNat : Int) = false then none
    else if c = 39 then
      match l with
      | [] => some ([], 1)
      | d :: r => if d = 39 then (quo r).map fun x => (39 :: x.1, x.2 + 2) else some ([], 1)
    else (quo l).map fun x => (c :: x.1, x.2 + 1)
/-- A constant in quotes; l begins with the quote. -/
def quoTok (l : Bs) : Option Got :=
  (quo (l.drop 1)).map fun x =>
    if isB (hd (l.drop (x.2 + 1))) = true then ⟨5, x.1, x.2 + 2, !partI (hd (l.drop (x.2 + 2)))⟩
    else ⟨4, x.1, x.2 + 1, !partI (hd (l.drop (x.2 + 1)))⟩
/-- How many name characters stand ahead. -/
def nameLen : Bs → Nat
  | [] => 0
  | c :: l => if partI (c.toNat : Int) = true then nameLen l + 1 else 0
def isSign (t : Bs) (signs : List ByteArray) : Bool := signs.any fun s => decide (s = ⟨t.toArray⟩)
/-- The next token. -/
def nextI (signs : List ByteArray) (l : Bs) : Option Got :=
  if begI (hd l) = true then some ⟨1, (l.take (nameLen l)).map upC, nameLen l, true⟩
  else if hd l = 39 then quoTok l
  else if digI (hd l) = true ∨ (hd l = 46 ∧ digI (hd (l.drop 1)) = true) then some (numTok l)
  else if 2 ≤ l.length ∧ isSign (l.take 2) signs = true then some ⟨6, l.take 2, 2, true⟩
  else if 1 ≤ l.length ∧ isSign (l.take 1) signs = true then some ⟨6, l.take 1, 1, true⟩
  else none

theorem numScan_le (l : Bs) : ∀ p, (numScan l p).1 ≤ l.length := by
  induction l with
  | nil => intro p; exact Nat.le_refl _
  | cons c l ih =>
    intro p
    rw [numScan_cons]
    have h1 := ih true
    have h2 := ih p
    split
    · simp; omega
    · split
      · simp; omega
      · simp
theorem nameLen_le (l : Bs) : nameLen l ≤ l.length := by
  induction l with
  | nil => exact Nat.le_refl _
  | cons c l ih => unfold nameLen; split <;> simp <;> omega
theorem numScan_point (s : ByteArray) (k : Nat) (h1 : atI s k = 46) (h2 : digI (atI s (k + 1)) = true) :
    numScan (s.data.toList.drop k) false = ((numScan (s.data.toList.drop (k + 1)) true).1 + 1, (numScan (s.data.toList.drop (k + 1)) true).2) := by
  have hk : k < s.size := by
    rcases Nat.lt_or_ge k s.size with h | h
    · exact h
    · rw [atI_out s k (by omega)] at h1; cases h1
  have e : (k : Int) + 1 = ((k + 1 : Nat) : Int) := by omega
  rw [e, atI_nat s (k + 1)] at h2
  rw [atI_in s k (by omega) (by simpa using hk)] at h1
  rw [drop_cons s k hk, numScan_cons, if_pos ⟨h1, rfl, h2⟩]
theorem numScan_digit (s : ByteArray) (k : Nat) (p : Bool) (h1 : digI (atI s k) = true) :
    numScan (s.data.toList.drop k) p = ((numScan (s.data.toList.drop (k + 1)) p).1 + 1, (numScan (s.data.toList.drop (k + 1)) p).2) := by
  have hk : k < s.size := by
    rcases Nat.lt_or_ge k s.size with h | h
    · exact h
    · rw [atI_out s k (by omega)] at h1; cases h1
  rw [atI_in s k (by omega) (by simpa using hk)] at h1
  have h1' : digI ((s[k].toNat : Nat) : Int) = true := h1
  rw [drop_cons s k hk, numScan_cons, if_neg, if_pos h1']
  rintro ⟨h, _⟩
  rw [h] at h1'; cases h1'
theorem numScan_end (s : ByteArray) (k : Nat) (p : Bool) (h1 : digI (atI s k) = false) (h2 : ¬ (atI s k = 46 ∧ p = false ∧ digI (atI s (k + 1)) = true)) :
    numScan (s.data.toList.drop k) p = (0, p) := by
  rcases Nat.lt_or_ge k s.size with hk | hk
  · have e : (k : Int) + 1 = ((k + 1 : Nat) : Int) := by omega
    rw [e, atI_nat s (k + 1), atI_in s k (by omega) (by simpa using hk)] at h2
    rw [atI_in s k (by omega) (by simpa using hk)] at h1
    have h1' : digI ((s[k].toNat : Nat) : Int) = false := h1
    rw [drop_cons s k hk, numScan_cons, if_neg (by simpa using h2), if_neg (by rw [h1']; decide)]
  · rw [List.drop_of_length_le (by have : s.data.toList.length = s.size := rfl; omega)]; rfl
theorem quo_cons (c : UInt8) (l : Bs) : quo (c :: l) =
    if shownI (c.toNat : Int) = false then none
    else if c = 39 then
      match l with
      | [] => some ([], 1)
      | d :: r => if d = 39 then (quo r).map fun x => (39 :: x.1, x.2 + 2) else some ([], 1)
    else (quo l).map fun x => (c :: x.1, x.2 + 1) := by
  conv => lhs; unfold quo
  rfl
theorem atI_lt (s : ByteArray) (j : Nat) (h : 0 ≤ atI s j) : j < s.size := by
  rcases Nat.lt_or_ge j s.size with h' | h'
  · exact h'
  · rw [atI_out s j (by omega)] at h; omega
theorem atI_get (s : ByteArray) (j : Nat) (h : j < s.size) : atI s (j : Int) = ((s[j]'h).toNat : Int) := by
  rw [atI_in s j (by omega) (by simpa using h)]; rfl
theorem byte_eq (c : UInt8) (n : Nat) (hn : n < 256) : c = UInt8.ofNat n ↔ (c.toNat : Int) = n := by
  constructor
  · rintro rfl; simp; omega
  · intro h; have : c.toNat = n := by omega
    rw [← this]; simp
theorem is39 (c : UInt8) : c = 39 ↔ (c.toNat : Int) = 39 := byte_eq c 39 (by decide)
theorem shown_pos {c : Int} (h : shownI c = true) : 32 ≤ c ∧ c ≤ 126 := by unfold shownI at h; simpa using h
theorem quo_bad (s : ByteArray) (j : Nat) (h : shownI (atI s j) = false) : quo (s.data.toList.drop j) = none := by
  rcases Nat.lt_or_ge j s.size with hj | hj
  · rw [atI_get s j hj] at h
    rw [drop_cons s j hj, quo_cons, if_pos h]
  · rw [List.drop_of_length_le (by have : s.data.toList.length = s.size := rfl; omega)]; rfl
theorem quo_end (s : ByteArray) (j : Nat) (h : atI s j = 39) (h2 : ¬ atI s (j + 1) = 39) : quo (s.data.toList.drop j) = some ([], 1) := by
  have hj := atI_lt s j (by omega)
  have hg := atI_get s j hj
  rw [drop_cons s j hj, quo_cons, if_neg (by rw [← hg, h]; decide), if_pos (by rw [is39, ← hg, h])]
  rcases Nat.lt_or_ge (j + 1) s.size with hk | hk
  · rw [drop_cons s (j + 1) hk]
    have hg2 := atI_get s (j + 1) hk
    have : ¬ s[j + 1] = 39 := by rw [is39, ← hg2]; exact h2
    simp [this]
  · rw [List.drop_of_length_le (by have : s.data.toList.length = s.size := rfl; omega)]
theorem quo_two (s : ByteArray) (j : Nat) (h : atI s j = 39) (h2 : atI s (j + 1) = 39) : quo (s.data.toList.drop j) = (quo (s.data.toList.drop (j + 2))).map fun x => (39 :: x.1, x.2 + 2) := by
  have hj := atI_lt s j (by omega)
  have hg := atI_get s j hj
  have e : (j : Int) + 1 = ((j + 1 : Nat) : Int) := by omega
  rw [e] at h2
  have hk := atI_lt s (j + 1) (by omega)
  have hg2 := atI_get s (j + 1) hk
  rw [drop_cons s j hj, quo_cons, if_neg (by rw [← hg, h]; decide), if_pos (by rw [is39, ← hg, h]), drop_cons s (j + 1) hk]
  have : s[j + 1] = 39 := by rw [is39, ← hg2]; exact h2
  simp [this]
theorem quo_plain (s : ByteArray) (j : Nat) (hj : j < s.size) (h : shownI (atI s j) = true) (h2 : ¬ atI s j = 39) : quo (s.data.toList.drop j) = (quo (s.data.toList.drop (j + 1))).map fun x => (s[j] :: x.1, x.2 + 1) := by
  have hg := atI_get s j hj
  rw [drop_cons s j hj, quo_cons, if_neg (by rw [← hg, h]; decide), if_neg (by rw [is39, ← hg]; exact h2)]
theorem map_two {o : Option (Bs × Nat)} (acc : Bs) (c : UInt8) (n m : Nat) : (o.map fun x => (c :: x.1, x.2 + m)).map (fun x => (acc ++ x.1, x.2 + n)) = o.map fun x => ((acc ++ [c]) ++ x.1, x.2 + (n + m)) := by
  cases o with
  | none => rfl
  | some x => simp; omega
theorem quoTok_none (s : ByteArray) (i : Nat) (h : quo (s.data.toList.drop (i + 1)) = none) : quoTok (s.data.toList.drop i) = none := by
  unfold quoTok; rw [List.drop_drop, h]; rfl
theorem quoTok_some (s : ByteArray) (i : Nat) (t : Bs) (n : Nat) (h : quo (s.data.toList.drop (i + 1)) = some (t, n)) : quoTok (s.data.toList.drop i) =
    some (if isB (atI s ((i + 1 + n : Nat) : Int)) = true then ⟨5, t, n + 2, !partI (atI s ((i + 1 + n + 1 : Nat) : Int))⟩ else ⟨4, t, n + 1, !partI (atI s ((i + 1 + n : Nat) : Int))⟩) := by
  unfold quoTok; rw [List.drop_drop, h, atI_nat, atI_nat]
  simp only [Option.map_some, List.drop_drop]
  rw [show i + (n + 1) = i + 1 + n from by omega, show i + (n + 2) = i + 1 + n + 1 from by omega]
theorem quo_len : ∀ (l : Bs) (t : Bs) (n : Nat), quo l = some (t, n) → n ≤ l.length ∧ t.length ≤ n := by
  intro l
  induction h : l.length using Nat.strongRecOn generalizing l with
  | ind m ih =>
    intro t n hq
    match l, h with
    | [], _ => cases hq
    | c :: l, h =>
      rw [quo_cons] at hq
      split at hq
      · cases hq
      · split at hq
        · match l, h, hq with
          | [], h, hq => simp at hq; obtain ⟨rfl, rfl⟩ := hq; simp at h; simp; omega
          | d :: r, h, hq =>
            simp only at hq
            split at hq
            · rw [Option.map_eq_some_iff] at hq
              obtain ⟨⟨t', n'⟩, hq, he⟩ := hq
              have := ih r.length (by simp at h; omega) r rfl t' n' hq
              simp at he h; obtain ⟨rfl, rfl⟩ := he; simp; omega
            · simp at hq h; obtain ⟨rfl, rfl⟩ := hq; simp; omega
        · rw [Option.map_eq_some_iff] at hq
          obtain ⟨⟨t', n'⟩, hq, he⟩ := hq
          have := ih l.length (by simp at h; omega) l rfl t' n' hq
          simp at he h; obtain ⟨rfl, rfl⟩ := he; simp; omega
theorem nameLen_step (s : ByteArray) (j : Nat) (h : partI (atI s j) = true) (hj : j < s.size) : nameLen (s.data.toList.drop j) = nameLen (s.data.toList.drop (j + 1)) + 1 := by
  rw [drop_cons s j hj]
  conv => lhs; unfold nameLen
  rw [if_pos (by rw [← atI_get s j hj]; exact h)]
theorem nameLen_end (s : ByteArray) (j : Nat) (h : partI (atI s j) = false) : nameLen (s.data.toList.drop j) = 0 := by
  rcases Nat.lt_or_ge j s.size with hj | hj
  · rw [drop_cons s j hj]
    unfold nameLen
    rw [if_neg (by rw [← atI_get s j hj, h]; decide)]
  · rw [List.drop_of_length_le (by have : s.data.toList.length = s.size := rfl; omega)]; rfl
theorem part_lt (s : ByteArray) (j : Nat) (h : partI (atI s j) = true) : j < s.size := by
  rcases Nat.lt_or_ge j s.size with h' | h'
  · exact h'
  · rw [atI_out s j (by omega)] at h; exact absurd h (by decide)

theorem numScan_pos (l : Bs) (p : Bool) (h : digI (hd l) = true) : 1 ≤ (numScan l p).1 := by
  cases l with
  | nil => exact absurd h (by decide)
  | cons c l =>
    rw [numScan_cons]
    split
    · simp
    · rw [if_pos (by exact h)]; simp
theorem numTok_pos (l : Bs) (h : digI (hd l) = true ∨ (hd l = 46 ∧ digI (hd (l.drop 1)) = true)) : 1 ≤ (numTok l).len := by
  have h1 : 1 ≤ (numScan l false).1 := by
    rcases h with h | ⟨h, h2⟩
    · exact numScan_pos l false h
    · cases l with
      | nil => exact absurd h (by decide)
      | cons c l =>
        rw [numScan_cons, if_pos ⟨h, rfl, h2⟩]; simp
  unfold numTok; simp only; split <;> simp <;> omega
theorem nextI_pos (signs : List ByteArray) (l : Bs) (g : Got) (h : nextI signs l = some g) : 1 ≤ g.len := by
  unfold nextI at h
  split at h
  · rename_i hb
    cases h
    cases l with
    | nil => exact absurd hb (by decide)
    | cons c l =>
      have hp : partI (c.toNat : Int) = true := by
        have : begI ((c.toNat : Nat) : Int) = true := hb
        unfold begI at this; simp at this; exact this.1.1
      simp [nameLen, hp]
  · split at h
    · unfold quoTok at h
      rw [Option.map_eq_some_iff] at h
      obtain ⟨x, _, rfl⟩ := h
      split <;> simp
    · split at h
      · rename_i hn
        cases h; exact numTok_pos l hn
      · split at h
        · cases h; simp
        · split at h
          · cases h; simp
          · cases h
/-- How long the comment is that stands ahead. -/
def cmt (l : Bs) : Option Nat :=
  if Lib.index (l.drop 2) [42, 47] < 0 then none
  else if (l.take ((Lib.index (l.drop 2) [42, 47]).toNat + 4)).all (fun c => shownI (c.toNat : Int) || c == 10) then some ((Lib.index (l.drop 2) [42, 47]).toNat + 4)
  else none
/-- Over blanks, line feeds and comments: whether all is well, the place, the comments. -/
def spaceI : Nat → Bs → Nat → Bool × Nat × List (Nat × Nat)
  | 0, _, i => (true, i, [])
  | f + 1, l, i =>
    if hd l = 32 ∨ hd l = 10 then spaceI f (l.drop 1) (i + 1)
    else if hd l = 47 ∧ hd (l.drop 1) = 42 then
      match cmt l with
      | none => (false, i, [])
      | some n => ((spaceI f (l.drop n) (i + n)).1, (spaceI f (l.drop n) (i + n)).2.1, (i, i + n) :: (spaceI f (l.drop n) (i + n)).2.2)
    else (true, i, [])
structure Tok where
  kind : Int
  text : ByteArray
  at_ : Nat
structure Res where
  toks : List Tok
  coms : List (Nat × Nat)
  at_ : Nat
  err : Int
def Res.addT (t : Tok) (r : Res) : Res := { r with toks := t :: r.toks }
def Res.addC (c : Nat × Nat) (r : Res) : Res := { r with coms := c :: r.coms }
/-- The tokens and comments from a place on; nt tokens stand ahead. -/
def scanU : Nat → Bs → Nat → Nat → Res
  | 0, _, _, _ => ⟨[], [], 0, 0⟩
  | f + 1, l, i, nt =>
    if l = [] then ⟨[], [], 0, 0⟩
    else if hd l = 32 ∨ hd l = 10 then scanU f (l.drop 1) (i + 1) nt
    else if hd l = 47 ∧ hd (l.drop 1) = 42 then
      match cmt l with
      | none => ⟨[], [], i, 50⟩
      | some n => (scanU f (l.drop n) (i + n) nt).addC (i, i + n)
    else
      match nextI signList l with
      | none => ⟨[], [], i, 50⟩
      | some g =>
        if g.ok = false ∨ checkI g.kind ⟨g.text.toArray⟩ = false then ⟨[], [], i, 50⟩
        else if nt = 5000 then ⟨[], [], i, 2⟩
        else (scanU f (l.drop g.len) (i + g.len) (nt + 1)).addT ⟨g.kind, ⟨g.text.toArray⟩, i⟩
def scanR (s : ByteArray) : Res := if 20000 < s.size then ⟨[], [], 0, 2⟩ else scanU s.size s.data.toList 0 0

theorem spaceI_end (f : Nat) (l : Bs) (i : Nat) (h1 : ¬ (hd l = 32 ∨ hd l = 10)) (h2 : ¬ (hd l = 47 ∧ hd (l.drop 1) = 42)) : spaceI f l i = (true, i, []) := by
  cases f with
  | zero => rfl
  | succ f => unfold spaceI; rw [if_neg h1, if_neg h2]
theorem cmt_pos {l : Bs} {n : Nat} (h : cmt l = some n) : 4 ≤ n := by
  unfold cmt at h
  split at h
  · cases h
  · split at h
    · cases h; omega
    · cases h
theorem hd_nil_ne (c : Int) (h : 0 ≤ c) : ¬ hd [] = c := by simp [hd]; omega
theorem spaceI_fuel : ∀ (f g : Nat) (l : Bs) (i : Nat), l.length ≤ f → l.length ≤ g → spaceI f l i = spaceI g l i := by
  intro f
  induction f with
  | zero =>
    intro g l i hf hg
    have : l = [] := List.eq_nil_of_length_eq_zero (by omega)
    subst this
    rw [spaceI_end g [] i (by simp [hd]) (by simp [hd])]; rfl
  | succ f ih =>
    intro g l i hf hg
    cases g with
    | zero =>
      have : l = [] := List.eq_nil_of_length_eq_zero (by omega)
      subst this
      rw [spaceI_end (f + 1) [] i (by simp [hd]) (by simp [hd])]; rfl
    | succ g =>
      cases l with
      | nil => rw [spaceI_end _ [] i (by simp [hd]) (by simp [hd]), spaceI_end _ [] i (by simp [hd]) (by simp [hd])]
      | cons c l =>
        simp only [List.length_cons] at hf hg
        unfold spaceI
        split
        · exact ih g _ _ (by simp; omega) (by simp; omega)
        · split
          · split
            · rfl
            · rename_i n hn
              have := cmt_pos hn
              have e := ih g ((c :: l).drop n) (i + n) (by simp; omega) (by simp; omega)
              rw [e]
          · rfl
/-- Over blanks and comments, from a place of a text on. -/
def spc (s : ByteArray) (i : Nat) : Bool × Nat × List (Nat × Nat) := spaceI (s.size - i) (s.data.toList.drop i) i
theorem drop_len (s : ByteArray) (i : Nat) : (s.data.toList.drop i).length = s.size - i := by
  have : s.data.toList.length = s.size := rfl
  rw [List.length_drop, this]
theorem spc_blank (s : ByteArray) (j : Nat) (h : atI s j = 32 ∨ atI s j = 10) : spc s j = spc s (j + 1) := by
  have hj : j < s.size := atI_lt s j (by omega)
  unfold spc
  obtain ⟨f, hf⟩ : ∃ f, s.size - j = f + 1 := ⟨s.size - j - 1, by omega⟩
  rw [hf]
  conv => lhs; unfold spaceI
  rw [if_pos (by rw [← atI_nat]; exact h), List.drop_drop]
  exact spaceI_fuel _ _ _ _ (by rw [drop_len]; omega) (by rw [drop_len]; omega)
theorem spc_none (s : ByteArray) (j : Nat) (h1 : atI s j = 47) (h2 : atI s (j + 1) = 42) (h3 : cmt (s.data.toList.drop j) = none) : spc s j = (false, j, []) := by
  have hj : j < s.size := atI_lt s j (by omega)
  have e : (j : Int) + 1 = ((j + 1 : Nat) : Int) := by omega
  rw [e, atI_nat] at h2
  unfold spc
  obtain ⟨f, hf⟩ : ∃ f, s.size - j = f + 1 := ⟨s.size - j - 1, by omega⟩
  rw [hf]
  unfold spaceI
  rw [← atI_nat, if_neg (by omega), List.drop_drop, if_pos ⟨h1, h2⟩, h3]
theorem spc_com (s : ByteArray) (j n : Nat) (h1 : atI s j = 47) (h2 : atI s (j + 1) = 42) (h3 : cmt (s.data.toList.drop j) = some n) :
    spc s j = ((spc s (j + n)).1, (spc s (j + n)).2.1, (j, j + n) :: (spc s (j + n)).2.2) := by
  have hj : j < s.size := atI_lt s j (by omega)
  have e : (j : Int) + 1 = ((j + 1 : Nat) : Int) := by omega
  rw [e, atI_nat] at h2
  have hn := cmt_pos h3
  unfold spc
  obtain ⟨f, hf⟩ : ∃ f, s.size - j = f + 1 := ⟨s.size - j - 1, by omega⟩
  rw [hf]
  conv => lhs; unfold spaceI
  rw [← atI_nat, if_neg (by omega), List.drop_drop, if_pos ⟨h1, h2⟩, h3]
  simp only [List.drop_drop]
  have e := spaceI_fuel f (s.size - (j + n)) (s.data.toList.drop (j + n)) (j + n) (by rw [drop_len]; omega) (by rw [drop_len]; omega)
  rw [e]
theorem spc_stop (s : ByteArray) (j : Nat) (h1 : ¬ (atI s j = 32 ∨ atI s j = 10)) (h2 : ¬ (atI s j = 47 ∧ atI s (j + 1) = 42)) : spc s j = (true, j, []) := by
  have e : (j : Int) + 1 = ((j + 1 : Nat) : Int) := by omega
  rw [e, atI_nat s (j + 1)] at h2
  unfold spc
  exact spaceI_end _ _ _ (by rw [← atI_nat]; exact h1) (by rw [← atI_nat, List.drop_drop]; exact h2)
theorem extract_end (s : ByteArray) (k : Nat) : (s.extract k s.size).data.toList = s.data.toList.drop k := by
  simp [ByteArray.data_extract, List.take_drop]
  rw [List.take_of_length_le]
  have : s.data.toList.length = s.size := rfl
  simp at this ⊢; omega
/-- The comment that begins at j: none without an end; else by its characters. -/
theorem cmt_noend (s : ByteArray) (j : Nat) (h : Lib.index (s.extract (j + 2) s.size).data.toList [42, 47] < 0) : cmt (s.data.toList.drop j) = none := by
  rw [extract_end] at h
  unfold cmt; rw [List.drop_drop, if_pos h]
theorem cmt_end (s : ByteArray) (j k : Nat) (h : Lib.index (s.extract (j + 2) s.size).data.toList [42, 47] = k) : j + k + 4 ≤ s.size ∧ cmt (s.data.toList.drop j) =
    if ((s.data.toList.drop j).take (k + 4)).all (fun c => shownI (c.toNat : Int) || c == 10) then some (k + 4) else none := by
  have hr := Lib.index_room _ _ (by rw [h]; omega)
  rw [h] at hr
  rw [extract_end] at h hr
  have hl := drop_len s (j + 2)
  refine ⟨?_, ?_⟩
  · rw [hl] at hr; simp at hr; omega
  · unfold cmt; rw [List.drop_drop, if_neg (by rw [h]; omega), h]; simp
theorem take_drop_snoc (s : ByteArray) (j p : Nat) (h : j + p < s.size) : (s.data.toList.drop j).take (p + 1) = (s.data.toList.drop j).take p ++ [s[j + p]'h] := by
  rw [List.take_succ_eq_append_getElem (by rw [drop_len]; omega)]
  congr 2
  simp [ByteArray.getElem_eq_getElem_data]
theorem all_drop_succ (f : UInt8 → Bool) (s : ByteArray) (j p : Nat) (h : j + p < s.size) (h1 : ((s.data.toList.drop j).take p).all f = true) (h2 : f (s[j + p]'h) = true) :
    ((s.data.toList.drop j).take (p + 1)).all f = true := by
  rw [take_drop_snoc s j p h, List.all_append, h1]; simp [h2]
theorem all_drop_bad (f : UInt8 → Bool) (s : ByteArray) (j p n : Nat) (h : j + p < s.size) (hp : p < n) (h2 : f (s[j + p]'h) = false) : ((s.data.toList.drop j).take n).all f = false := by
  rw [List.all_eq_false]
  refine ⟨s[j + p]'h, ?_, by rw [h2]; decide⟩
  have hl : p < ((s.data.toList.drop j).take n).length := by rw [List.length_take, drop_len]; omega
  have : ((s.data.toList.drop j).take n)[p]'hl = s[j + p]'h := by simp [ByteArray.getElem_eq_getElem_data]
  rw [← this]; exact List.getElem_mem hl
end Lx
end Go.Proofs.YtafofcenphopbaaGreatDoor
