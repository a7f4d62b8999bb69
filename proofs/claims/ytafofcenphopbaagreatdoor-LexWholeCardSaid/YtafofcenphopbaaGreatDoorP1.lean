/- Plain functions of the lexer: characters, names, numbers. No program in sight. -/
import Derived.Below
namespace Go.Proofs.YtafofcenphopbaaGreatDoor
namespace Lx
abbrev Bs := List UInt8
/-- The code of the first byte; -1 at the end. -/
def hd : Bs → Int
  | [] => -1
  | c :: _ => (c.toNat : Int)
/-- The code of the byte at an index; -1 outside. -/
def atI (s : ByteArray) (i : Int) : Int := if 0 ≤ i then hd (s.data.toList.drop i.toNat) else -1
def digI (c : Int) : Bool := decide (48 ≤ c) && decide (c ≤ 57)
def alphI (c : Int) : Bool := (decide (65 ≤ c) && decide (c ≤ 90)) || (decide (97 ≤ c) && decide (c ≤ 122))
def symI (c : Int) : Bool := c == 95 || c == 36 || c == 35 || c == 64
def partI (c : Int) : Bool := alphI c || digI c || symI c
def begI (c : Int) : Bool := partI c && !digI c && c != 95

theorem hd_range (l : Bs) : -1 ≤ hd l ∧ hd l ≤ 255 := by
  cases l with
  | nil => simp [hd]
  | cons c l => have := c.toNat_lt; simp [hd]; omega
theorem atI_range (s : ByteArray) (i : Int) : -1 ≤ atI s i ∧ atI s i ≤ 255 := by
  unfold atI; split
  · exact hd_range _
  · omega
theorem atI_out (s : ByteArray) (i : Int) (h : i < 0 ∨ (s.size : Int) ≤ i) : atI s i = -1 := by
  unfold atI
  split
  · rw [List.drop_of_length_le (by have : s.data.toList.length = s.size := rfl; omega)]; rfl
  · rfl
theorem drop_cons (s : ByteArray) (k : Nat) (h : k < s.size) : s.data.toList.drop k = s[k] :: s.data.toList.drop (k + 1) := by
  rw [List.drop_eq_getElem_cons (by exact h)]; rfl
theorem atI_in (s : ByteArray) (i : Int) (h0 : 0 ≤ i) (h : i.toNat < s.size) : atI s i = ((s[i.toNat]'h).toNat : Int) := by
  unfold atI
  rw [if_pos h0, drop_cons s i.toNat h]; rfl
theorem atI_nat (s : ByteArray) (k : Nat) : atI s (k : Int) = hd (s.data.toList.drop k) := by
  unfold atI; rw [if_pos (by omega)]; simp

theorem toList_loop (s : ByteArray) : ∀ n i (r : List UInt8), s.size - i = n → ByteArray.toList.loop s i r = r.reverse ++ s.data.toList.drop i := by
  intro n
  induction n with
  | zero =>
    intro i r h
    unfold ByteArray.toList.loop
    rw [if_neg (by omega), List.drop_of_length_le (by have : s.data.toList.length = s.size := rfl; omega)]; simp
  | succ n ih =>
    intro i r h
    unfold ByteArray.toList.loop
    have hi : i < s.size := by omega
    rw [if_pos hi, ih (i + 1) _ (by omega), List.drop_eq_getElem_cons (l := s.data.toList) (i := i) (by exact hi)]
    have : s.get! i = s.data.toList[i]'(by exact hi) := by
      obtain ⟨d⟩ := s
      show d[i]! = _
      rw [getElem!_pos d i hi]; simp
    simp [this]
theorem toList_data (s : ByteArray) : s.toList = s.data.toList := by
  unfold ByteArray.toList
  rw [toList_loop s s.size 0 [] (by omega)]; simp
theorem toList_nil (s : ByteArray) : s.toList = [] ↔ s.size = 0 := by
  rw [toList_data]
  obtain ⟨⟨l⟩⟩ := s
  cases l <;> simp [ByteArray.size]
/-- All bytes of a text are of a kind. -/
def allI (p : Int → Bool) (s : ByteArray) : Bool := s.data.toList.all fun c => p (c.toNat : Int)
theorem take_snoc (s : ByteArray) (k : Nat) (h : k < s.size) : s.data.toList.take (k + 1) = s.data.toList.take k ++ [s[k]] := by
  rw [List.take_succ_eq_append_getElem (by simpa using h)]; rfl
theorem all_take_succ (p : Int → Bool) (s : ByteArray) (k : Nat) (h : k < s.size) (hk : (s.data.toList.take k).all (fun c => p (c.toNat : Int)) = true) (hp : p (s[k].toNat : Int) = true) :
    (s.data.toList.take (k + 1)).all (fun c => p (c.toNat : Int)) = true := by
  rw [take_snoc s k h, List.all_append, hk]; simp [hp]
theorem allI_false (p : Int → Bool) (s : ByteArray) (k : Nat) (h : k < s.size) (hp : p (s[k].toNat : Int) = false) : allI p s = false := by
  unfold allI
  rw [List.all_eq_false]
  exact ⟨s[k], by simp [ByteArray.getElem_eq_getElem_data], by simp [hp]⟩
theorem allI_take (p : Int → Bool) (s : ByteArray) (k : Nat) (h : s.size ≤ k) (hk : (s.data.toList.take k).all (fun c => p (c.toNat : Int)) = true) : allI p s = true := by
  unfold allI
  rwa [List.take_of_length_le (by simpa using h)] at hk

def nameI (s : ByteArray) : Bool := decide (1 ≤ s.size) && decide (s.size ≤ 31) && begI (atI s 0) && allI partI s
/-- A byte as a capital letter. -/
def upC (c : UInt8) : UInt8 := if 97 ≤ c.toNat ∧ c.toNat ≤ 122 then UInt8.ofNat (c.toNat - 32) else c
def upS (s : ByteArray) : ByteArray := ⟨(s.data.toList.map upC).toArray⟩
def isNameI (s : ByteArray) : Bool := nameI s && decide (upS s = s)

/-- How many digits a decimal constant has, and how many behind the point. -/
def numGo : Bs → Nat → Nat → Bool → Option (Nat × Nat)
  | [], d, b, _ => some (d, b)
  | c :: l, d, b, pt =>
    if digI (c.toNat : Int) then numGo l (d + 1) (if pt then b + 1 else b) pt
    else if (c.toNat : Int) = 46 ∧ pt = false ∧ digI (hd l) = true then numGo l d b true
    else none
def numR (s : ByteArray) : Nat × Nat × Bool :=
  match numGo s.data.toList 0 0 false with
  | some (d, b) => (d, b, decide (1 ≤ d) && decide (d ≤ 9))
  | none => (0, 0, false)
def bitI (c : Int) : Bool := c == 48 || c == 49
def shownI (c : Int) : Bool := decide (32 ≤ c) && decide (c ≤ 126)
/-- Is a string one of these? -/
def memB (key : ByteArray) (ks : List ByteArray) : Bool := ks.any fun s => decide (s = key)
theorem memB_iff (key : ByteArray) (ks : List ByteArray) : memB key ks = true ↔ key ∈ ks := by simp [memB]

/-- The signs, in the order of the text. -/
def signList : List ByteArray := [⟨#[43]⟩, ⟨#[45]⟩, ⟨#[42]⟩, ⟨#[47]⟩, ⟨#[61]⟩, ⟨#[94, 61]⟩, ⟨#[60]⟩, ⟨#[60, 61]⟩, ⟨#[62]⟩, ⟨#[62, 61]⟩, ⟨#[94, 60]⟩, ⟨#[94, 62]⟩, ⟨#[38]⟩, ⟨#[124]⟩, ⟨#[94]⟩, ⟨#[124, 124]⟩, ⟨#[45, 62]⟩, ⟨#[40]⟩, ⟨#[41]⟩, ⟨#[44]⟩, ⟨#[59]⟩, ⟨#[58]⟩, ⟨#[46]⟩, ⟨#[37]⟩]

def checkI (k : Int) (t : ByteArray) : Bool :=
  if k = 1 then isNameI t
  else if k = 2 then (numR t).2.2
  else if k = 3 then decide (1 ≤ t.size) && decide (t.size ≤ 31) && allI bitI t
  else if k = 4 then decide (t.size ≤ 255) && allI shownI t
  else if k = 5 then decide (t.size ≤ 64) && allI bitI t
  else if k = 6 then memB t signList
  else false
def errIf (ok : Bool) : Int := if ok then 0 else 50

end Lx
end Go.Proofs.YtafofcenphopbaaGreatDoor
