/- The reference: number. -/
import Derived.Test.YtafofcenphopbaaGreatDoorB3
import Derived.Test.YtafofcenphopbaaGreatDoorB7
import Derived.Deep.RegionHeld3
import Derived.Deep.RegionWith
import Derived.IntWalk
namespace Go.Proofs.YtafofcenphopbaaGreatDoor
namespace Lx
/-- A token that is right. -/
def good : Option Got → Option Got
  | some g => if g.ok = true ∧ checkI g.kind ⟨g.text.toArray⟩ = true then some g else none
  | none => none
theorem good_none : good none = none := rfl
theorem good_ok {g : Got} (h1 : g.ok = true) (h2 : checkI g.kind ⟨g.text.toArray⟩ = true) : good (some g) = some g := if_pos ⟨h1, h2⟩
theorem good_bad {g : Got} (h : (checkI g.kind ⟨g.text.toArray⟩ && g.ok) = false) : good (some g) = none := by
  refine if_neg ?_
  rintro ⟨a, b⟩
  rw [a, b] at h; cases h
theorem scn_good (s : ByteArray) (j nt : Nat) (hj : j < s.size) (hb : ¬ (atI s j = 32 ∨ atI s j = 10)) (hc : ¬ (atI s j = 47 ∧ atI s (j + 1) = 42)) : scn s j nt =
      match good (nextI signList (s.data.toList.drop j)) with
      | none => ⟨[], [], j, 50⟩
      | some g => if nt = 5000 then ⟨[], [], j, 2⟩ else (scn s (j + g.len) (nt + 1)).addT ⟨g.kind, ⟨g.text.toArray⟩, j⟩ := by
  rw [scn_tok s j nt hj hb hc]
  rcases nextI signList (s.data.toList.drop j) with _ | g
  · rfl
  · simp only
    by_cases h : g.ok = false ∨ checkI g.kind ⟨g.text.toArray⟩ = false
    · rw [if_pos h]
      have : good (some g) = none := good_bad (by rcases h with h | h <;> rw [h] <;> simp)
      rw [this]
    · rw [if_neg h]
      have h1 : g.ok = true := by cases hk : g.ok <;> simp_all
      have h2 : checkI g.kind ⟨g.text.toArray⟩ = true := by cases hk : checkI g.kind ⟨g.text.toArray⟩ <;> simp_all
      rw [good_ok h1 h2]
theorem digLen_cons (c : UInt8) (l : Bs) : digLen (c :: l) = if digI (c.toNat : Int) = true then digLen l + 1 else 0 := rfl
theorem numScan_true (l : Bs) : numScan l true = (digLen l, true) := by
  induction l with
  | nil => rfl
  | cons c l ih =>
    rw [numScan_cons, if_neg (by rintro ⟨_, h, _⟩; cases h), digLen_cons, ih]
    split <;> rfl
/-- A decimal constant: digits, perhaps a point and digits. -/
theorem numScan_dig (l : Bs) : numScan l false = if hd (l.drop (digLen l)) = 46 ∧ digI (hd (l.drop (digLen l + 1))) = true then (digLen l + 1 + digLen (l.drop (digLen l + 1)), true) else (digLen l, false) := by
  induction l with
  | nil => rfl
  | cons c l ih =>
    rw [numScan_cons, digLen_cons]
    by_cases hd1 : digI (c.toNat : Int) = true
    · have h46 : ¬ ((c.toNat : Int) = 46 ∧ false = false ∧ digI (hd l) = true) := by
        rintro ⟨h, _⟩
        rw [h] at hd1; exact absurd hd1 (by decide)
      rw [if_neg h46, if_pos hd1, if_pos hd1, ih]
      simp only [List.drop_succ_cons]
      split <;> simp <;> omega
    · rw [if_neg hd1, if_neg hd1]
      simp only [List.drop_zero, Nat.zero_add, List.drop_succ_cons]
      by_cases h46 : (c.toNat : Int) = 46 ∧ digI (hd l) = true
      · rw [if_pos (by simpa using h46), if_pos (show hd (c :: l) = 46 ∧ digI (hd l) = true from h46), numScan_true]
        simp; omega
      · rw [if_neg (by simpa using h46), if_neg (show ¬ (hd (c :: l) = 46 ∧ digI (hd l) = true) from h46)]
/-- The number that the reference reads. -/
def numK (l : Bs) : Nat := (numScan l false).1
theorem num_point (l : Bs) (h : hd (l.drop (digLen l)) = 46 ∧ digI (hd (l.drop (digLen l + 1))) = true) : numK l = digLen l + 1 + digLen (l.drop (digLen l + 1)) := by unfold numK; rw [numScan_dig, if_pos h]
theorem num_plain (l : Bs) (h : ¬ (hd (l.drop (digLen l)) = 46 ∧ digI (hd (l.drop (digLen l + 1))) = true)) : numK l = digLen l := by unfold numK; rw [numScan_dig, if_neg h]
theorem isB_part {c : Int} (h : isB c = true) : partI c = true := by
  unfold isB at h; simp at h
  rcases h with rfl | rfl <;> decide
theorem take_mem_point (l : Bs) (h : hd (l.drop (digLen l)) = 46) (n : Nat) (hn : digLen l < n) : (46 : UInt8) ∈ l.take n := by
  have hl : digLen l < l.length := by
    rcases Nat.lt_or_ge (digLen l) l.length with h' | h'
    · exact h'
    · rw [List.drop_of_length_le h'] at h; exact absurd h (by decide)
  have e : l[digLen l]'hl = 46 := by
    rw [List.drop_eq_getElem_cons hl] at h
    exact (byte_eq _ 46 (by decide)).2 h
  rw [← e]
  exact List.mem_of_getElem? (i := digLen l) (by rw [List.getElem?_take]; simp [hn, hl])
theorem not_bits_point (l : Bs) (h : (46 : UInt8) ∈ l) : checkI 3 ⟨l.toArray⟩ = false := by
  have : allI bitI ⟨l.toArray⟩ = false := by
    unfold allI
    rw [List.all_eq_false]
    exact ⟨46, h, by decide⟩
  show (_ && allI bitI ⟨l.toArray⟩) = false
  rw [this]; simp
/-- What the reference makes of a constant of digits: kind, length with the letter B. -/
def rNum (l : Bs) : Got :=
  if isB (hd (l.drop (numK l))) = true then ⟨3, l.take (numK l), numK l + 1, !partI (hd (l.drop (numK l + 1)))⟩
  else ⟨2, l.take (numK l), numK l, !partI (hd (l.drop (numK l)))⟩
theorem rNum_good (l : Bs) : good (some (rNum l)) = good (some (numTok l)) := by
  unfold rNum
  by_cases hb : isB (hd (l.drop (numK l))) = true
  · rw [if_pos hb]
    by_cases hp : (numScan l false).2 = false
    · have : numTok l = ⟨3, l.take (numK l), numK l + 1, !partI (hd (l.drop (numK l + 1)))⟩ := by
        unfold numTok; simp only; rw [if_pos ⟨hb, hp⟩]; rfl
      rw [this]
    · have : numTok l = ⟨2, l.take (numK l), numK l, !partI (hd (l.drop (numK l)))⟩ := by
        unfold numTok; simp only; rw [if_neg (fun h => hp h.2)]; rfl
      rw [this]
      have hpt : hd (l.drop (digLen l)) = 46 ∧ digI (hd (l.drop (digLen l + 1))) = true := by
        rw [numScan_dig] at hp
        by_cases h : hd (l.drop (digLen l)) = 46 ∧ digI (hd (l.drop (digLen l + 1))) = true
        · exact h
        · rw [if_neg h] at hp; exact absurd rfl hp
      rw [good_bad (g := ⟨2, _, _, _⟩) (by simp only; rw [isB_part hb]; simp),
        good_bad (g := ⟨3, _, _, _⟩) (by simp only; rw [not_bits_point _ (take_mem_point l hpt.1 _ (by rw [num_point l hpt]; omega))]; rfl)]
  · rw [if_neg hb]
    have : numTok l = ⟨2, l.take (numK l), numK l, !partI (hd (l.drop (numK l)))⟩ := by
      unfold numTok; simp only; rw [if_neg (fun h => hb h.1)]; rfl
    rw [this]
/-- The operator that comes first in a list. -/
def opFirst (l : Bs) : List ByteArray → Option ByteArray
  | [] => none
  | o :: r => if o.data.toList = l.take o.size then some o else opFirst l r
def opTok (l : Bs) : Option Got := (opFirst l opList).map fun o => ⟨6, o.data.toList, o.size, true⟩
theorem opFirst_app (l : Bs) (a b : List ByteArray) : opFirst l (a ++ b) = match opFirst l a with
    | some o => some o
    | none => opFirst l b := by
  induction a with
  | nil => rfl
  | cons o a ih =>
    show (if o.data.toList = l.take o.size then some o else opFirst l (a ++ b)) = _
    rw [show opFirst l (o :: a) = if o.data.toList = l.take o.size then some o else opFirst l a from rfl]
    by_cases h : o.data.toList = l.take o.size
    · rw [if_pos h, if_pos h]
    · rw [if_neg h, if_neg h, ih]
theorem opFirst_size (l : Bs) (n : Nat) : ∀ (L : List ByteArray), (∀ o ∈ L, o.size = n) → opFirst l L = if memB ⟨(l.take n).toArray⟩ L = true then some ⟨(l.take n).toArray⟩ else none := by
  intro L
  induction L with
  | nil => intro _; rfl
  | cons o L ih =>
    intro h
    have ho := h o (by simp)
    have e : (decide (o = (⟨(l.take n).toArray⟩ : ByteArray))) = decide (o.data.toList = l.take o.size) := by
      rw [ho]
      apply decide_eq_decide.2
      constructor
      · intro h; rw [h]
      · intro h; exact ba_ext (by rw [h])
    show (if o.data.toList = l.take o.size then some o else opFirst l L) = _
    rw [ih (fun o ho => h o (by simp [ho])), show memB ⟨(l.take n).toArray⟩ (o :: L) = (decide (o = (⟨(l.take n).toArray⟩ : ByteArray)) || memB ⟨(l.take n).toArray⟩ L) from rfl, e]
    by_cases hc : o.data.toList = l.take o.size
    · rw [if_pos hc, if_pos (by simp [hc])]
      rw [ho] at hc
      exact congrArg some (ba_ext hc)
    · rw [if_neg hc]
      simp [hc]
def ops2 : List ByteArray := opList.take 7
def ops1 : List ByteArray := opList.drop 7
theorem ops_split : opList = ops2 ++ ops1 := rfl
theorem memB_app (t : ByteArray) (a b : List ByteArray) : memB t (a ++ b) = (memB t a || memB t b) := by simp [memB]
theorem memB_size (t : ByteArray) (n : Nat) (L : List ByteArray) (h : ∀ o ∈ L, o.size = n) (ht : t.size ≠ n) : memB t L = false := by
  cases hm : memB t L with
  | false => rfl
  | true => exact absurd (h t ((memB_iff t L).1 hm)) ht
theorem size2 : ∀ o ∈ ops2, o.size = 2 := by decide
theorem size1 : ∀ o ∈ ops1, o.size = 1 := by decide
theorem isSign_mem (t : Bs) : isSign t signList = memB ⟨t.toArray⟩ opList := by rw [memB_ops]; rfl
theorem ba_size (t : Bs) : (⟨t.toArray⟩ : ByteArray).size = t.length := by show t.toArray.size = _; simp
theorem sign2 (l : Bs) (h : 2 ≤ l.length) : isSign (l.take 2) signList = memB ⟨(l.take 2).toArray⟩ ops2 := by
  rw [isSign_mem, ops_split, memB_app, memB_size _ 1 ops1 size1 (by rw [ba_size]; simp; omega), Bool.or_false]
theorem sign1 (l : Bs) (h : 1 ≤ l.length) : isSign (l.take 1) signList = memB ⟨(l.take 1).toArray⟩ ops1 := by
  rw [isSign_mem, ops_split, memB_app, memB_size _ 2 ops2 size2 (by rw [ba_size]; simp; omega), Bool.false_or]
theorem opTok_eq (l : Bs) (hl : 1 ≤ l.length) : opTok l = if 2 ≤ l.length ∧ isSign (l.take 2) signList = true then some ⟨6, l.take 2, 2, true⟩ else if 1 ≤ l.length ∧ isSign (l.take 1) signList = true then some ⟨6, l.take 1, 1, true⟩ else none := by
  unfold opTok
  rw [ops_split, opFirst_app, opFirst_size l 2 ops2 size2, opFirst_size l 1 ops1 size1]
  by_cases h2 : 2 ≤ l.length
  · rw [sign2 l h2, sign1 l hl]
    cases hm : memB ⟨(l.take 2).toArray⟩ ops2 with
    | true =>
      rw [if_pos (show true = true from rfl), if_pos (show 2 ≤ l.length ∧ true = true from ⟨h2, rfl⟩)]
      simp only [Option.map_some, ba_size]
      simp; omega
    | false =>
      have n2 : ¬ (2 ≤ l.length ∧ false = true) := fun h => by cases h.2
      rw [if_neg n2, if_neg (show ¬ (false = true) from Bool.false_ne_true)]
      cases hm1 : memB ⟨(l.take 1).toArray⟩ ops1 with
      | true =>
        rw [if_pos (show 1 ≤ l.length ∧ true = true from ⟨hl, rfl⟩), if_pos (show true = true from rfl)]
        simp only [Option.map_some, ba_size]
        simp; omega
      | false =>
        rw [if_neg (show ¬ (1 ≤ l.length ∧ false = true) from fun h => by cases h.2), if_neg (show ¬ (false = true) from Bool.false_ne_true)]
        rfl
  · have hm : memB ⟨(l.take 2).toArray⟩ ops2 = false := memB_size _ 2 ops2 size2 (by rw [ba_size]; simp; omega)
    rw [hm, sign1 l hl, if_neg (show ¬ (false = true) from Bool.false_ne_true), if_neg (show ¬ (2 ≤ l.length ∧ _) from fun h => h2 h.1)]
    cases hm1 : memB ⟨(l.take 1).toArray⟩ ops1 with
    | true =>
      rw [if_pos (show 1 ≤ l.length ∧ true = true from ⟨hl, rfl⟩), if_pos (show true = true from rfl)]
      simp only [Option.map_some, ba_size]
      simp; omega
    | false =>
      rw [if_neg (show ¬ (1 ≤ l.length ∧ false = true) from fun h => by cases h.2), if_neg (show ¬ (false = true) from Bool.false_ne_true)]
      rfl
theorem op_good (l : Bs) : good (opTok l) = opTok l := by
  unfold opTok
  rcases hO : opFirst l opList with _ | o
  · rfl
  · refine good_ok rfl ?_
    have hm : memB o opList = true := by
      have : ∀ L : List ByteArray, opFirst l L = some o → o ∈ L := by
        intro L
        induction L with
        | nil => intro h; cases h
        | cons x L ih =>
          intro h
          rw [show opFirst l (x :: L) = if x.data.toList = l.take x.size then some x else opFirst l L from rfl] at h
          split at h
          · cases h; simp
          · exact List.mem_cons_of_mem _ (ih h)
      exact (memB_iff o opList).2 (this opList hO)
    have : checkI 6 ⟨o.data.toList.toArray⟩ = memB ⟨o.data.toList.toArray⟩ signList := rfl
    show checkI 6 ⟨o.data.toList.toArray⟩ = true
    rw [this, show (⟨o.data.toList.toArray⟩ : ByteArray) = o from ba_ext (by simp), ← memB_ops, hm]
end Lx
end Go.Proofs.YtafofcenphopbaaGreatDoor
namespace Go.Proofs.YtafofcenphopbaaGreatDoor
open Go.RowKit Lx

/-- What the reference's readers hand back: the token, if it is right. -/
def RQ (o : Option Got) (i : Nat) (w : World) (e : Ending) (w' : World) : Prop :=
  Below w.heap.size w w' ∧ ∃ (k : Int) (t : ByteArray) (a m : Int) (ok : Bool), e = .returned (.tuple #[.agg #[.int .i64 k, .string t, .int .i64 a], .int .i64 m, .bool ok]) ∧
    match o with
    | some g => ok = true ∧ k = g.kind ∧ t = ⟨g.text.toArray⟩ ∧ a = i ∧ m = ((i + g.len : Nat) : Int)
    | none => ok = false
theorem RQ.bad {i : Nat} {w w' : World} {k : Int} {t : ByteArray} {a m : Int} {o : Option Got} (ho : o = none) (hb : Below w.heap.size w w') : RQ o i w (.returned (.tuple #[.agg #[.int .i64 k, .string t, .int .i64 a], .int .i64 m, .bool false])) w' := by
  subst ho; exact ⟨hb, k, t, a, m, false, rfl, rfl⟩
theorem RQ.got {i : Nat} {w w' : World} {g : Got} {k : Int} {t : ByteArray} {a m : Int} {ok : Bool} (hk : k = g.kind) (ht : t = ⟨g.text.toArray⟩) (ha : a = i) (hm : m = ((i + g.len : Nat) : Int)) (hok : ok = (checkI g.kind ⟨g.text.toArray⟩ && g.ok)) (hb : Below w.heap.size w w') :
    RQ (good (some g)) i w (.returned (.tuple #[.agg #[.int .i64 k, .string t, .int .i64 a], .int .i64 m, .bool ok])) w' := by
  cases h : (checkI g.kind ⟨g.text.toArray⟩ && g.ok) with
  | true =>
    rw [Bool.and_eq_true] at h
    rw [good_ok h.2 h.1]
    exact ⟨hb, k, t, a, m, ok, rfl, by rw [hok, h.1, h.2]; rfl, hk, ht, ha, hm⟩
  | false =>
    rw [good_bad h]
    exact ⟨hb, k, t, a, m, ok, rfl, by rw [hok, h]⟩
theorem tok_set1 {w : World} {b : Nat} {x y z : Value} {T : TypeId} (h : w.heap[b]? = some (.cells #[x, y, z] T)) (u : Value) : (w.setCell ⟨b, 1, none⟩ u).heap[b]? = some (.cells #[x, u, z] T) := by
  simp [World.setCell, Array.getElem?_modify, h]
theorem tok_set0 {w : World} {b : Nat} {x y z : Value} {T : TypeId} (h : w.heap[b]? = some (.cells #[x, y, z] T)) (u : Value) : (w.setCell ⟨b, 0, none⟩ u).heap[b]? = some (.cells #[u, y, z] T) := by
  simp [World.setCell, Array.getElem?_modify, h]
theorem heap_set_other {w : World} {b c j : Nat} (h : b ≠ c) (u : Value) : (w.setCell ⟨b, j, none⟩ u).heap[c]? = w.heap[c]? := by
  simp [World.setCell, Array.getElem?_modify, h]
theorem two_box (w : World) (a b : Obj) : ((w.alloc a).alloc b).heap[w.heap.size]? = some a ∧ ((w.alloc a).alloc b).heap[w.heap.size + 1]? = some b ∧ Below w.heap.size w ((w.alloc a).alloc b) := by
  refine ⟨?_, ?_, ((Below.refl _ _).alloc (Nat.le_refl _) _).alloc (by simp) _⟩
  · rw [Lib.alloc_old _ _ _ (by simp)]; exact heap_alloc_new w a
  · have h := heap_alloc_new (w.alloc a) b
    rwa [World.size_alloc] at h
theorem tok_set3 {w : World} {b : Nat} {x y z : Value} {T : TypeId} (h : w.heap[b]? = some (.cells #[x, y, z] T)) (u v s : Value) : (((w.setCell ⟨b, 0, none⟩ u).setCell ⟨b, 1, none⟩ v).setCell ⟨b, 2, none⟩ s).heap[b]? = some (.cells #[u, v, s] T) := by
  simp [World.setCell, Array.getElem?_modify, h]
theorem heap_set3 {w : World} {b c : Nat} (h : b ≠ c) (u v s : Value) : (((w.setCell ⟨b, 0, none⟩ u).setCell ⟨b, 1, none⟩ v).setCell ⟨b, 2, none⟩ s).heap[c]? = w.heap[c]? := by
  rw [heap_set_other h, heap_set_other h, heap_set_other h]
theorem below_like {w W w' : World} (h : W = { w with drawn := W.drawn }) (hb : Below W.heap.size W w') : Below w.heap.size w w' := by
  have hb0 : Below w.heap.size w W := by rw [h]; exact ⟨rfl, rfl, rfl, Nat.le_refl _, fun _ _ => rfl⟩
  have hz : W.heap.size = w.heap.size := by rw [h]
  rw [hz] at hb
  exact hb0.trans hb
/-- Where a result was stored, a box beside it kept. -/
structure Stored (w0 : World) (R T : Nat) (r t : Obj) (w : World) : Prop where
  res : w.heap[R]? = some r
  box : w.heap[T]? = some t
  below : Below w0.heap.size w0 w
theorem Stored.same {w0 w w' : World} {R T : Nat} {r t : Obj} (h : Stored w0 R T r t w) (hw : w' = { w with drawn := w'.drawn }) : Stored w0 R T r t w' := by
  have hh : w'.heap = w.heap := by rw [hw]
  refine ⟨by rw [hh]; exact h.res, by rw [hh]; exact h.box, ?_⟩
  have := h.below
  rw [hw]
  exact ⟨this.os, this.tape, this.output, this.size, this.block⟩
theorem Stored.call {w0 W w w' : World} {R T : Nat} {r t : Obj} (h : Stored w0 R T r t w) (hw : W = { w with drawn := W.drawn }) (hb : Below W.heap.size W w') : Stored w0 R T r t w' := by
  have hb := below_like hw hb
  have l1 := (Array.getElem?_eq_some_iff.1 h.res).1
  have l2 := (Array.getElem?_eq_some_iff.1 h.box).1
  exact ⟨(hb.block _ l1).trans h.res, (hb.block _ l2).trans h.box, h.below.trans (hb.mono h.below.size)⟩
theorem Stored.put {w0 w : World} {R T : Nat} {x y z : Value} {ty : TypeId} {t : Obj} (h : Stored w0 R T (.cells #[x, y, z] ty) t w) (hR : w0.heap.size ≤ R) (hne : R ≠ T) (u v s : Value) :
    Stored w0 R T (.cells #[u, v, s] ty) t (((w.setCell ⟨R, 0, none⟩ u).setCell ⟨R, 1, none⟩ v).setCell ⟨R, 2, none⟩ s) :=
  ⟨tok_set3 h.res u v s, (heap_set3 hne u v s).trans h.box, ((h.below.setCell (p := ⟨R, 0, none⟩) hR _).setCell (p := ⟨R, 1, none⟩) hR _).setCell (p := ⟨R, 2, none⟩) hR _⟩
theorem below_to {B : Nat} {w X Y : World} (h : Below B w X) (e : Y = { X with drawn := Y.drawn }) : Below B w Y := by
  rw [e]; exact ⟨h.os, h.tape, h.output, h.size, h.block⟩
theorem atI_end (s : ByteArray) (j : Nat) (h : s.size ≤ j) : atI s (j : Int) = -1 := atI_out s j (by omega)
theorem isB_cases (x : Int) : ((x == 66) = true ∧ isB x = true) ∨ ((x == 66) = false ∧ (x == 98) = true ∧ isB x = true) ∨ ((x == 66) = false ∧ (x == 98) = false ∧ isB x = false) := by
  unfold isB
  cases (x == 66) <;> cases (x == 98) <;> simp
theorem part_end (s : ByteArray) (j : Nat) (h : s.size ≤ j) : partI (atI s (j : Int)) = false := by rw [atI_end s j h]; decide
theorem isB_end (s : ByteArray) (j : Nat) (h : s.size ≤ j) : isB (atI s (j : Int)) = false := by rw [atI_end s j h]; decide
set_option maxHeartbeats 4000000 in
set_option maxRecDepth 100000 in
theorem rquoted_any (s : ByteArray) (i : Nat) (hi : i < s.size) (hs : s.size ≤ 1000000) (w : World) : Calls Tryz.prog 151 #[.string s, .int .i64 i] w (RQ (good (quoTok (s.data.toList.drop i))) i w) := by
  go_enter Tryz.func151, Tryz.ntmps151
  go_upto_block 0 with fail
  obtain ⟨n0, n1, b1⟩ := two_box w (.cells #[.int .i64 0, .string ⟨#[]⟩, .int .i64 0] 24) (.cells #[.int .i64 4, .string ⟨#[]⟩, .int .i64 i] 24)
  generalize (w.alloc (.cells #[.int .i64 0, .string ⟨#[]⟩, .int .i64 0] 24)).alloc (.cells #[.int .i64 4, .string ⟨#[]⟩, .int .i64 i] 24) = w1 at n0 n1 b1 ⊢
  have N0 := Lib.hid n0
  have N1 := Lib.hid n1
  clear n0 n1
  go_cut [8] (fun q wx => ∃ (t : Bs) (n p : Nat), quo (s.data.toList.drop (i + 1)) = some (t, n) ∧ p = i + n ∧ q = .int .i64 (p : Nat) ∧ wx.heap[w.heap.size]? = some (.cells #[.int .i64 0, .string ⟨#[]⟩, .int .i64 0] 24) ∧ wx.heap[w.heap.size + 1]? = some (.cells #[.int .i64 4, .string ⟨t.toArray⟩, .int .i64 i] 24) ∧ Below w.heap.size w wx)
  case first =>
    go_wp2_with fail
    go_loopw [8] (fun q wr => ∃ (j : Nat) (S : ByteArray), i + 1 ≤ j ∧ j ≤ s.size ∧ q = .int .i64 j ∧ quo (s.data.toList.drop (i + 1)) = (quo (s.data.toList.drop j)).map (fun x => (S.data.toList ++ x.1, x.2 + (j - (i + 1)))) ∧ S.size ≤ j - (i + 1) ∧
      wr.heap[w.heap.size]? = some (.cells #[.int .i64 0, .string ⟨#[]⟩, .int .i64 0] 24) ∧ wr.heap[w.heap.size + 1]? = some (.cells #[.int .i64 4, .string S, .int .i64 i] 24) ∧ Below w.heap.size w wr) (fun q _ => s.size - (intOf q).toNat)
    case atStart => exact ⟨i + 1, ⟨#[]⟩, Nat.le_refl _, by omega, by go_num, by simp, Nat.zero_le _, N0.out, N1.out, b1⟩
    case round =>
      obtain ⟨j, S, hij, hj, rfl, hq, hal, n0, n1, hbr⟩ := hrel
      have HQ := Lib.hid hq
      have M0 := Lib.hid n0
      have M1 := Lib.hid n1
      have q0 : wr.cell? ⟨w.heap.size, 0, none⟩ = some (.int .i64 0) := cell_of_row _ _ 0 _ _ _ n0
      have q1 : wr.cell? ⟨w.heap.size, 1, none⟩ = some (.string ⟨#[]⟩) := cell_of_row _ _ 1 _ _ _ n0
      have q2 : wr.cell? ⟨w.heap.size, 2, none⟩ = some (.int .i64 0) := cell_of_row _ _ 2 _ _ _ n0
      have t0 : wr.cell? ⟨w.heap.size + 1, 0, none⟩ = some (.int .i64 4) := cell_of_row _ _ 0 _ _ _ n1
      have t1 : wr.cell? ⟨w.heap.size + 1, 1, none⟩ = some (.string S) := cell_of_row _ _ 1 _ _ _ n1
      have t2 : wr.cell? ⟨w.heap.size + 1, 2, none⟩ = some (.int .i64 i) := cell_of_row _ _ 2 _ _ _ n1
      have f0 := Lib.frozen_of_heap n0 0
      have f1 := Lib.frozen_of_heap n0 1
      have f2 := Lib.frozen_of_heap n0 2
      have g1 := Lib.frozen_of_heap n1 1
      clear hq n0 n1 b1 N0 N1
      by_cases hlt : j < s.size
      · have hr := byte_range s j hlt
        have hg := atI_get s j hlt
        obtain ⟨r1, r2⟩ := hr
        by_cases hsh : shownI (atI s (j : Int)) = true
        · have HSH : Hid (shownI ((s[j]'hlt).toNat : Int) = true) := Lib.hid (by rw [← hg]; exact hsh)
          by_cases h39 : atI s (j : Int) = 39
          · have e39 : (((s[j]'hlt).toNat : Int) == 39) = true := by rw [← hg, h39]; rfl
            by_cases h2 : atI s ((j : Int) + 1) = 39
            · have hlt2 : j + 1 < s.size := atI_lt s (j + 1) (by rw [show ((j + 1 : Nat) : Int) = (j : Int) + 1 from by omega]; omega)
              have hg2 := atI_get s (j + 1) hlt2
              have n39 : (((s[j + 1]'hlt2).toNat : Int) != 39) = false := by rw [← hg2, show ((j + 1 : Nat) : Int) = (j : Int) + 1 from by omega, h2]; rfl
              have hst := Lib.hid (quo_two s j h39 h2)
              have hx := Lib.hid (ext_one s (j + 1) hlt2)
              have hc39 := Lib.hid ((byte_eq (s[j + 1]'hlt2) 39 (by decide)).2 (by rw [← hg2, show ((j + 1 : Nat) : Int) = (j : Int) + 1 from by omega, h2]; rfl))
              have u0 : (j : Int) + 1 < (s.size : Int) := by omega
              have u1 : (0 : Int) ≤ (j : Int) + 1 := by omega
              have u2 : (j : Int) + 1 ≤ (j : Int) + 1 + 1 := by omega
              have u3 : (j : Int) + 1 + 1 ≤ (s.size : Int) := by omega
              have v1 : ¬ 9223372036854775807 < S.size + (min (j + 1 + 1) s.size - (j + 1)) := by omega
              have z3 : IntKind.i64.wrap ((j : Int) + 1 + 1) = (j : Int) + 1 + 1 := IntWalk.i64_in _ (by omega)
              have z4 : ((j : Int) + 1 + 1).toNat = j + 1 + 1 := by omega
              have z5 : ((j : Int) + 1).toNat = j + 1 := by omega
              clear h39 h2 hg hg2 hsh
              go_wp2_with (go_at_call 148; refine (rprinting_any _ r1 r2 _).mono ?_; rintro e w' ⟨rfl, hw⟩; rw [hw, HSH.out]; clear hw)
              go_region
              go_wp2_with fail
              go_roundw
              case rel =>
                refine ⟨j + 2, S ++ s.extract (j + 1) ((j + 1) + 1), by omega, by omega, by go_num, ?_, ?_, (heap_set_other (by omega) _).trans M0.out, tok_set1 M1.out _, (hbr.setCell (p := ⟨w.heap.size + 1, 1, none⟩) (by show w.heap.size ≤ w.heap.size + 1; omega) _).drew⟩
                · rw [HQ.out, hst.out, cat2, hx.out, map_two, show j - (i + 1) + 2 = j + 2 - (i + 1) from by omega, hc39.out]; rfl
                · rw [ByteArray.size_append, ByteArray.size_extract]; omega
              case measure => simp [intOf]; omega
            · have hend : quo (s.data.toList.drop (i + 1)) = some (S.data.toList, j - i) := by rw [HQ.out, quo_end s j h39 h2]; simp; omega
              have HE := Lib.hid hend
              have hcase : (∃ hlt2 : j + 1 < s.size, (((s[j + 1]'hlt2).toNat : Int) != 39) = true) ∨ ¬ (j : Int) + 1 < (s.size : Int) := by
                rcases Nat.lt_or_ge (j + 1) s.size with hlt2 | hge
                · left; refine ⟨hlt2, ?_⟩
                  rw [← atI_get s (j + 1) hlt2, show ((j + 1 : Nat) : Int) = (j : Int) + 1 from by omega, bne_iff_ne]; exact h2
                · right; omega
              clear h39 h2 hsh hend hg HQ
              rcases hcase with ⟨hlt2, n39⟩ | hge
              all_goals
                go_wp2_with (go_at_call 148; refine (rprinting_any _ r1 r2 _).mono ?_; rintro e w' ⟨rfl, hw⟩; rw [hw, HSH.out]; clear hw)
                go_meet
                case rel => exact ⟨S.data.toList, j - i, j, HE.out, by omega, rfl, M0.out, M1.out, hbr⟩
          · have e39 : (((s[j]'hlt).toNat : Int) == 39) = false := by rw [← hg, beq_eq_false_iff_ne]; exact h39
            have hst := Lib.hid (quo_plain s j hlt hsh h39)
            have hx := Lib.hid (ext_one s j hlt)
            have u0 : (j : Int) < (s.size : Int) := by omega
            have u1 : (0 : Int) ≤ (j : Int) := by omega
            have u2 : (j : Int) ≤ (j : Int) + 1 := by omega
            have u3 : (j : Int) + 1 ≤ (s.size : Int) := by omega
            have v1 : ¬ 9223372036854775807 < S.size + (min (j + 1) s.size - j) := by omega
            have z3 : IntKind.i64.wrap ((j : Int) + 1) = (j : Int) + 1 := IntWalk.i64_in _ (by omega)
            have z5 : ((j : Int) + 1).toNat = j + 1 := by omega
            clear h39 hg hsh
            go_wp2_with (go_at_call 148; refine (rprinting_any _ r1 r2 _).mono ?_; rintro e w' ⟨rfl, hw⟩; rw [hw, HSH.out]; clear hw)
            go_region
            all_goals
              go_wp2_with fail
              go_roundw
              case rel =>
                refine ⟨j + 1, S ++ s.extract j (j + 1), by omega, by omega, by go_num, ?_, ?_, (heap_set_other (by omega) _).trans M0.out, tok_set1 M1.out _, (hbr.setCell (p := ⟨w.heap.size + 1, 1, none⟩) (by show w.heap.size ≤ w.heap.size + 1; omega) _).drew⟩
                · rw [HQ.out, hst.out, cat2, hx.out, map_two, show j - (i + 1) + 1 = j + 1 - (i + 1) from by omega]
                · rw [ByteArray.size_append, ByteArray.size_extract]; omega
              case measure => simp [intOf]; omega
        · have hsh0 : shownI (atI s (j : Int)) = false := by simpa using hsh
          have HSH : Hid (shownI ((s[j]'hlt).toNat : Int) = false) := Lib.hid (by rw [← hg]; exact hsh0)
          have hnone : quoTok (s.data.toList.drop i) = none := quoTok_none s i (by rw [HQ.out, quo_bad s j hsh0]; rfl)
          have HN := Lib.hid (show good (quoTok (s.data.toList.drop i)) = none by rw [hnone]; rfl)
          clear hnone hsh0 hsh hg HQ
          go_wp2_with (go_at_call 148; refine (rprinting_any _ r1 r2 _).mono ?_; rintro e w' ⟨rfl, hw⟩; rw [hw, HSH.out]; clear hw)
          refine bodyPost_ret (v := .tuple #[.agg #[.int .i64 4, .string S, .int .i64 i], .int .i64 0, .bool false]) (by simp [results, Tryz.results151, go_sem, q0, q1, q2]) rfl (RQ.bad HN.out (below_far3 hbr _ _ _))
      · have hge : (s.size : Int) ≤ (j : Int) := by omega
        have hnone : quoTok (s.data.toList.drop i) = none := quoTok_none s i (by rw [HQ.out, drop_end s j (by omega)]; rfl)
        have HN := Lib.hid (show good (quoTok (s.data.toList.drop i)) = none by rw [hnone]; rfl)
        clear hnone HQ
        go_wp2_with fail
        refine bodyPost_ret (v := .tuple #[.agg #[.int .i64 4, .string S, .int .i64 i], .int .i64 0, .bool false]) (by simp [results, Tryz.results151, go_sem, q0, q1, q2]) rfl (RQ.bad HN.out (below_far3 hbr _ _ _))
  case rest =>
    rename World => w2
    obtain ⟨t, n, p, hq, hp, rfl, n0, n1, hb⟩ := hcut
    have hlen := quo_len _ _ _ hq
    have hz : s.data.toList.length = s.size := rfl
    rw [List.length_drop, hz] at hlen
    have hp1 : p < s.size := by omega
    have hsz : (⟨t.toArray⟩ : ByteArray).size ≤ 1000000 := by rw [ba_size]; omega
    have hT := quoTok_some s i t n hq
    have e1 : i + 1 + n = p + 1 := by omega
    rw [e1] at hT
    have hm : i + (n + 1) = p + 1 := by omega
    have hm2 : i + (n + 2) = p + 1 + 1 := by omega
    have hgo : ∀ b, isB (atI s ((p + 1 : Nat) : Int)) = b → quoTok (s.data.toList.drop i) = some (if b = true then ⟨5, t, n + 2, !partI (atI s ((p + 1 + 1 : Nat) : Int))⟩ else ⟨4, t, n + 1, !partI (atI s ((p + 1 : Nat) : Int))⟩) := by rintro b rfl; exact hT
    have HGO := Lib.hid hgo
    have st : Stored w w.heap.size (w.heap.size + 1) (.cells #[.int .i64 0, .string ⟨#[]⟩, .int .i64 0] 24) (.cells #[.int .i64 4, .string ⟨t.toArray⟩, .int .i64 i] 24) w2 := ⟨n0, n1, hb⟩
    have hT0 : w2.cell? ⟨w.heap.size + 1, 0, none⟩ = some (.int .i64 4) := cell_of_row _ _ 0 _ _ _ n1
    have hF0 := Lib.frozen_of_heap n1 0
    clear hq hlen hz n0 n1 hb hp hT e1 hgo N0 N1 b1
    go_upto_region 11 with fail
    go_cut [71] (fun c wx => w2 = wx ∧ c = .bool (isB (atI s ((p + 1 : Nat) : Int))))
    case first =>
      have x1 : (p : Int) + 1 = ((p + 1 : Nat) : Int) := by omega
      rcases Nat.lt_or_ge (p + 1) s.size with hlt | hge
      · have hg := atI_get s (p + 1) hlt
        have y1 : (p : Int) + 1 < (s.size : Int) := by omega
        have HG := Lib.hid hg
        clear hg x1
        rcases isB_cases ((s[p + 1]'hlt).toNat : Int) with ⟨h2, h3⟩ | ⟨h2, h3, h4⟩ | ⟨h2, h3, h4⟩
        all_goals
          go_wp2_with fail
          go_meet
          case rel => exact ⟨rfl, by rw [HG.out]; simp [*]⟩
      · have hb0 := isB_end s (p + 1) hge
        have y1 : ¬ (p : Int) + 1 < (s.size : Int) := by omega
        have HB0 := Lib.hid hb0
        clear hb0 x1
        go_wp2_with fail
        go_meet
        case rel => exact ⟨rfl, by rw [HB0.out]⟩
    case rest =>
      obtain ⟨rfl, rfl⟩ := hcut
      cases hc : isB (atI s ((p + 1 : Nat) : Int))
      · have HT : Hid (quoTok (s.data.toList.drop i) = some ⟨4, t, n + 1, !partI (atI s ((p + 1 : Nat) : Int))⟩) := Lib.hid (HGO.out false hc)
        have HM := Lib.hid hm
        clear hc hm hm2 HGO
        go_upto_region 14 with fail
        clear hT0 hF0
        cases hck : checkI 4 ⟨t.toArray⟩
        · have HCK : Hid (∀ W, Calls Tryz.prog 38 #[.agg #[.int .i64 4, .string ⟨t.toArray⟩, .int .i64 i]] W fun e w' => e = .returned (.int .i64 50) ∧ Below W.heap.size W w') := Lib.hid (fun W => by have := rCheck_any 4 ⟨t.toArray⟩ i hsz W; rwa [hck] at this)
          have HK := Lib.hid hck
          clear hck
          have t0 : w2.cell? ⟨w.heap.size + 1, 0, none⟩ = some (.int .i64 4) := cell_of_row _ _ 0 _ _ _ st.box
          have t1 : w2.cell? ⟨w.heap.size + 1, 1, none⟩ = some (.string ⟨t.toArray⟩) := cell_of_row _ _ 1 _ _ _ st.box
          have t2 : w2.cell? ⟨w.heap.size + 1, 2, none⟩ = some (.int .i64 i) := cell_of_row _ _ 2 _ _ _ st.box
          have q0 : w2.cell? ⟨w.heap.size, 0, none⟩ = some (.int .i64 0) := cell_of_row _ _ 0 _ _ _ st.res
          have q1 : w2.cell? ⟨w.heap.size, 1, none⟩ = some (.string ⟨#[]⟩) := cell_of_row _ _ 1 _ _ _ st.res
          have q2 : w2.cell? ⟨w.heap.size, 2, none⟩ = some (.int .i64 0) := cell_of_row _ _ 2 _ _ _ st.res
          have f0 := Lib.frozen_of_heap st.res 0
          have f1 := Lib.frozen_of_heap st.res 1
          have f2 := Lib.frozen_of_heap st.res 2
          refine wp_region_held_drew (S := (fun w' => w'.cell? ⟨w.heap.size + 1, 0, none⟩ = some (.int .i64 4) ∧ w'.cell? ⟨w.heap.size + 1, 1, none⟩ = some (.string ⟨t.toArray⟩) ∧ w'.cell? ⟨w.heap.size + 1, 2, none⟩ = some (.int .i64 i))) (by kernel_rfl) ⟨t0, t1, t2⟩ (fun hHeld => ?_)
          refine wpAnyH_take (i := 0) (oi := _) (v := ?_) rfl (by kernel_rfl) (by kernel_rfl) (by kernel_rfl) (fun _ _ _ h => h) (Or.inl ⟨by rfl, ?_⟩) (by assumption) ?_
          rotate_left
          · intro w hSw; (try dsimp only at hSw); go_simp; (try with_reducible rfl)
          try simp only [Act.put, List.getElem_toArray, List.getElem_cons_zero, List.setIfInBounds_toArray, List.set_cons_zero, List.set_cons_succ]
          refine wpAnyH_take (i := 1) (oi := _) (v := ?_) rfl (by kernel_rfl) (by kernel_rfl) (by kernel_rfl) (fun _ _ _ h => h) (Or.inl ⟨by rfl, ?_⟩) (by assumption) ?_
          rotate_left
          · intro w hSw; (try dsimp only at hSw); go_simp; (try with_reducible rfl)
          try simp only [Act.put, List.getElem_toArray, List.getElem_cons_succ, List.getElem_cons_zero, List.setIfInBounds_toArray, List.set_cons_zero, List.set_cons_succ]
          refine wpAnyH_take (i := 2) (oi := _) (v := ?_) rfl (by kernel_rfl) (by kernel_rfl) (by kernel_rfl) (fun _ _ _ h => h) (Or.inl ⟨by rfl, ?_⟩) (by assumption) ?_
          rotate_left
          · intro w hSw; (try dsimp only at hSw); go_simp; (try with_reducible rfl)
          try simp only [Act.put, List.getElem_toArray, List.getElem_cons_succ, List.getElem_cons_zero, List.setIfInBounds_toArray, List.set_cons_zero, List.set_cons_succ]
          refine wpAnyH_ready (rs := [3]) (by kernel_rfl) (by simp) ?_
          refine AllReadyH.cons (o := _) rfl (fun K hK => ?_) AllReadyH.nil
          · go_simp
            refine (HCK.out _).mono ?_
            rintro e w' ⟨rfl, hb⟩
            have st' := st.call rfl hb
            have t0 : w'.cell? ⟨w.heap.size + 1, 0, none⟩ = some (.int .i64 4) := cell_of_row _ _ 0 _ _ _ st'.box
            have t1 : w'.cell? ⟨w.heap.size + 1, 1, none⟩ = some (.string ⟨t.toArray⟩) := cell_of_row _ _ 1 _ _ _ st'.box
            have t2 : w'.cell? ⟨w.heap.size + 1, 2, none⟩ = some (.int .i64 i) := cell_of_row _ _ 2 _ _ _ st'.box
            have q0 : w'.cell? ⟨w.heap.size, 0, none⟩ = some (.int .i64 0) := cell_of_row _ _ 0 _ _ _ st'.res
            have q1 : w'.cell? ⟨w.heap.size, 1, none⟩ = some (.string ⟨#[]⟩) := cell_of_row _ _ 1 _ _ _ st'.res
            have q2 : w'.cell? ⟨w.heap.size, 2, none⟩ = some (.int .i64 0) := cell_of_row _ _ 2 _ _ _ st'.res
            have f0 := Lib.frozen_of_heap st'.res 0
            have f1 := Lib.frozen_of_heap st'.res 1
            have f2 := Lib.frozen_of_heap st'.res 2
            clear hb
            go_wp2_with fail
            refine hK.out _ _ ⟨t0, t1, t2⟩ (fun hHeld => ?_)
            clear hK K
            try simp only [Act.put, List.getElem_toArray, List.getElem_cons_succ, List.getElem_cons_zero, List.setIfInBounds_toArray, List.set_cons_zero, List.set_cons_succ]
            refine wpAnyH_take (i := 4) (oi := _) (v := ?_) rfl (by kernel_rfl) (by kernel_rfl) (by kernel_rfl) (fun _ _ _ h => h) (Or.inl ⟨by rfl, ?_⟩) (by assumption) ?_
            rotate_left
            · intro w hSw; (try dsimp only at hSw); go_simp; (try with_reducible rfl)
            try simp only [Act.put, List.getElem_toArray, List.getElem_cons_succ, List.getElem_cons_zero, List.setIfInBounds_toArray, List.set_cons_zero, List.set_cons_succ]
            refine wpAnyH_take (i := 5) (oi := _) (v := ?_) rfl (by kernel_rfl) (by kernel_rfl) (by kernel_rfl) (fun _ _ _ h => h) (Or.inl ⟨by rfl, ?_⟩) (by assumption) ?_
            rotate_left
            · intro w hSw; (try dsimp only at hSw); go_simp; (try with_reducible rfl)
            try simp only [Act.put, List.getElem_toArray, List.getElem_cons_succ, List.getElem_cons_zero, List.setIfInBounds_toArray, List.set_cons_zero, List.set_cons_succ]
            refine wpAnyH_take (i := 6) (oi := _) (v := undef) rfl (by kernel_rfl) (by kernel_rfl) (by kernel_rfl) (fun _ _ _ h => h) (Or.inr ⟨by rfl, rfl⟩) (by assumption) ?_
            try simp only [Act.put, List.getElem_toArray, List.getElem_cons_succ, List.getElem_cons_zero, List.setIfInBounds_toArray, List.set_cons_zero, List.set_cons_succ]
            refine wpAnyH_take (i := 7) (oi := _) (v := undef) rfl (by kernel_rfl) (by kernel_rfl) (by kernel_rfl) (fun _ _ _ h => h) (Or.inr ⟨by rfl, rfl⟩) (by assumption) ?_
            try simp only [Act.put, List.getElem_toArray, List.getElem_cons_succ, List.getElem_cons_zero, List.setIfInBounds_toArray, List.set_cons_zero, List.set_cons_succ]
            refine wpAnyH_take (i := 8) (oi := _) (v := undef) rfl (by kernel_rfl) (by kernel_rfl) (by kernel_rfl) (fun _ _ _ h => h) (Or.inr ⟨by rfl, rfl⟩) (by assumption) ?_
            try simp only [Act.put, List.getElem_toArray, List.getElem_cons_succ, List.getElem_cons_zero, List.setIfInBounds_toArray, List.set_cons_zero, List.set_cons_succ]
            refine wpAnyH_take (i := 9) (oi := _) (v := undef) rfl (by kernel_rfl) (by kernel_rfl) (by kernel_rfl) (fun _ _ _ h => h) (Or.inr ⟨by rfl, rfl⟩) (by assumption) ?_
            try simp only [Act.put, List.getElem_toArray, List.getElem_cons_succ, List.getElem_cons_zero, List.setIfInBounds_toArray, List.set_cons_zero, List.set_cons_succ]
            refine wpAnyH_take (i := 10) (oi := _) (v := undef) rfl (by kernel_rfl) (by kernel_rfl) (by kernel_rfl) (fun _ _ _ h => h) (Or.inr ⟨by rfl, rfl⟩) (by assumption) ?_
            try simp only [Act.put, List.getElem_toArray, List.getElem_cons_succ, List.getElem_cons_zero, List.setIfInBounds_toArray, List.set_cons_zero, List.set_cons_succ]
            refine wpAnyH_take (i := 11) (oi := _) (v := undef) rfl (by kernel_rfl) (by kernel_rfl) (by kernel_rfl) (fun _ _ _ h => h) (Or.inr ⟨by rfl, rfl⟩) (by assumption) ?_
            try simp only [Act.put, List.getElem_toArray, List.getElem_cons_succ, List.getElem_cons_zero, List.setIfInBounds_toArray, List.set_cons_zero, List.set_cons_succ]
            refine wpAnyH_take (i := 12) (oi := _) (v := undef) rfl (by kernel_rfl) (by kernel_rfl) (by kernel_rfl) (fun _ _ _ h => h) (Or.inr ⟨by rfl, rfl⟩) (by assumption) ?_
            try simp only [Act.put, List.getElem_toArray, List.getElem_cons_succ, List.getElem_cons_zero, List.setIfInBounds_toArray, List.set_cons_zero, List.set_cons_succ]
            refine wpAnyH_take (i := 13) (oi := _) (v := undef) rfl (by kernel_rfl) (by kernel_rfl) (by kernel_rfl) (fun _ _ _ h => h) (Or.inr ⟨by rfl, rfl⟩) (by assumption) ?_
            try simp only [Act.put, List.getElem_toArray, List.getElem_cons_succ, List.getElem_cons_zero, List.setIfInBounds_toArray, List.set_cons_zero, List.set_cons_succ]
            refine wpAnyH_take (i := 14) (oi := _) (v := undef) rfl (by kernel_rfl) (by kernel_rfl) (by kernel_rfl) (fun _ _ _ h => h) (Or.inr ⟨by rfl, rfl⟩) (by assumption) ?_
            try simp only [Act.put, List.getElem_toArray, List.getElem_cons_succ, List.getElem_cons_zero, List.setIfInBounds_toArray, List.set_cons_zero, List.set_cons_succ]
            refine wpAnyH_take (i := 15) (oi := _) (v := undef) rfl (by kernel_rfl) (by kernel_rfl) (by kernel_rfl) (fun _ _ _ h => h) (Or.inr ⟨by rfl, rfl⟩) (by assumption) ?_
            try simp only [Act.put, List.getElem_toArray, List.getElem_cons_succ, List.getElem_cons_zero, List.setIfInBounds_toArray, List.set_cons_zero, List.set_cons_succ]
            refine wpAnyH_take (i := 16) (oi := _) (v := undef) rfl (by kernel_rfl) (by kernel_rfl) (by kernel_rfl) (fun _ _ _ h => h) (Or.inr ⟨by rfl, rfl⟩) (by assumption) ?_
            try simp only [Act.put, List.getElem_toArray, List.getElem_cons_succ, List.getElem_cons_zero, List.setIfInBounds_toArray, List.set_cons_zero, List.set_cons_succ]
            refine wpAnyH_take (i := 17) (oi := _) (v := ?_) rfl (by kernel_rfl) (by kernel_rfl) (by kernel_rfl) (fun _ _ _ h => h) (Or.inl ⟨by rfl, ?_⟩) (by assumption) ?_
            rotate_left
            · intro w hSw; (try dsimp only at hSw); go_simp; (try with_reducible rfl)
            try simp only [Act.put, List.getElem_toArray, List.getElem_cons_succ, List.getElem_cons_zero, List.setIfInBounds_toArray, List.set_cons_zero, List.set_cons_succ]
            refine wpAnyH_ready (rs := [18]) (by kernel_rfl) (by simp) ?_
            refine AllReadyH.cons (o := _) rfl (fun K hK => ?_) AllReadyH.nil
            go_simp
            refine hK.out _ _ ⟨(far3 (by omega) _ _ _ _ _).trans t0, (far3 (by omega) _ _ _ _ _).trans t1, (far3 (by omega) _ _ _ _ _).trans t2⟩ (fun hHeld => ?_)
            clear hK K
            try simp only [Act.put, List.getElem_toArray, List.getElem_cons_succ, List.getElem_cons_zero, List.setIfInBounds_toArray, List.set_cons_zero, List.set_cons_succ]
            refine wpAnyH_take (i := 19) (oi := _) (v := ?_) rfl (by kernel_rfl) (by kernel_rfl) (by kernel_rfl) (fun _ _ _ h => h) (Or.inl ⟨by rfl, ?_⟩) (by assumption) ?_
            rotate_left
            · intro w hSw; (try dsimp only at hSw); go_simp; (try with_reducible rfl)
            try simp only [Act.put, List.getElem_toArray, List.getElem_cons_succ, List.getElem_cons_zero, List.setIfInBounds_toArray, List.set_cons_zero, List.set_cons_succ]
            refine wpAnyH_take (i := 20) (oi := _) (v := ?_) rfl (by kernel_rfl) (by kernel_rfl) (by kernel_rfl) (fun _ _ _ h => h) (Or.inl ⟨by rfl, ?_⟩) (by assumption) ?_
            rotate_left
            · intro w hSw; (try dsimp only at hSw); go_simp; (try with_reducible rfl)
            try simp only [Act.put, List.getElem_toArray, List.getElem_cons_succ, List.getElem_cons_zero, List.setIfInBounds_toArray, List.set_cons_zero, List.set_cons_succ]
            refine wpAnyH_done (by kernel_rfl) ?_ _
            go_wp2_with fail
            have stf := st'.put (Nat.le_refl _) (by omega) (.int .i64 4) (.string ⟨t.toArray⟩) (.int .i64 i)
            refine bodyPost_ret (v := .tuple #[.agg #[.int .i64 4, .string ⟨t.toArray⟩, .int .i64 i], .int .i64 ((p : Int) + 1), .bool false]) (by simp [results, Tryz.results151, go_sem, q0, q1, q2]) rfl ?_
            rw [HT.out]; exact (show RQ (good (some ⟨4, t, n + 1, !partI (atI s ((p + 1 : Nat) : Int))⟩)) i w _ _ from RQ.got rfl rfl rfl (by have := HM.out; first | rfl | (push_cast; omega) | omega) (by rw [HK.out]; rfl) (below_to stf.below rfl))
        · have HCK : Hid (∀ W, Calls Tryz.prog 38 #[.agg #[.int .i64 4, .string ⟨t.toArray⟩, .int .i64 i]] W fun e w' => e = .returned (.int .i64 0) ∧ Below W.heap.size W w') := Lib.hid (fun W => by have := rCheck_any 4 ⟨t.toArray⟩ i hsz W; rwa [hck] at this)
          have HK := Lib.hid hck
          clear hck
          rcases Nat.lt_or_ge (p + 1) s.size with hlt | hge
          · obtain ⟨r1, r2⟩ := byte_range s (p + 1) hlt
            have HG := Lib.hid (atI_get s (p + 1) hlt)
            have y1 : ((p : Int) + 1) < (s.size : Int) := by omega
            have y2 : decide ((s.size : Int) ≤ ((p : Int) + 1)) = false := decide_eq_false (by omega)
            cases hpt : partI ((s[p + 1]'hlt).toNat : Int)
            · have HP := Lib.hid hpt
              clear hpt
              have t0 : w2.cell? ⟨w.heap.size + 1, 0, none⟩ = some (.int .i64 4) := cell_of_row _ _ 0 _ _ _ st.box
              have t1 : w2.cell? ⟨w.heap.size + 1, 1, none⟩ = some (.string ⟨t.toArray⟩) := cell_of_row _ _ 1 _ _ _ st.box
              have t2 : w2.cell? ⟨w.heap.size + 1, 2, none⟩ = some (.int .i64 i) := cell_of_row _ _ 2 _ _ _ st.box
              have q0 : w2.cell? ⟨w.heap.size, 0, none⟩ = some (.int .i64 0) := cell_of_row _ _ 0 _ _ _ st.res
              have q1 : w2.cell? ⟨w.heap.size, 1, none⟩ = some (.string ⟨#[]⟩) := cell_of_row _ _ 1 _ _ _ st.res
              have q2 : w2.cell? ⟨w.heap.size, 2, none⟩ = some (.int .i64 0) := cell_of_row _ _ 2 _ _ _ st.res
              have f0 := Lib.frozen_of_heap st.res 0
              have f1 := Lib.frozen_of_heap st.res 1
              have f2 := Lib.frozen_of_heap st.res 2
              go_region_held3 (fun w' => w'.cell? ⟨w.heap.size + 1, 0, none⟩ = some (.int .i64 4) ∧ w'.cell? ⟨w.heap.size + 1, 1, none⟩ = some (.string ⟨t.toArray⟩) ∧ w'.cell? ⟨w.heap.size + 1, 2, none⟩ = some (.int .i64 i)) (go_keep) (first | (go_at_call 38; refine (HCK.out _).mono ?_; rintro e w' ⟨rfl, hb⟩; have st' := st.call rfl hb; have t0 : w'.cell? ⟨w.heap.size + 1, 0, none⟩ = some (.int .i64 4) := cell_of_row _ _ 0 _ _ _ st'.box; have t1 : w'.cell? ⟨w.heap.size + 1, 1, none⟩ = some (.string ⟨t.toArray⟩) := cell_of_row _ _ 1 _ _ _ st'.box; have t2 : w'.cell? ⟨w.heap.size + 1, 2, none⟩ = some (.int .i64 i) := cell_of_row _ _ 2 _ _ _ st'.box; have q0 : w'.cell? ⟨w.heap.size, 0, none⟩ = some (.int .i64 0) := cell_of_row _ _ 0 _ _ _ st'.res; have q1 : w'.cell? ⟨w.heap.size, 1, none⟩ = some (.string ⟨#[]⟩) := cell_of_row _ _ 1 _ _ _ st'.res; have q2 : w'.cell? ⟨w.heap.size, 2, none⟩ = some (.int .i64 0) := cell_of_row _ _ 2 _ _ _ st'.res; have f0 := Lib.frozen_of_heap st'.res 0; have f1 := Lib.frozen_of_heap st'.res 1; have f2 := Lib.frozen_of_heap st'.res 2; clear hb) | (go_at_call 38; refine (HCK.out _).mono ?_; rintro e w' ⟨rfl, hb⟩; have st' := (st.put (Nat.le_refl _) (by omega) (.int .i64 4) (.string ⟨t.toArray⟩) (.int .i64 i)).call rfl hb; have t0 : w'.cell? ⟨w.heap.size + 1, 0, none⟩ = some (.int .i64 4) := cell_of_row _ _ 0 _ _ _ st'.box; have t1 : w'.cell? ⟨w.heap.size + 1, 1, none⟩ = some (.string ⟨t.toArray⟩) := cell_of_row _ _ 1 _ _ _ st'.box; have t2 : w'.cell? ⟨w.heap.size + 1, 2, none⟩ = some (.int .i64 i) := cell_of_row _ _ 2 _ _ _ st'.box; have q0 : w'.cell? ⟨w.heap.size, 0, none⟩ = some (.int .i64 4) := cell_of_row _ _ 0 _ _ _ st'.res; have q1 : w'.cell? ⟨w.heap.size, 1, none⟩ = some (.string ⟨t.toArray⟩) := cell_of_row _ _ 1 _ _ _ st'.res; have q2 : w'.cell? ⟨w.heap.size, 2, none⟩ = some (.int .i64 i) := cell_of_row _ _ 2 _ _ _ st'.res; have f0 := Lib.frozen_of_heap st'.res 0; have f1 := Lib.frozen_of_heap st'.res 1; have f2 := Lib.frozen_of_heap st'.res 2; clear hb) | (go_at_call 127; refine (rnamed_any _ r1 r2 _).mono ?_; rintro e w' ⟨rfl, hw⟩; rw [hw, HP.out]; clear hw))
              all_goals (
                go_wp2_with fail
                first | (have stf := st'.put (Nat.le_refl _) (by omega) (.int .i64 4) (.string ⟨t.toArray⟩) (.int .i64 i); refine bodyPost_ret (v := .tuple #[.agg #[.int .i64 4, .string ⟨t.toArray⟩, .int .i64 i], .int .i64 ((p : Int) + 1), .bool true]) (by simp [results, Tryz.results151, go_sem, q0, q1, q2]) rfl ?_; rw [HT.out]; exact (show RQ (good (some ⟨4, t, n + 1, !partI (atI s ((p + 1 : Nat) : Int))⟩)) i w _ _ from RQ.got rfl rfl rfl (by have := HM.out; first | rfl | (push_cast; omega) | omega) (by simp only []; rw [HK.out, HG.out, HP.out]; rfl) (below_to stf.below rfl))) | (have stf := st'; refine bodyPost_ret (v := .tuple #[.agg #[.int .i64 4, .string ⟨t.toArray⟩, .int .i64 i], .int .i64 ((p : Int) + 1), .bool true]) (by simp [results, Tryz.results151, go_sem, q0, q1, q2]) rfl ?_; rw [HT.out]; exact (show RQ (good (some ⟨4, t, n + 1, !partI (atI s ((p + 1 : Nat) : Int))⟩)) i w _ _ from RQ.got rfl rfl rfl (by have := HM.out; first | rfl | (push_cast; omega) | omega) (by simp only []; rw [HK.out, HG.out, HP.out]; rfl) (below_to stf.below rfl))))
            · have HP := Lib.hid hpt
              clear hpt
              have t0 : w2.cell? ⟨w.heap.size + 1, 0, none⟩ = some (.int .i64 4) := cell_of_row _ _ 0 _ _ _ st.box
              have t1 : w2.cell? ⟨w.heap.size + 1, 1, none⟩ = some (.string ⟨t.toArray⟩) := cell_of_row _ _ 1 _ _ _ st.box
              have t2 : w2.cell? ⟨w.heap.size + 1, 2, none⟩ = some (.int .i64 i) := cell_of_row _ _ 2 _ _ _ st.box
              have q0 : w2.cell? ⟨w.heap.size, 0, none⟩ = some (.int .i64 0) := cell_of_row _ _ 0 _ _ _ st.res
              have q1 : w2.cell? ⟨w.heap.size, 1, none⟩ = some (.string ⟨#[]⟩) := cell_of_row _ _ 1 _ _ _ st.res
              have q2 : w2.cell? ⟨w.heap.size, 2, none⟩ = some (.int .i64 0) := cell_of_row _ _ 2 _ _ _ st.res
              have f0 := Lib.frozen_of_heap st.res 0
              have f1 := Lib.frozen_of_heap st.res 1
              have f2 := Lib.frozen_of_heap st.res 2
              go_region_held3 (fun w' => w'.cell? ⟨w.heap.size + 1, 0, none⟩ = some (.int .i64 4) ∧ w'.cell? ⟨w.heap.size + 1, 1, none⟩ = some (.string ⟨t.toArray⟩) ∧ w'.cell? ⟨w.heap.size + 1, 2, none⟩ = some (.int .i64 i)) (go_keep) (first | (go_at_call 38; refine (HCK.out _).mono ?_; rintro e w' ⟨rfl, hb⟩; have st' := st.call rfl hb; have t0 : w'.cell? ⟨w.heap.size + 1, 0, none⟩ = some (.int .i64 4) := cell_of_row _ _ 0 _ _ _ st'.box; have t1 : w'.cell? ⟨w.heap.size + 1, 1, none⟩ = some (.string ⟨t.toArray⟩) := cell_of_row _ _ 1 _ _ _ st'.box; have t2 : w'.cell? ⟨w.heap.size + 1, 2, none⟩ = some (.int .i64 i) := cell_of_row _ _ 2 _ _ _ st'.box; have q0 : w'.cell? ⟨w.heap.size, 0, none⟩ = some (.int .i64 0) := cell_of_row _ _ 0 _ _ _ st'.res; have q1 : w'.cell? ⟨w.heap.size, 1, none⟩ = some (.string ⟨#[]⟩) := cell_of_row _ _ 1 _ _ _ st'.res; have q2 : w'.cell? ⟨w.heap.size, 2, none⟩ = some (.int .i64 0) := cell_of_row _ _ 2 _ _ _ st'.res; have f0 := Lib.frozen_of_heap st'.res 0; have f1 := Lib.frozen_of_heap st'.res 1; have f2 := Lib.frozen_of_heap st'.res 2; clear hb) | (go_at_call 38; refine (HCK.out _).mono ?_; rintro e w' ⟨rfl, hb⟩; have st' := (st.put (Nat.le_refl _) (by omega) (.int .i64 4) (.string ⟨t.toArray⟩) (.int .i64 i)).call rfl hb; have t0 : w'.cell? ⟨w.heap.size + 1, 0, none⟩ = some (.int .i64 4) := cell_of_row _ _ 0 _ _ _ st'.box; have t1 : w'.cell? ⟨w.heap.size + 1, 1, none⟩ = some (.string ⟨t.toArray⟩) := cell_of_row _ _ 1 _ _ _ st'.box; have t2 : w'.cell? ⟨w.heap.size + 1, 2, none⟩ = some (.int .i64 i) := cell_of_row _ _ 2 _ _ _ st'.box; have q0 : w'.cell? ⟨w.heap.size, 0, none⟩ = some (.int .i64 4) := cell_of_row _ _ 0 _ _ _ st'.res; have q1 : w'.cell? ⟨w.heap.size, 1, none⟩ = some (.string ⟨t.toArray⟩) := cell_of_row _ _ 1 _ _ _ st'.res; have q2 : w'.cell? ⟨w.heap.size, 2, none⟩ = some (.int .i64 i) := cell_of_row _ _ 2 _ _ _ st'.res; have f0 := Lib.frozen_of_heap st'.res 0; have f1 := Lib.frozen_of_heap st'.res 1; have f2 := Lib.frozen_of_heap st'.res 2; clear hb) | (go_at_call 127; refine (rnamed_any _ r1 r2 _).mono ?_; rintro e w' ⟨rfl, hw⟩; rw [hw, HP.out]; clear hw))
              all_goals (
                go_wp2_with fail
                first | (have stf := st'.put (Nat.le_refl _) (by omega) (.int .i64 4) (.string ⟨t.toArray⟩) (.int .i64 i); refine bodyPost_ret (v := .tuple #[.agg #[.int .i64 4, .string ⟨t.toArray⟩, .int .i64 i], .int .i64 ((p : Int) + 1), .bool false]) (by simp [results, Tryz.results151, go_sem, q0, q1, q2]) rfl ?_; rw [HT.out]; exact (show RQ (good (some ⟨4, t, n + 1, !partI (atI s ((p + 1 : Nat) : Int))⟩)) i w _ _ from RQ.got rfl rfl rfl (by have := HM.out; first | rfl | (push_cast; omega) | omega) (by simp only []; rw [HK.out, HG.out, HP.out]; rfl) (below_to stf.below rfl))) | (have stf := st'; refine bodyPost_ret (v := .tuple #[.agg #[.int .i64 4, .string ⟨t.toArray⟩, .int .i64 i], .int .i64 ((p : Int) + 1), .bool false]) (by simp [results, Tryz.results151, go_sem, q0, q1, q2]) rfl ?_; rw [HT.out]; exact (show RQ (good (some ⟨4, t, n + 1, !partI (atI s ((p + 1 : Nat) : Int))⟩)) i w _ _ from RQ.got rfl rfl rfl (by have := HM.out; first | rfl | (push_cast; omega) | omega) (by simp only []; rw [HK.out, HG.out, HP.out]; rfl) (below_to stf.below rfl))))
          · have HP := Lib.hid (part_end s (p + 1) hge)
            have y1 : decide ((s.size : Int) ≤ ((p : Int) + 1)) = true := decide_eq_true (by omega)
            have t0 : w2.cell? ⟨w.heap.size + 1, 0, none⟩ = some (.int .i64 4) := cell_of_row _ _ 0 _ _ _ st.box
            have t1 : w2.cell? ⟨w.heap.size + 1, 1, none⟩ = some (.string ⟨t.toArray⟩) := cell_of_row _ _ 1 _ _ _ st.box
            have t2 : w2.cell? ⟨w.heap.size + 1, 2, none⟩ = some (.int .i64 i) := cell_of_row _ _ 2 _ _ _ st.box
            have q0 : w2.cell? ⟨w.heap.size, 0, none⟩ = some (.int .i64 0) := cell_of_row _ _ 0 _ _ _ st.res
            have q1 : w2.cell? ⟨w.heap.size, 1, none⟩ = some (.string ⟨#[]⟩) := cell_of_row _ _ 1 _ _ _ st.res
            have q2 : w2.cell? ⟨w.heap.size, 2, none⟩ = some (.int .i64 0) := cell_of_row _ _ 2 _ _ _ st.res
            have f0 := Lib.frozen_of_heap st.res 0
            have f1 := Lib.frozen_of_heap st.res 1
            have f2 := Lib.frozen_of_heap st.res 2
            refine wp_region_held_drew (S := (fun w' => w'.cell? ⟨w.heap.size + 1, 0, none⟩ = some (.int .i64 4) ∧ w'.cell? ⟨w.heap.size + 1, 1, none⟩ = some (.string ⟨t.toArray⟩) ∧ w'.cell? ⟨w.heap.size + 1, 2, none⟩ = some (.int .i64 i))) (by kernel_rfl) ⟨t0, t1, t2⟩ (fun hHeld => ?_)
            refine wpAnyH_take (i := 0) (oi := _) (v := ?_) rfl (by kernel_rfl) (by kernel_rfl) (by kernel_rfl) (fun _ _ _ h => h) (Or.inl ⟨by rfl, ?_⟩) (by assumption) ?_
            rotate_left
            · intro w hSw; (try dsimp only at hSw); go_simp; (try with_reducible rfl)
            try simp only [Act.put, List.getElem_toArray, List.getElem_cons_zero, List.setIfInBounds_toArray, List.set_cons_zero, List.set_cons_succ]
            refine wpAnyH_take (i := 1) (oi := _) (v := ?_) rfl (by kernel_rfl) (by kernel_rfl) (by kernel_rfl) (fun _ _ _ h => h) (Or.inl ⟨by rfl, ?_⟩) (by assumption) ?_
            rotate_left
            · intro w hSw; (try dsimp only at hSw); go_simp; (try with_reducible rfl)
            try simp only [Act.put, List.getElem_toArray, List.getElem_cons_succ, List.getElem_cons_zero, List.setIfInBounds_toArray, List.set_cons_zero, List.set_cons_succ]
            refine wpAnyH_take (i := 2) (oi := _) (v := ?_) rfl (by kernel_rfl) (by kernel_rfl) (by kernel_rfl) (fun _ _ _ h => h) (Or.inl ⟨by rfl, ?_⟩) (by assumption) ?_
            rotate_left
            · intro w hSw; (try dsimp only at hSw); go_simp; (try with_reducible rfl)
            try simp only [Act.put, List.getElem_toArray, List.getElem_cons_succ, List.getElem_cons_zero, List.setIfInBounds_toArray, List.set_cons_zero, List.set_cons_succ]
            refine wpAnyH_ready (rs := [3]) (by kernel_rfl) (by simp) ?_
            refine AllReadyH.cons (o := _) rfl (fun K hK => ?_) AllReadyH.nil
            · go_simp
              refine (HCK.out _).mono ?_
              rintro e w' ⟨rfl, hb⟩
              have st' := st.call rfl hb
              have t0 : w'.cell? ⟨w.heap.size + 1, 0, none⟩ = some (.int .i64 4) := cell_of_row _ _ 0 _ _ _ st'.box
              have t1 : w'.cell? ⟨w.heap.size + 1, 1, none⟩ = some (.string ⟨t.toArray⟩) := cell_of_row _ _ 1 _ _ _ st'.box
              have t2 : w'.cell? ⟨w.heap.size + 1, 2, none⟩ = some (.int .i64 i) := cell_of_row _ _ 2 _ _ _ st'.box
              have q0 : w'.cell? ⟨w.heap.size, 0, none⟩ = some (.int .i64 0) := cell_of_row _ _ 0 _ _ _ st'.res
              have q1 : w'.cell? ⟨w.heap.size, 1, none⟩ = some (.string ⟨#[]⟩) := cell_of_row _ _ 1 _ _ _ st'.res
              have q2 : w'.cell? ⟨w.heap.size, 2, none⟩ = some (.int .i64 0) := cell_of_row _ _ 2 _ _ _ st'.res
              have f0 := Lib.frozen_of_heap st'.res 0
              have f1 := Lib.frozen_of_heap st'.res 1
              have f2 := Lib.frozen_of_heap st'.res 2
              clear hb
              go_wp2_with fail
              refine hK.out _ _ ⟨t0, t1, t2⟩ (fun hHeld => ?_)
              clear hK K
              try simp only [Act.put, List.getElem_toArray, List.getElem_cons_succ, List.getElem_cons_zero, List.setIfInBounds_toArray, List.set_cons_zero, List.set_cons_succ]
              refine wpAnyH_take (i := 4) (oi := _) (v := ?_) rfl (by kernel_rfl) (by kernel_rfl) (by kernel_rfl) (fun _ _ _ h => h) (Or.inl ⟨by rfl, ?_⟩) (by assumption) ?_
              rotate_left
              · intro w hSw; (try dsimp only at hSw); go_simp; (try with_reducible rfl)
              try simp only [Act.put, List.getElem_toArray, List.getElem_cons_succ, List.getElem_cons_zero, List.setIfInBounds_toArray, List.set_cons_zero, List.set_cons_succ]
              refine wpAnyH_take (i := 5) (oi := _) (v := ?_) rfl (by kernel_rfl) (by kernel_rfl) (by kernel_rfl) (fun _ _ _ h => h) (Or.inl ⟨by rfl, ?_⟩) (by assumption) ?_
              rotate_left
              · intro w hSw; (try dsimp only at hSw); go_simp; (try with_reducible rfl)
              try simp only [Act.put, List.getElem_toArray, List.getElem_cons_succ, List.getElem_cons_zero, List.setIfInBounds_toArray, List.set_cons_zero, List.set_cons_succ]
              refine wpAnyH_take (i := 6) (oi := _) (v := ?_) rfl (by kernel_rfl) (by kernel_rfl) (by kernel_rfl) (fun _ _ _ h => h) (Or.inl ⟨by rfl, ?_⟩) (by assumption) ?_
              rotate_left
              · intro w hSw; (try dsimp only at hSw); go_simp; (try with_reducible rfl)
              try simp only [Act.put, List.getElem_toArray, List.getElem_cons_succ, List.getElem_cons_zero, List.setIfInBounds_toArray, List.set_cons_zero, List.set_cons_succ]
              refine wpAnyH_take (i := 7) (oi := _) (v := ?_) rfl (by kernel_rfl) (by kernel_rfl) (by kernel_rfl) (fun _ _ _ h => h) (Or.inl ⟨by rfl, ?_⟩) (by assumption) ?_
              rotate_left
              · intro w hSw; (try dsimp only at hSw); go_simp; (try with_reducible rfl)
              try simp only [Act.put, List.getElem_toArray, List.getElem_cons_succ, List.getElem_cons_zero, List.setIfInBounds_toArray, List.set_cons_zero, List.set_cons_succ]
              refine wpAnyH_take (i := 8) (oi := _) (v := ?_) rfl (by kernel_rfl) (by kernel_rfl) (by kernel_rfl) (fun _ _ _ h => h) (Or.inl ⟨by rfl, ?_⟩) (by assumption) ?_
              rotate_left
              · intro w hSw; (try dsimp only at hSw); go_simp; (try with_reducible rfl)
              try simp only [Act.put, List.getElem_toArray, List.getElem_cons_succ, List.getElem_cons_zero, List.setIfInBounds_toArray, List.set_cons_zero, List.set_cons_succ]
              refine wpAnyH_take (i := 9) (oi := _) (v := ?_) rfl (by kernel_rfl) (by kernel_rfl) (by kernel_rfl) (fun _ _ _ h => h) (Or.inl ⟨by rfl, ?_⟩) (by assumption) ?_
              rotate_left
              · intro w hSw; (try dsimp only at hSw); go_simp; (try with_reducible rfl)
              try simp only [Act.put, List.getElem_toArray, List.getElem_cons_succ, List.getElem_cons_zero, List.setIfInBounds_toArray, List.set_cons_zero, List.set_cons_succ]
              refine wpAnyH_take (i := 10) (oi := _) (v := ?_) rfl (by kernel_rfl) (by kernel_rfl) (by kernel_rfl) (fun _ _ _ h => h) (Or.inl ⟨by rfl, ?_⟩) (by assumption) ?_
              rotate_left
              · intro w hSw; (try dsimp only at hSw); go_simp; (try with_reducible rfl)
              try simp only [Act.put, List.getElem_toArray, List.getElem_cons_succ, List.getElem_cons_zero, List.setIfInBounds_toArray, List.set_cons_zero, List.set_cons_succ]
              refine wpAnyH_take (i := 11) (oi := _) (v := undef) rfl (by kernel_rfl) (by kernel_rfl) (by kernel_rfl) (fun _ _ _ h => h) (Or.inr ⟨by rfl, rfl⟩) (by assumption) ?_
              try simp only [Act.put, List.getElem_toArray, List.getElem_cons_succ, List.getElem_cons_zero, List.setIfInBounds_toArray, List.set_cons_zero, List.set_cons_succ]
              refine wpAnyH_take (i := 12) (oi := _) (v := undef) rfl (by kernel_rfl) (by kernel_rfl) (by kernel_rfl) (fun _ _ _ h => h) (Or.inr ⟨by rfl, rfl⟩) (by assumption) ?_
              try simp only [Act.put, List.getElem_toArray, List.getElem_cons_succ, List.getElem_cons_zero, List.setIfInBounds_toArray, List.set_cons_zero, List.set_cons_succ]
              refine wpAnyH_take (i := 13) (oi := _) (v := undef) rfl (by kernel_rfl) (by kernel_rfl) (by kernel_rfl) (fun _ _ _ h => h) (Or.inr ⟨by rfl, rfl⟩) (by assumption) ?_
              try simp only [Act.put, List.getElem_toArray, List.getElem_cons_succ, List.getElem_cons_zero, List.setIfInBounds_toArray, List.set_cons_zero, List.set_cons_succ]
              refine wpAnyH_take (i := 14) (oi := _) (v := undef) rfl (by kernel_rfl) (by kernel_rfl) (by kernel_rfl) (fun _ _ _ h => h) (Or.inr ⟨by rfl, rfl⟩) (by assumption) ?_
              try simp only [Act.put, List.getElem_toArray, List.getElem_cons_succ, List.getElem_cons_zero, List.setIfInBounds_toArray, List.set_cons_zero, List.set_cons_succ]
              refine wpAnyH_take (i := 15) (oi := _) (v := undef) rfl (by kernel_rfl) (by kernel_rfl) (by kernel_rfl) (fun _ _ _ h => h) (Or.inr ⟨by rfl, rfl⟩) (by assumption) ?_
              try simp only [Act.put, List.getElem_toArray, List.getElem_cons_succ, List.getElem_cons_zero, List.setIfInBounds_toArray, List.set_cons_zero, List.set_cons_succ]
              refine wpAnyH_take (i := 16) (oi := _) (v := ?_) rfl (by kernel_rfl) (by kernel_rfl) (by kernel_rfl) (fun _ _ _ h => h) (Or.inl ⟨by rfl, ?_⟩) (by assumption) ?_
              rotate_left
              · intro w hSw; (try dsimp only at hSw); go_simp; (try with_reducible rfl)
              try simp only [Act.put, List.getElem_toArray, List.getElem_cons_succ, List.getElem_cons_zero, List.setIfInBounds_toArray, List.set_cons_zero, List.set_cons_succ]
              refine wpAnyH_take (i := 17) (oi := _) (v := ?_) rfl (by kernel_rfl) (by kernel_rfl) (by kernel_rfl) (fun _ _ _ h => h) (Or.inl ⟨by rfl, ?_⟩) (by assumption) ?_
              rotate_left
              · intro w hSw; (try dsimp only at hSw); go_simp; (try with_reducible rfl)
              try simp only [Act.put, List.getElem_toArray, List.getElem_cons_succ, List.getElem_cons_zero, List.setIfInBounds_toArray, List.set_cons_zero, List.set_cons_succ]
              refine wpAnyH_ready (rs := [18]) (by kernel_rfl) (by simp) ?_
              refine AllReadyH.cons (o := _) rfl (fun K hK => ?_) AllReadyH.nil
              go_simp
              refine hK.out _ _ ⟨(far3 (by omega) _ _ _ _ _).trans t0, (far3 (by omega) _ _ _ _ _).trans t1, (far3 (by omega) _ _ _ _ _).trans t2⟩ (fun hHeld => ?_)
              clear hK K
              try simp only [Act.put, List.getElem_toArray, List.getElem_cons_succ, List.getElem_cons_zero, List.setIfInBounds_toArray, List.set_cons_zero, List.set_cons_succ]
              refine wpAnyH_take (i := 19) (oi := _) (v := ?_) rfl (by kernel_rfl) (by kernel_rfl) (by kernel_rfl) (fun _ _ _ h => h) (Or.inl ⟨by rfl, ?_⟩) (by assumption) ?_
              rotate_left
              · intro w hSw; (try dsimp only at hSw); go_simp; (try with_reducible rfl)
              try simp only [Act.put, List.getElem_toArray, List.getElem_cons_succ, List.getElem_cons_zero, List.setIfInBounds_toArray, List.set_cons_zero, List.set_cons_succ]
              refine wpAnyH_take (i := 20) (oi := _) (v := ?_) rfl (by kernel_rfl) (by kernel_rfl) (by kernel_rfl) (fun _ _ _ h => h) (Or.inl ⟨by rfl, ?_⟩) (by assumption) ?_
              rotate_left
              · intro w hSw; (try dsimp only at hSw); go_simp; (try with_reducible rfl)
              try simp only [Act.put, List.getElem_toArray, List.getElem_cons_succ, List.getElem_cons_zero, List.setIfInBounds_toArray, List.set_cons_zero, List.set_cons_succ]
              refine wpAnyH_done (by kernel_rfl) ?_ _
              go_wp2_with fail
              have stf := st'.put (Nat.le_refl _) (by omega) (.int .i64 4) (.string ⟨t.toArray⟩) (.int .i64 i)
              refine bodyPost_ret (v := .tuple #[.agg #[.int .i64 4, .string ⟨t.toArray⟩, .int .i64 i], .int .i64 ((p : Int) + 1), .bool true]) (by simp [results, Tryz.results151, go_sem, q0, q1, q2]) rfl ?_
              rw [HT.out]; exact (show RQ (good (some ⟨4, t, n + 1, !partI (atI s ((p + 1 : Nat) : Int))⟩)) i w _ _ from RQ.got rfl rfl rfl (by have := HM.out; first | rfl | (push_cast; omega) | omega) (by simp only []; rw [HK.out, HP.out]; rfl) (below_to stf.below rfl))
      · have HT : Hid (quoTok (s.data.toList.drop i) = some ⟨5, t, n + 2, !partI (atI s ((p + 1 + 1 : Nat) : Int))⟩) := Lib.hid (HGO.out true hc)
        have HM := Lib.hid hm2
        clear hc hm hm2 HGO
        go_upto_region 14 with fail
        have st : Stored w w.heap.size (w.heap.size + 1) (.cells #[.int .i64 0, .string ⟨#[]⟩, .int .i64 0] 24) (.cells #[.int .i64 5, .string ⟨t.toArray⟩, .int .i64 i] 24) (w2.setCell ⟨w.heap.size + 1, 0, none⟩ (.int .i64 5)) :=
          ⟨(heap_set_other (by omega) _).trans st.res, tok_set0 st.box _, st.below.setCell (p := ⟨w.heap.size + 1, 0, none⟩) (by show w.heap.size ≤ w.heap.size + 1; omega) _⟩
        clear hT0 hF0
        generalize w2.setCell ⟨w.heap.size + 1, 0, none⟩ (.int .i64 5) = w3 at st ⊢
        cases hck : checkI 5 ⟨t.toArray⟩
        · have HCK : Hid (∀ W, Calls Tryz.prog 38 #[.agg #[.int .i64 5, .string ⟨t.toArray⟩, .int .i64 i]] W fun e w' => e = .returned (.int .i64 50) ∧ Below W.heap.size W w') := Lib.hid (fun W => by have := rCheck_any 5 ⟨t.toArray⟩ i hsz W; rwa [hck] at this)
          have HK := Lib.hid hck
          clear hck
          have t0 : w3.cell? ⟨w.heap.size + 1, 0, none⟩ = some (.int .i64 5) := cell_of_row _ _ 0 _ _ _ st.box
          have t1 : w3.cell? ⟨w.heap.size + 1, 1, none⟩ = some (.string ⟨t.toArray⟩) := cell_of_row _ _ 1 _ _ _ st.box
          have t2 : w3.cell? ⟨w.heap.size + 1, 2, none⟩ = some (.int .i64 i) := cell_of_row _ _ 2 _ _ _ st.box
          have q0 : w3.cell? ⟨w.heap.size, 0, none⟩ = some (.int .i64 0) := cell_of_row _ _ 0 _ _ _ st.res
          have q1 : w3.cell? ⟨w.heap.size, 1, none⟩ = some (.string ⟨#[]⟩) := cell_of_row _ _ 1 _ _ _ st.res
          have q2 : w3.cell? ⟨w.heap.size, 2, none⟩ = some (.int .i64 0) := cell_of_row _ _ 2 _ _ _ st.res
          have f0 := Lib.frozen_of_heap st.res 0
          have f1 := Lib.frozen_of_heap st.res 1
          have f2 := Lib.frozen_of_heap st.res 2
          refine wp_region_held_drew (S := (fun w' => w'.cell? ⟨w.heap.size + 1, 0, none⟩ = some (.int .i64 5) ∧ w'.cell? ⟨w.heap.size + 1, 1, none⟩ = some (.string ⟨t.toArray⟩) ∧ w'.cell? ⟨w.heap.size + 1, 2, none⟩ = some (.int .i64 i))) (by kernel_rfl) ⟨t0, t1, t2⟩ (fun hHeld => ?_)
          refine wpAnyH_take (i := 0) (oi := _) (v := ?_) rfl (by kernel_rfl) (by kernel_rfl) (by kernel_rfl) (fun _ _ _ h => h) (Or.inl ⟨by rfl, ?_⟩) (by assumption) ?_
          rotate_left
          · intro w hSw; (try dsimp only at hSw); go_simp; (try with_reducible rfl)
          try simp only [Act.put, List.getElem_toArray, List.getElem_cons_zero, List.setIfInBounds_toArray, List.set_cons_zero, List.set_cons_succ]
          refine wpAnyH_take (i := 1) (oi := _) (v := ?_) rfl (by kernel_rfl) (by kernel_rfl) (by kernel_rfl) (fun _ _ _ h => h) (Or.inl ⟨by rfl, ?_⟩) (by assumption) ?_
          rotate_left
          · intro w hSw; (try dsimp only at hSw); go_simp; (try with_reducible rfl)
          try simp only [Act.put, List.getElem_toArray, List.getElem_cons_succ, List.getElem_cons_zero, List.setIfInBounds_toArray, List.set_cons_zero, List.set_cons_succ]
          refine wpAnyH_take (i := 2) (oi := _) (v := ?_) rfl (by kernel_rfl) (by kernel_rfl) (by kernel_rfl) (fun _ _ _ h => h) (Or.inl ⟨by rfl, ?_⟩) (by assumption) ?_
          rotate_left
          · intro w hSw; (try dsimp only at hSw); go_simp; (try with_reducible rfl)
          try simp only [Act.put, List.getElem_toArray, List.getElem_cons_succ, List.getElem_cons_zero, List.setIfInBounds_toArray, List.set_cons_zero, List.set_cons_succ]
          refine wpAnyH_ready (rs := [3]) (by kernel_rfl) (by simp) ?_
          refine AllReadyH.cons (o := _) rfl (fun K hK => ?_) AllReadyH.nil
          · go_simp
            refine (HCK.out _).mono ?_
            rintro e w' ⟨rfl, hb⟩
            have st' := st.call rfl hb
            have t0 : w'.cell? ⟨w.heap.size + 1, 0, none⟩ = some (.int .i64 5) := cell_of_row _ _ 0 _ _ _ st'.box
            have t1 : w'.cell? ⟨w.heap.size + 1, 1, none⟩ = some (.string ⟨t.toArray⟩) := cell_of_row _ _ 1 _ _ _ st'.box
            have t2 : w'.cell? ⟨w.heap.size + 1, 2, none⟩ = some (.int .i64 i) := cell_of_row _ _ 2 _ _ _ st'.box
            have q0 : w'.cell? ⟨w.heap.size, 0, none⟩ = some (.int .i64 0) := cell_of_row _ _ 0 _ _ _ st'.res
            have q1 : w'.cell? ⟨w.heap.size, 1, none⟩ = some (.string ⟨#[]⟩) := cell_of_row _ _ 1 _ _ _ st'.res
            have q2 : w'.cell? ⟨w.heap.size, 2, none⟩ = some (.int .i64 0) := cell_of_row _ _ 2 _ _ _ st'.res
            have f0 := Lib.frozen_of_heap st'.res 0
            have f1 := Lib.frozen_of_heap st'.res 1
            have f2 := Lib.frozen_of_heap st'.res 2
            clear hb
            go_wp2_with fail
            refine hK.out _ _ ⟨t0, t1, t2⟩ (fun hHeld => ?_)
            clear hK K
            try simp only [Act.put, List.getElem_toArray, List.getElem_cons_succ, List.getElem_cons_zero, List.setIfInBounds_toArray, List.set_cons_zero, List.set_cons_succ]
            refine wpAnyH_take (i := 4) (oi := _) (v := ?_) rfl (by kernel_rfl) (by kernel_rfl) (by kernel_rfl) (fun _ _ _ h => h) (Or.inl ⟨by rfl, ?_⟩) (by assumption) ?_
            rotate_left
            · intro w hSw; (try dsimp only at hSw); go_simp; (try with_reducible rfl)
            try simp only [Act.put, List.getElem_toArray, List.getElem_cons_succ, List.getElem_cons_zero, List.setIfInBounds_toArray, List.set_cons_zero, List.set_cons_succ]
            refine wpAnyH_take (i := 5) (oi := _) (v := ?_) rfl (by kernel_rfl) (by kernel_rfl) (by kernel_rfl) (fun _ _ _ h => h) (Or.inl ⟨by rfl, ?_⟩) (by assumption) ?_
            rotate_left
            · intro w hSw; (try dsimp only at hSw); go_simp; (try with_reducible rfl)
            try simp only [Act.put, List.getElem_toArray, List.getElem_cons_succ, List.getElem_cons_zero, List.setIfInBounds_toArray, List.set_cons_zero, List.set_cons_succ]
            refine wpAnyH_take (i := 6) (oi := _) (v := undef) rfl (by kernel_rfl) (by kernel_rfl) (by kernel_rfl) (fun _ _ _ h => h) (Or.inr ⟨by rfl, rfl⟩) (by assumption) ?_
            try simp only [Act.put, List.getElem_toArray, List.getElem_cons_succ, List.getElem_cons_zero, List.setIfInBounds_toArray, List.set_cons_zero, List.set_cons_succ]
            refine wpAnyH_take (i := 7) (oi := _) (v := undef) rfl (by kernel_rfl) (by kernel_rfl) (by kernel_rfl) (fun _ _ _ h => h) (Or.inr ⟨by rfl, rfl⟩) (by assumption) ?_
            try simp only [Act.put, List.getElem_toArray, List.getElem_cons_succ, List.getElem_cons_zero, List.setIfInBounds_toArray, List.set_cons_zero, List.set_cons_succ]
            refine wpAnyH_take (i := 8) (oi := _) (v := undef) rfl (by kernel_rfl) (by kernel_rfl) (by kernel_rfl) (fun _ _ _ h => h) (Or.inr ⟨by rfl, rfl⟩) (by assumption) ?_
            try simp only [Act.put, List.getElem_toArray, List.getElem_cons_succ, List.getElem_cons_zero, List.setIfInBounds_toArray, List.set_cons_zero, List.set_cons_succ]
            refine wpAnyH_take (i := 9) (oi := _) (v := undef) rfl (by kernel_rfl) (by kernel_rfl) (by kernel_rfl) (fun _ _ _ h => h) (Or.inr ⟨by rfl, rfl⟩) (by assumption) ?_
            try simp only [Act.put, List.getElem_toArray, List.getElem_cons_succ, List.getElem_cons_zero, List.setIfInBounds_toArray, List.set_cons_zero, List.set_cons_succ]
            refine wpAnyH_take (i := 10) (oi := _) (v := undef) rfl (by kernel_rfl) (by kernel_rfl) (by kernel_rfl) (fun _ _ _ h => h) (Or.inr ⟨by rfl, rfl⟩) (by assumption) ?_
            try simp only [Act.put, List.getElem_toArray, List.getElem_cons_succ, List.getElem_cons_zero, List.setIfInBounds_toArray, List.set_cons_zero, List.set_cons_succ]
            refine wpAnyH_take (i := 11) (oi := _) (v := undef) rfl (by kernel_rfl) (by kernel_rfl) (by kernel_rfl) (fun _ _ _ h => h) (Or.inr ⟨by rfl, rfl⟩) (by assumption) ?_
            try simp only [Act.put, List.getElem_toArray, List.getElem_cons_succ, List.getElem_cons_zero, List.setIfInBounds_toArray, List.set_cons_zero, List.set_cons_succ]
            refine wpAnyH_take (i := 12) (oi := _) (v := undef) rfl (by kernel_rfl) (by kernel_rfl) (by kernel_rfl) (fun _ _ _ h => h) (Or.inr ⟨by rfl, rfl⟩) (by assumption) ?_
            try simp only [Act.put, List.getElem_toArray, List.getElem_cons_succ, List.getElem_cons_zero, List.setIfInBounds_toArray, List.set_cons_zero, List.set_cons_succ]
            refine wpAnyH_take (i := 13) (oi := _) (v := undef) rfl (by kernel_rfl) (by kernel_rfl) (by kernel_rfl) (fun _ _ _ h => h) (Or.inr ⟨by rfl, rfl⟩) (by assumption) ?_
            try simp only [Act.put, List.getElem_toArray, List.getElem_cons_succ, List.getElem_cons_zero, List.setIfInBounds_toArray, List.set_cons_zero, List.set_cons_succ]
            refine wpAnyH_take (i := 14) (oi := _) (v := undef) rfl (by kernel_rfl) (by kernel_rfl) (by kernel_rfl) (fun _ _ _ h => h) (Or.inr ⟨by rfl, rfl⟩) (by assumption) ?_
            try simp only [Act.put, List.getElem_toArray, List.getElem_cons_succ, List.getElem_cons_zero, List.setIfInBounds_toArray, List.set_cons_zero, List.set_cons_succ]
            refine wpAnyH_take (i := 15) (oi := _) (v := undef) rfl (by kernel_rfl) (by kernel_rfl) (by kernel_rfl) (fun _ _ _ h => h) (Or.inr ⟨by rfl, rfl⟩) (by assumption) ?_
            try simp only [Act.put, List.getElem_toArray, List.getElem_cons_succ, List.getElem_cons_zero, List.setIfInBounds_toArray, List.set_cons_zero, List.set_cons_succ]
            refine wpAnyH_take (i := 16) (oi := _) (v := undef) rfl (by kernel_rfl) (by kernel_rfl) (by kernel_rfl) (fun _ _ _ h => h) (Or.inr ⟨by rfl, rfl⟩) (by assumption) ?_
            try simp only [Act.put, List.getElem_toArray, List.getElem_cons_succ, List.getElem_cons_zero, List.setIfInBounds_toArray, List.set_cons_zero, List.set_cons_succ]
            refine wpAnyH_take (i := 17) (oi := _) (v := ?_) rfl (by kernel_rfl) (by kernel_rfl) (by kernel_rfl) (fun _ _ _ h => h) (Or.inl ⟨by rfl, ?_⟩) (by assumption) ?_
            rotate_left
            · intro w hSw; (try dsimp only at hSw); go_simp; (try with_reducible rfl)
            try simp only [Act.put, List.getElem_toArray, List.getElem_cons_succ, List.getElem_cons_zero, List.setIfInBounds_toArray, List.set_cons_zero, List.set_cons_succ]
            refine wpAnyH_ready (rs := [18]) (by kernel_rfl) (by simp) ?_
            refine AllReadyH.cons (o := _) rfl (fun K hK => ?_) AllReadyH.nil
            go_simp
            refine hK.out _ _ ⟨(far3 (by omega) _ _ _ _ _).trans t0, (far3 (by omega) _ _ _ _ _).trans t1, (far3 (by omega) _ _ _ _ _).trans t2⟩ (fun hHeld => ?_)
            clear hK K
            try simp only [Act.put, List.getElem_toArray, List.getElem_cons_succ, List.getElem_cons_zero, List.setIfInBounds_toArray, List.set_cons_zero, List.set_cons_succ]
            refine wpAnyH_take (i := 19) (oi := _) (v := ?_) rfl (by kernel_rfl) (by kernel_rfl) (by kernel_rfl) (fun _ _ _ h => h) (Or.inl ⟨by rfl, ?_⟩) (by assumption) ?_
            rotate_left
            · intro w hSw; (try dsimp only at hSw); go_simp; (try with_reducible rfl)
            try simp only [Act.put, List.getElem_toArray, List.getElem_cons_succ, List.getElem_cons_zero, List.setIfInBounds_toArray, List.set_cons_zero, List.set_cons_succ]
            refine wpAnyH_take (i := 20) (oi := _) (v := ?_) rfl (by kernel_rfl) (by kernel_rfl) (by kernel_rfl) (fun _ _ _ h => h) (Or.inl ⟨by rfl, ?_⟩) (by assumption) ?_
            rotate_left
            · intro w hSw; (try dsimp only at hSw); go_simp; (try with_reducible rfl)
            try simp only [Act.put, List.getElem_toArray, List.getElem_cons_succ, List.getElem_cons_zero, List.setIfInBounds_toArray, List.set_cons_zero, List.set_cons_succ]
            refine wpAnyH_done (by kernel_rfl) ?_ _
            go_wp2_with fail
            have stf := st'.put (Nat.le_refl _) (by omega) (.int .i64 5) (.string ⟨t.toArray⟩) (.int .i64 i)
            refine bodyPost_ret (v := .tuple #[.agg #[.int .i64 5, .string ⟨t.toArray⟩, .int .i64 i], .int .i64 ((p : Int) + 1 + 1), .bool false]) (by simp [results, Tryz.results151, go_sem, q0, q1, q2]) rfl ?_
            rw [HT.out]; exact (show RQ (good (some ⟨5, t, n + 2, !partI (atI s ((p + 1 + 1 : Nat) : Int))⟩)) i w _ _ from RQ.got rfl rfl rfl (by have := HM.out; first | rfl | (push_cast; omega) | omega) (by rw [HK.out]; rfl) (below_to stf.below rfl))
        · have HCK : Hid (∀ W, Calls Tryz.prog 38 #[.agg #[.int .i64 5, .string ⟨t.toArray⟩, .int .i64 i]] W fun e w' => e = .returned (.int .i64 0) ∧ Below W.heap.size W w') := Lib.hid (fun W => by have := rCheck_any 5 ⟨t.toArray⟩ i hsz W; rwa [hck] at this)
          have HK := Lib.hid hck
          clear hck
          rcases Nat.lt_or_ge (p + 1 + 1) s.size with hlt | hge
          · obtain ⟨r1, r2⟩ := byte_range s (p + 1 + 1) hlt
            have HG := Lib.hid (atI_get s (p + 1 + 1) hlt)
            have y1 : ((p : Int) + 1 + 1) < (s.size : Int) := by omega
            have y2 : decide ((s.size : Int) ≤ ((p : Int) + 1 + 1)) = false := decide_eq_false (by omega)
            cases hpt : partI ((s[p + 1 + 1]'hlt).toNat : Int)
            · have HP := Lib.hid hpt
              clear hpt
              have t0 : w3.cell? ⟨w.heap.size + 1, 0, none⟩ = some (.int .i64 5) := cell_of_row _ _ 0 _ _ _ st.box
              have t1 : w3.cell? ⟨w.heap.size + 1, 1, none⟩ = some (.string ⟨t.toArray⟩) := cell_of_row _ _ 1 _ _ _ st.box
              have t2 : w3.cell? ⟨w.heap.size + 1, 2, none⟩ = some (.int .i64 i) := cell_of_row _ _ 2 _ _ _ st.box
              have q0 : w3.cell? ⟨w.heap.size, 0, none⟩ = some (.int .i64 0) := cell_of_row _ _ 0 _ _ _ st.res
              have q1 : w3.cell? ⟨w.heap.size, 1, none⟩ = some (.string ⟨#[]⟩) := cell_of_row _ _ 1 _ _ _ st.res
              have q2 : w3.cell? ⟨w.heap.size, 2, none⟩ = some (.int .i64 0) := cell_of_row _ _ 2 _ _ _ st.res
              have f0 := Lib.frozen_of_heap st.res 0
              have f1 := Lib.frozen_of_heap st.res 1
              have f2 := Lib.frozen_of_heap st.res 2
              go_region_held3 (fun w' => w'.cell? ⟨w.heap.size + 1, 0, none⟩ = some (.int .i64 5) ∧ w'.cell? ⟨w.heap.size + 1, 1, none⟩ = some (.string ⟨t.toArray⟩) ∧ w'.cell? ⟨w.heap.size + 1, 2, none⟩ = some (.int .i64 i)) (go_keep) (first | (go_at_call 38; refine (HCK.out _).mono ?_; rintro e w' ⟨rfl, hb⟩; have st' := st.call rfl hb; have t0 : w'.cell? ⟨w.heap.size + 1, 0, none⟩ = some (.int .i64 5) := cell_of_row _ _ 0 _ _ _ st'.box; have t1 : w'.cell? ⟨w.heap.size + 1, 1, none⟩ = some (.string ⟨t.toArray⟩) := cell_of_row _ _ 1 _ _ _ st'.box; have t2 : w'.cell? ⟨w.heap.size + 1, 2, none⟩ = some (.int .i64 i) := cell_of_row _ _ 2 _ _ _ st'.box; have q0 : w'.cell? ⟨w.heap.size, 0, none⟩ = some (.int .i64 0) := cell_of_row _ _ 0 _ _ _ st'.res; have q1 : w'.cell? ⟨w.heap.size, 1, none⟩ = some (.string ⟨#[]⟩) := cell_of_row _ _ 1 _ _ _ st'.res; have q2 : w'.cell? ⟨w.heap.size, 2, none⟩ = some (.int .i64 0) := cell_of_row _ _ 2 _ _ _ st'.res; have f0 := Lib.frozen_of_heap st'.res 0; have f1 := Lib.frozen_of_heap st'.res 1; have f2 := Lib.frozen_of_heap st'.res 2; clear hb) | (go_at_call 38; refine (HCK.out _).mono ?_; rintro e w' ⟨rfl, hb⟩; have st' := (st.put (Nat.le_refl _) (by omega) (.int .i64 5) (.string ⟨t.toArray⟩) (.int .i64 i)).call rfl hb; have t0 : w'.cell? ⟨w.heap.size + 1, 0, none⟩ = some (.int .i64 5) := cell_of_row _ _ 0 _ _ _ st'.box; have t1 : w'.cell? ⟨w.heap.size + 1, 1, none⟩ = some (.string ⟨t.toArray⟩) := cell_of_row _ _ 1 _ _ _ st'.box; have t2 : w'.cell? ⟨w.heap.size + 1, 2, none⟩ = some (.int .i64 i) := cell_of_row _ _ 2 _ _ _ st'.box; have q0 : w'.cell? ⟨w.heap.size, 0, none⟩ = some (.int .i64 5) := cell_of_row _ _ 0 _ _ _ st'.res; have q1 : w'.cell? ⟨w.heap.size, 1, none⟩ = some (.string ⟨t.toArray⟩) := cell_of_row _ _ 1 _ _ _ st'.res; have q2 : w'.cell? ⟨w.heap.size, 2, none⟩ = some (.int .i64 i) := cell_of_row _ _ 2 _ _ _ st'.res; have f0 := Lib.frozen_of_heap st'.res 0; have f1 := Lib.frozen_of_heap st'.res 1; have f2 := Lib.frozen_of_heap st'.res 2; clear hb) | (go_at_call 127; refine (rnamed_any _ r1 r2 _).mono ?_; rintro e w' ⟨rfl, hw⟩; rw [hw, HP.out]; clear hw))
              all_goals (
                go_wp2_with fail
                first | (have stf := st'.put (Nat.le_refl _) (by omega) (.int .i64 5) (.string ⟨t.toArray⟩) (.int .i64 i); refine bodyPost_ret (v := .tuple #[.agg #[.int .i64 5, .string ⟨t.toArray⟩, .int .i64 i], .int .i64 ((p : Int) + 1 + 1), .bool true]) (by simp [results, Tryz.results151, go_sem, q0, q1, q2]) rfl ?_; rw [HT.out]; exact (show RQ (good (some ⟨5, t, n + 2, !partI (atI s ((p + 1 + 1 : Nat) : Int))⟩)) i w _ _ from RQ.got rfl rfl rfl (by have := HM.out; first | rfl | (push_cast; omega) | omega) (by simp only []; rw [HK.out, HG.out, HP.out]; rfl) (below_to stf.below rfl))) | (have stf := st'; refine bodyPost_ret (v := .tuple #[.agg #[.int .i64 5, .string ⟨t.toArray⟩, .int .i64 i], .int .i64 ((p : Int) + 1 + 1), .bool true]) (by simp [results, Tryz.results151, go_sem, q0, q1, q2]) rfl ?_; rw [HT.out]; exact (show RQ (good (some ⟨5, t, n + 2, !partI (atI s ((p + 1 + 1 : Nat) : Int))⟩)) i w _ _ from RQ.got rfl rfl rfl (by have := HM.out; first | rfl | (push_cast; omega) | omega) (by simp only []; rw [HK.out, HG.out, HP.out]; rfl) (below_to stf.below rfl))))
            · have HP := Lib.hid hpt
              clear hpt
              have t0 : w3.cell? ⟨w.heap.size + 1, 0, none⟩ = some (.int .i64 5) := cell_of_row _ _ 0 _ _ _ st.box
              have t1 : w3.cell? ⟨w.heap.size + 1, 1, none⟩ = some (.string ⟨t.toArray⟩) := cell_of_row _ _ 1 _ _ _ st.box
              have t2 : w3.cell? ⟨w.heap.size + 1, 2, none⟩ = some (.int .i64 i) := cell_of_row _ _ 2 _ _ _ st.box
              have q0 : w3.cell? ⟨w.heap.size, 0, none⟩ = some (.int .i64 0) := cell_of_row _ _ 0 _ _ _ st.res
              have q1 : w3.cell? ⟨w.heap.size, 1, none⟩ = some (.string ⟨#[]⟩) := cell_of_row _ _ 1 _ _ _ st.res
              have q2 : w3.cell? ⟨w.heap.size, 2, none⟩ = some (.int .i64 0) := cell_of_row _ _ 2 _ _ _ st.res
              have f0 := Lib.frozen_of_heap st.res 0
              have f1 := Lib.frozen_of_heap st.res 1
              have f2 := Lib.frozen_of_heap st.res 2
              go_region_held3 (fun w' => w'.cell? ⟨w.heap.size + 1, 0, none⟩ = some (.int .i64 5) ∧ w'.cell? ⟨w.heap.size + 1, 1, none⟩ = some (.string ⟨t.toArray⟩) ∧ w'.cell? ⟨w.heap.size + 1, 2, none⟩ = some (.int .i64 i)) (go_keep) (first | (go_at_call 38; refine (HCK.out _).mono ?_; rintro e w' ⟨rfl, hb⟩; have st' := st.call rfl hb; have t0 : w'.cell? ⟨w.heap.size + 1, 0, none⟩ = some (.int .i64 5) := cell_of_row _ _ 0 _ _ _ st'.box; have t1 : w'.cell? ⟨w.heap.size + 1, 1, none⟩ = some (.string ⟨t.toArray⟩) := cell_of_row _ _ 1 _ _ _ st'.box; have t2 : w'.cell? ⟨w.heap.size + 1, 2, none⟩ = some (.int .i64 i) := cell_of_row _ _ 2 _ _ _ st'.box; have q0 : w'.cell? ⟨w.heap.size, 0, none⟩ = some (.int .i64 0) := cell_of_row _ _ 0 _ _ _ st'.res; have q1 : w'.cell? ⟨w.heap.size, 1, none⟩ = some (.string ⟨#[]⟩) := cell_of_row _ _ 1 _ _ _ st'.res; have q2 : w'.cell? ⟨w.heap.size, 2, none⟩ = some (.int .i64 0) := cell_of_row _ _ 2 _ _ _ st'.res; have f0 := Lib.frozen_of_heap st'.res 0; have f1 := Lib.frozen_of_heap st'.res 1; have f2 := Lib.frozen_of_heap st'.res 2; clear hb) | (go_at_call 38; refine (HCK.out _).mono ?_; rintro e w' ⟨rfl, hb⟩; have st' := (st.put (Nat.le_refl _) (by omega) (.int .i64 5) (.string ⟨t.toArray⟩) (.int .i64 i)).call rfl hb; have t0 : w'.cell? ⟨w.heap.size + 1, 0, none⟩ = some (.int .i64 5) := cell_of_row _ _ 0 _ _ _ st'.box; have t1 : w'.cell? ⟨w.heap.size + 1, 1, none⟩ = some (.string ⟨t.toArray⟩) := cell_of_row _ _ 1 _ _ _ st'.box; have t2 : w'.cell? ⟨w.heap.size + 1, 2, none⟩ = some (.int .i64 i) := cell_of_row _ _ 2 _ _ _ st'.box; have q0 : w'.cell? ⟨w.heap.size, 0, none⟩ = some (.int .i64 5) := cell_of_row _ _ 0 _ _ _ st'.res; have q1 : w'.cell? ⟨w.heap.size, 1, none⟩ = some (.string ⟨t.toArray⟩) := cell_of_row _ _ 1 _ _ _ st'.res; have q2 : w'.cell? ⟨w.heap.size, 2, none⟩ = some (.int .i64 i) := cell_of_row _ _ 2 _ _ _ st'.res; have f0 := Lib.frozen_of_heap st'.res 0; have f1 := Lib.frozen_of_heap st'.res 1; have f2 := Lib.frozen_of_heap st'.res 2; clear hb) | (go_at_call 127; refine (rnamed_any _ r1 r2 _).mono ?_; rintro e w' ⟨rfl, hw⟩; rw [hw, HP.out]; clear hw))
              all_goals (
                go_wp2_with fail
                first | (have stf := st'.put (Nat.le_refl _) (by omega) (.int .i64 5) (.string ⟨t.toArray⟩) (.int .i64 i); refine bodyPost_ret (v := .tuple #[.agg #[.int .i64 5, .string ⟨t.toArray⟩, .int .i64 i], .int .i64 ((p : Int) + 1 + 1), .bool false]) (by simp [results, Tryz.results151, go_sem, q0, q1, q2]) rfl ?_; rw [HT.out]; exact (show RQ (good (some ⟨5, t, n + 2, !partI (atI s ((p + 1 + 1 : Nat) : Int))⟩)) i w _ _ from RQ.got rfl rfl rfl (by have := HM.out; first | rfl | (push_cast; omega) | omega) (by simp only []; rw [HK.out, HG.out, HP.out]; rfl) (below_to stf.below rfl))) | (have stf := st'; refine bodyPost_ret (v := .tuple #[.agg #[.int .i64 5, .string ⟨t.toArray⟩, .int .i64 i], .int .i64 ((p : Int) + 1 + 1), .bool false]) (by simp [results, Tryz.results151, go_sem, q0, q1, q2]) rfl ?_; rw [HT.out]; exact (show RQ (good (some ⟨5, t, n + 2, !partI (atI s ((p + 1 + 1 : Nat) : Int))⟩)) i w _ _ from RQ.got rfl rfl rfl (by have := HM.out; first | rfl | (push_cast; omega) | omega) (by simp only []; rw [HK.out, HG.out, HP.out]; rfl) (below_to stf.below rfl))))
          · have HP := Lib.hid (part_end s (p + 1 + 1) hge)
            have y1 : decide ((s.size : Int) ≤ ((p : Int) + 1 + 1)) = true := decide_eq_true (by omega)
            have t0 : w3.cell? ⟨w.heap.size + 1, 0, none⟩ = some (.int .i64 5) := cell_of_row _ _ 0 _ _ _ st.box
            have t1 : w3.cell? ⟨w.heap.size + 1, 1, none⟩ = some (.string ⟨t.toArray⟩) := cell_of_row _ _ 1 _ _ _ st.box
            have t2 : w3.cell? ⟨w.heap.size + 1, 2, none⟩ = some (.int .i64 i) := cell_of_row _ _ 2 _ _ _ st.box
            have q0 : w3.cell? ⟨w.heap.size, 0, none⟩ = some (.int .i64 0) := cell_of_row _ _ 0 _ _ _ st.res
            have q1 : w3.cell? ⟨w.heap.size, 1, none⟩ = some (.string ⟨#[]⟩) := cell_of_row _ _ 1 _ _ _ st.res
            have q2 : w3.cell? ⟨w.heap.size, 2, none⟩ = some (.int .i64 0) := cell_of_row _ _ 2 _ _ _ st.res
            have f0 := Lib.frozen_of_heap st.res 0
            have f1 := Lib.frozen_of_heap st.res 1
            have f2 := Lib.frozen_of_heap st.res 2
            refine wp_region_held_drew (S := (fun w' => w'.cell? ⟨w.heap.size + 1, 0, none⟩ = some (.int .i64 5) ∧ w'.cell? ⟨w.heap.size + 1, 1, none⟩ = some (.string ⟨t.toArray⟩) ∧ w'.cell? ⟨w.heap.size + 1, 2, none⟩ = some (.int .i64 i))) (by kernel_rfl) ⟨t0, t1, t2⟩ (fun hHeld => ?_)
            refine wpAnyH_take (i := 0) (oi := _) (v := ?_) rfl (by kernel_rfl) (by kernel_rfl) (by kernel_rfl) (fun _ _ _ h => h) (Or.inl ⟨by rfl, ?_⟩) (by assumption) ?_
            rotate_left
            · intro w hSw; (try dsimp only at hSw); go_simp; (try with_reducible rfl)
            try simp only [Act.put, List.getElem_toArray, List.getElem_cons_zero, List.setIfInBounds_toArray, List.set_cons_zero, List.set_cons_succ]
            refine wpAnyH_take (i := 1) (oi := _) (v := ?_) rfl (by kernel_rfl) (by kernel_rfl) (by kernel_rfl) (fun _ _ _ h => h) (Or.inl ⟨by rfl, ?_⟩) (by assumption) ?_
            rotate_left
            · intro w hSw; (try dsimp only at hSw); go_simp; (try with_reducible rfl)
            try simp only [Act.put, List.getElem_toArray, List.getElem_cons_succ, List.getElem_cons_zero, List.setIfInBounds_toArray, List.set_cons_zero, List.set_cons_succ]
            refine wpAnyH_take (i := 2) (oi := _) (v := ?_) rfl (by kernel_rfl) (by kernel_rfl) (by kernel_rfl) (fun _ _ _ h => h) (Or.inl ⟨by rfl, ?_⟩) (by assumption) ?_
            rotate_left
            · intro w hSw; (try dsimp only at hSw); go_simp; (try with_reducible rfl)
            try simp only [Act.put, List.getElem_toArray, List.getElem_cons_succ, List.getElem_cons_zero, List.setIfInBounds_toArray, List.set_cons_zero, List.set_cons_succ]
            refine wpAnyH_ready (rs := [3]) (by kernel_rfl) (by simp) ?_
            refine AllReadyH.cons (o := _) rfl (fun K hK => ?_) AllReadyH.nil
            · go_simp
              refine (HCK.out _).mono ?_
              rintro e w' ⟨rfl, hb⟩
              have st' := st.call rfl hb
              have t0 : w'.cell? ⟨w.heap.size + 1, 0, none⟩ = some (.int .i64 5) := cell_of_row _ _ 0 _ _ _ st'.box
              have t1 : w'.cell? ⟨w.heap.size + 1, 1, none⟩ = some (.string ⟨t.toArray⟩) := cell_of_row _ _ 1 _ _ _ st'.box
              have t2 : w'.cell? ⟨w.heap.size + 1, 2, none⟩ = some (.int .i64 i) := cell_of_row _ _ 2 _ _ _ st'.box
              have q0 : w'.cell? ⟨w.heap.size, 0, none⟩ = some (.int .i64 0) := cell_of_row _ _ 0 _ _ _ st'.res
              have q1 : w'.cell? ⟨w.heap.size, 1, none⟩ = some (.string ⟨#[]⟩) := cell_of_row _ _ 1 _ _ _ st'.res
              have q2 : w'.cell? ⟨w.heap.size, 2, none⟩ = some (.int .i64 0) := cell_of_row _ _ 2 _ _ _ st'.res
              have f0 := Lib.frozen_of_heap st'.res 0
              have f1 := Lib.frozen_of_heap st'.res 1
              have f2 := Lib.frozen_of_heap st'.res 2
              clear hb
              go_wp2_with fail
              refine hK.out _ _ ⟨t0, t1, t2⟩ (fun hHeld => ?_)
              clear hK K
              try simp only [Act.put, List.getElem_toArray, List.getElem_cons_succ, List.getElem_cons_zero, List.setIfInBounds_toArray, List.set_cons_zero, List.set_cons_succ]
              refine wpAnyH_take (i := 4) (oi := _) (v := ?_) rfl (by kernel_rfl) (by kernel_rfl) (by kernel_rfl) (fun _ _ _ h => h) (Or.inl ⟨by rfl, ?_⟩) (by assumption) ?_
              rotate_left
              · intro w hSw; (try dsimp only at hSw); go_simp; (try with_reducible rfl)
              try simp only [Act.put, List.getElem_toArray, List.getElem_cons_succ, List.getElem_cons_zero, List.setIfInBounds_toArray, List.set_cons_zero, List.set_cons_succ]
              refine wpAnyH_take (i := 5) (oi := _) (v := ?_) rfl (by kernel_rfl) (by kernel_rfl) (by kernel_rfl) (fun _ _ _ h => h) (Or.inl ⟨by rfl, ?_⟩) (by assumption) ?_
              rotate_left
              · intro w hSw; (try dsimp only at hSw); go_simp; (try with_reducible rfl)
              try simp only [Act.put, List.getElem_toArray, List.getElem_cons_succ, List.getElem_cons_zero, List.setIfInBounds_toArray, List.set_cons_zero, List.set_cons_succ]
              refine wpAnyH_take (i := 6) (oi := _) (v := ?_) rfl (by kernel_rfl) (by kernel_rfl) (by kernel_rfl) (fun _ _ _ h => h) (Or.inl ⟨by rfl, ?_⟩) (by assumption) ?_
              rotate_left
              · intro w hSw; (try dsimp only at hSw); go_simp; (try with_reducible rfl)
              try simp only [Act.put, List.getElem_toArray, List.getElem_cons_succ, List.getElem_cons_zero, List.setIfInBounds_toArray, List.set_cons_zero, List.set_cons_succ]
              refine wpAnyH_take (i := 7) (oi := _) (v := ?_) rfl (by kernel_rfl) (by kernel_rfl) (by kernel_rfl) (fun _ _ _ h => h) (Or.inl ⟨by rfl, ?_⟩) (by assumption) ?_
              rotate_left
              · intro w hSw; (try dsimp only at hSw); go_simp; (try with_reducible rfl)
              try simp only [Act.put, List.getElem_toArray, List.getElem_cons_succ, List.getElem_cons_zero, List.setIfInBounds_toArray, List.set_cons_zero, List.set_cons_succ]
              refine wpAnyH_take (i := 8) (oi := _) (v := ?_) rfl (by kernel_rfl) (by kernel_rfl) (by kernel_rfl) (fun _ _ _ h => h) (Or.inl ⟨by rfl, ?_⟩) (by assumption) ?_
              rotate_left
              · intro w hSw; (try dsimp only at hSw); go_simp; (try with_reducible rfl)
              try simp only [Act.put, List.getElem_toArray, List.getElem_cons_succ, List.getElem_cons_zero, List.setIfInBounds_toArray, List.set_cons_zero, List.set_cons_succ]
              refine wpAnyH_take (i := 9) (oi := _) (v := ?_) rfl (by kernel_rfl) (by kernel_rfl) (by kernel_rfl) (fun _ _ _ h => h) (Or.inl ⟨by rfl, ?_⟩) (by assumption) ?_
              rotate_left
              · intro w hSw; (try dsimp only at hSw); go_simp; (try with_reducible rfl)
              try simp only [Act.put, List.getElem_toArray, List.getElem_cons_succ, List.getElem_cons_zero, List.setIfInBounds_toArray, List.set_cons_zero, List.set_cons_succ]
              refine wpAnyH_take (i := 10) (oi := _) (v := ?_) rfl (by kernel_rfl) (by kernel_rfl) (by kernel_rfl) (fun _ _ _ h => h) (Or.inl ⟨by rfl, ?_⟩) (by assumption) ?_
              rotate_left
              · intro w hSw; (try dsimp only at hSw); go_simp; (try with_reducible rfl)
              try simp only [Act.put, List.getElem_toArray, List.getElem_cons_succ, List.getElem_cons_zero, List.setIfInBounds_toArray, List.set_cons_zero, List.set_cons_succ]
              refine wpAnyH_take (i := 11) (oi := _) (v := undef) rfl (by kernel_rfl) (by kernel_rfl) (by kernel_rfl) (fun _ _ _ h => h) (Or.inr ⟨by rfl, rfl⟩) (by assumption) ?_
              try simp only [Act.put, List.getElem_toArray, List.getElem_cons_succ, List.getElem_cons_zero, List.setIfInBounds_toArray, List.set_cons_zero, List.set_cons_succ]
              refine wpAnyH_take (i := 12) (oi := _) (v := undef) rfl (by kernel_rfl) (by kernel_rfl) (by kernel_rfl) (fun _ _ _ h => h) (Or.inr ⟨by rfl, rfl⟩) (by assumption) ?_
              try simp only [Act.put, List.getElem_toArray, List.getElem_cons_succ, List.getElem_cons_zero, List.setIfInBounds_toArray, List.set_cons_zero, List.set_cons_succ]
              refine wpAnyH_take (i := 13) (oi := _) (v := undef) rfl (by kernel_rfl) (by kernel_rfl) (by kernel_rfl) (fun _ _ _ h => h) (Or.inr ⟨by rfl, rfl⟩) (by assumption) ?_
              try simp only [Act.put, List.getElem_toArray, List.getElem_cons_succ, List.getElem_cons_zero, List.setIfInBounds_toArray, List.set_cons_zero, List.set_cons_succ]
              refine wpAnyH_take (i := 14) (oi := _) (v := undef) rfl (by kernel_rfl) (by kernel_rfl) (by kernel_rfl) (fun _ _ _ h => h) (Or.inr ⟨by rfl, rfl⟩) (by assumption) ?_
              try simp only [Act.put, List.getElem_toArray, List.getElem_cons_succ, List.getElem_cons_zero, List.setIfInBounds_toArray, List.set_cons_zero, List.set_cons_succ]
              refine wpAnyH_take (i := 15) (oi := _) (v := undef) rfl (by kernel_rfl) (by kernel_rfl) (by kernel_rfl) (fun _ _ _ h => h) (Or.inr ⟨by rfl, rfl⟩) (by assumption) ?_
              try simp only [Act.put, List.getElem_toArray, List.getElem_cons_succ, List.getElem_cons_zero, List.setIfInBounds_toArray, List.set_cons_zero, List.set_cons_succ]
              refine wpAnyH_take (i := 16) (oi := _) (v := ?_) rfl (by kernel_rfl) (by kernel_rfl) (by kernel_rfl) (fun _ _ _ h => h) (Or.inl ⟨by rfl, ?_⟩) (by assumption) ?_
              rotate_left
              · intro w hSw; (try dsimp only at hSw); go_simp; (try with_reducible rfl)
              try simp only [Act.put, List.getElem_toArray, List.getElem_cons_succ, List.getElem_cons_zero, List.setIfInBounds_toArray, List.set_cons_zero, List.set_cons_succ]
              refine wpAnyH_take (i := 17) (oi := _) (v := ?_) rfl (by kernel_rfl) (by kernel_rfl) (by kernel_rfl) (fun _ _ _ h => h) (Or.inl ⟨by rfl, ?_⟩) (by assumption) ?_
              rotate_left
              · intro w hSw; (try dsimp only at hSw); go_simp; (try with_reducible rfl)
              try simp only [Act.put, List.getElem_toArray, List.getElem_cons_succ, List.getElem_cons_zero, List.setIfInBounds_toArray, List.set_cons_zero, List.set_cons_succ]
              refine wpAnyH_ready (rs := [18]) (by kernel_rfl) (by simp) ?_
              refine AllReadyH.cons (o := _) rfl (fun K hK => ?_) AllReadyH.nil
              go_simp
              refine hK.out _ _ ⟨(far3 (by omega) _ _ _ _ _).trans t0, (far3 (by omega) _ _ _ _ _).trans t1, (far3 (by omega) _ _ _ _ _).trans t2⟩ (fun hHeld => ?_)
              clear hK K
              try simp only [Act.put, List.getElem_toArray, List.getElem_cons_succ, List.getElem_cons_zero, List.setIfInBounds_toArray, List.set_cons_zero, List.set_cons_succ]
              refine wpAnyH_take (i := 19) (oi := _) (v := ?_) rfl (by kernel_rfl) (by kernel_rfl) (by kernel_rfl) (fun _ _ _ h => h) (Or.inl ⟨by rfl, ?_⟩) (by assumption) ?_
              rotate_left
              · intro w hSw; (try dsimp only at hSw); go_simp; (try with_reducible rfl)
              try simp only [Act.put, List.getElem_toArray, List.getElem_cons_succ, List.getElem_cons_zero, List.setIfInBounds_toArray, List.set_cons_zero, List.set_cons_succ]
              refine wpAnyH_take (i := 20) (oi := _) (v := ?_) rfl (by kernel_rfl) (by kernel_rfl) (by kernel_rfl) (fun _ _ _ h => h) (Or.inl ⟨by rfl, ?_⟩) (by assumption) ?_
              rotate_left
              · intro w hSw; (try dsimp only at hSw); go_simp; (try with_reducible rfl)
              try simp only [Act.put, List.getElem_toArray, List.getElem_cons_succ, List.getElem_cons_zero, List.setIfInBounds_toArray, List.set_cons_zero, List.set_cons_succ]
              refine wpAnyH_done (by kernel_rfl) ?_ _
              go_wp2_with fail
              have stf := st'.put (Nat.le_refl _) (by omega) (.int .i64 5) (.string ⟨t.toArray⟩) (.int .i64 i)
              refine bodyPost_ret (v := .tuple #[.agg #[.int .i64 5, .string ⟨t.toArray⟩, .int .i64 i], .int .i64 ((p : Int) + 1 + 1), .bool true]) (by simp [results, Tryz.results151, go_sem, q0, q1, q2]) rfl ?_
              rw [HT.out]; exact (show RQ (good (some ⟨5, t, n + 2, !partI (atI s ((p + 1 + 1 : Nat) : Int))⟩)) i w _ _ from RQ.got rfl rfl rfl (by have := HM.out; first | rfl | (push_cast; omega) | omega) (by simp only []; rw [HK.out, HP.out]; rfl) (below_to stf.below rfl))
end Go.Proofs.YtafofcenphopbaaGreatDoor
namespace Go.Proofs.YtafofcenphopbaaGreatDoor
open Go.RowKit Lx

def pointB (s : ByteArray) (q : Nat) : Bool := decide (hd (s.data.toList.drop q) = 46) && digI (hd (s.data.toList.drop (q + 1)))
theorem digLen_end (s : ByteArray) (i : Nat) (hi : i ≤ s.size) : i + digLen (s.data.toList.drop i) ≤ s.size := by
  have h := digLen_le (s.data.toList.drop i)
  rw [List.length_drop, show s.data.toList.length = s.size from rfl] at h
  omega
theorem rNum_at (s : ByteArray) (i p : Nat) (hp : p = i + numK (s.data.toList.drop i)) (b : Bool) (hb : isB (atI s (p : Int)) = b) :
    rNum (s.data.toList.drop i) = if b = true then ⟨3, (s.data.toList.drop i).take (p - i), p - i + 1, !partI (atI s ((p + 1 : Nat) : Int))⟩ else ⟨2, (s.data.toList.drop i).take (p - i), p - i, !partI (atI s (p : Int))⟩ := by
  have e1 : hd ((s.data.toList.drop i).drop (numK (s.data.toList.drop i))) = atI s (p : Int) := by rw [List.drop_drop, hp, ← atI_nat]
  have e2 : hd ((s.data.toList.drop i).drop (numK (s.data.toList.drop i) + 1)) = atI s ((p + 1 : Nat) : Int) := by rw [List.drop_drop, hp, ← atI_nat]; rfl
  have e3 : p - i = numK (s.data.toList.drop i) := by omega
  unfold rNum
  rw [e1, e2, hb, e3]
theorem num_places (s : ByteArray) (i q : Nat) (hq : q = i + digLen (s.data.toList.drop i)) :
    (pointB s q = true → i + numK (s.data.toList.drop i) = q + 1 + digLen (s.data.toList.drop (q + 1))) ∧ (pointB s q = false → i + numK (s.data.toList.drop i) = q) := by
  have e1 : (s.data.toList.drop i).drop (digLen (s.data.toList.drop i)) = s.data.toList.drop q := by rw [List.drop_drop, hq]
  have e2 : (s.data.toList.drop i).drop (digLen (s.data.toList.drop i) + 1) = s.data.toList.drop (q + 1) := by rw [List.drop_drop, hq]; rfl
  unfold pointB
  refine ⟨fun h => ?_, fun h => ?_⟩
  · rw [Bool.and_eq_true, decide_eq_true_iff] at h
    rw [num_point _ (by rw [e1, e2]; exact h), e2]; omega
  · rw [num_plain _ (by rw [e1, e2]; rintro ⟨a, b⟩; rw [a, b] at h; simp at h)]; omega
theorem point_cases (s : ByteArray) (q : Nat) (hq : q ≤ s.size) : (pointB s q = false ∧ ¬ (q : Int) + 1 < (s.size : Int)) ∨ (∃ h : q < s.size, (q : Int) + 1 < (s.size : Int) ∧ pointB s q = false ∧ (((s[q]'h).toNat : Int) == 46) = false) ∨
    (∃ (h : q < s.size) (h2 : q + 1 < s.size), (q : Int) + 1 < (s.size : Int) ∧ (((s[q]'h).toNat : Int) == 46) = true ∧ digI ((s[q + 1]'h2).toNat : Int) = pointB s q) := by
  unfold pointB
  rcases Nat.lt_or_ge (q + 1) s.size with h | h
  · right
    have hq' : q < s.size := by omega
    rw [hd_at s q hq', hd_at s (q + 1) h]
    by_cases e : ((s[q]'hq').toNat : Int) = 46
    · right; exact ⟨hq', h, by omega, by rw [e]; rfl, by rw [e]; simp⟩
    · left; exact ⟨hq', by omega, by simp [e], by simpa using e⟩
  · left
    refine ⟨?_, by omega⟩
    rw [drop_end s (q + 1) h]
    simp [hd, digI]
set_option maxHeartbeats 4000000 in
set_option maxRecDepth 100000 in
theorem rnumber_any (s : ByteArray) (i : Nat) (hi : i < s.size) (hs : s.size ≤ 1000000) (w : World) : Calls Tryz.prog 150 #[.string s, .int .i64 i] w (RQ (good (some (numTok (s.data.toList.drop i)))) i w) := by
  rw [← rNum_good]
  obtain ⟨q, hq⟩ : ∃ q, q = i + digLen (s.data.toList.drop i) := ⟨_, rfl⟩
  have hqs := digLen_end s i (Nat.le_of_lt hi)
  rw [← hq] at hqs
  obtain ⟨p, hp⟩ : ∃ p, p = i + numK (s.data.toList.drop i) := ⟨_, rfl⟩
  have hpl := num_places s i q hq
  rw [← hp] at hpl
  have hW1 : ∀ W, Calls Tryz.prog 149 #[.string s, .int .i64 i, .bool false] W fun e w' => e = .returned (.int .i64 q) ∧ w' = W := fun W => by
    have := while_digits s i (Nat.le_of_lt hi) hs W
    rwa [← hq] at this
  have hW2 : pointB s q = true → q + 1 ≤ s.size → ∀ W, Calls Tryz.prog 149 #[.string s, .int .i64 ((q : Int) + 1), .bool false] W fun e w' => e = .returned (.int .i64 p) ∧ w' = W := fun hb hq1 W => by
    have := while_digits s (q + 1) hq1 hs W
    rw [← hpl.1 hb] at this
    exact this
  have hps : p ≤ s.size := by
    cases hb : pointB s q with
    | true =>
      rw [hpl.1 hb]
      rcases point_cases s q hqs with ⟨h, _⟩ | ⟨_, _, h, _⟩ | ⟨_, h2, _⟩
      · rw [hb] at h; cases h
      · rw [hb] at h; cases h
      · exact digLen_end s (q + 1) (by omega)
    | false => rw [hpl.2 hb]; exact hqs
  have hip : i ≤ p := by omega
  have hpc := Lib.hid (point_cases s q hqs)
  have HW1 := Lib.hid hW1
  have HW2 := Lib.hid hW2
  have HPL := Lib.hid hpl
  have HP := Lib.hid hp
  clear hW1 hW2 hpl hq hp
  go_enter Tryz.func150, Tryz.ntmps150
  go_upto_region 2 with (go_at_call 149; refine (HW1.out _).mono ?_; rintro e w' ⟨rfl, hw⟩; rw [hw]; clear hw)
  generalize hwe : w.alloc (.cells #[.int .i64 0, .string ⟨#[]⟩, .int .i64 0] 24) = w1
  have HWE := Lib.hid hwe
  clear hwe
  go_cut [29] (fun c wx => w1 = wx ∧ c = .bool (pointB s q))
  case first =>
    rcases hpc.out with ⟨c1, c2⟩ | ⟨c1, c2, c3, c4⟩ | ⟨c1, c2, c3, c4, c5⟩
    · have HC := Lib.hid c1
      clear c1
      go_wp2_with fail
      go_meet
      case rel => exact ⟨rfl, by rw [HC.out]⟩
    · have HC := Lib.hid c3
      clear c3
      go_wp2_with fail
      go_meet
      case rel => exact ⟨rfl, by rw [HC.out]⟩
    · obtain ⟨r1, r2⟩ := byte_range s (q + 1) c2
      have HC := Lib.hid c5
      clear c5
      go_wp2_with (go_at_call 88; refine (rdigit_any _ r1 r2 _).mono ?_; rintro e w' ⟨rfl, hw⟩; rw [hw]; clear hw)
      go_meet
      case rel => exact ⟨rfl, by rw [HC.out]⟩
  case rest =>
    obtain ⟨rfl, rfl⟩ := hcut
    go_upto_if 29 with fail
    go_cut [7] (fun c wx => w1 = wx ∧ c = .int .i64 p)
    case first =>
      cases hb : pointB s q with
      | true =>
        have hq1 : q + 1 ≤ s.size := by
          rcases hpc.out with ⟨h, _⟩ | ⟨_, _, h, _⟩ | ⟨_, h2, _⟩
          · rw [hb] at h; cases h
          · rw [hb] at h; cases h
          · omega
        have HW3 := Lib.hid (HW2.out hb hq1)
        clear hb
        go_wp2_with (go_at_call 149; refine (HW3.out _).mono ?_; rintro e w' ⟨rfl, hw⟩; rw [hw]; clear hw)
        go_meet
        case rel => exact ⟨rfl, rfl⟩
      | false =>
        have hpq := HPL.out.2 hb
        have HPQ := Lib.hid hpq
        clear hb hpq
        go_wp2_with fail
        go_meet
        case rel => exact ⟨rfl, by rw [HPQ.out]⟩
    case rest =>
    obtain ⟨rfl, rfl⟩ := hcut
    have u1 : (i : Int) ≤ (p : Int) := by omega
    have u2 : (p : Int) ≤ (s.size : Int) := by omega
    have u3 : (0 : Int) ≤ (i : Int) := by omega
    obtain ⟨t, ht⟩ : ∃ t : Bs, t = (s.data.toList.drop i).take (p - i) := ⟨_, rfl⟩
    have het : s.extract i p = ⟨t.toArray⟩ := by rw [extract_take s i p hip hps, ht]
    have hsz : (⟨t.toArray⟩ : ByteArray).size ≤ 1000000 := by rw [← het, ByteArray.size_extract]; omega
    have hgo : ∀ b, isB (atI s (p : Int)) = b → rNum (s.data.toList.drop i) = if b = true then ⟨3, t, p - i + 1, !partI (atI s ((p + 1 : Nat) : Int))⟩ else ⟨2, t, p - i, !partI (atI s (p : Int))⟩ := by
      rw [ht]; exact fun b hb => rNum_at s i p HP.out b hb
    have HGO := Lib.hid hgo
    have HET := Lib.hid het
    clear ht het hgo
    go_upto_region 5 with fail
    obtain ⟨n0, n1, hb⟩ := two_box w (.cells #[.int .i64 0, .string ⟨#[]⟩, .int .i64 0] 24) (.cells #[.int .i64 2, .string (s.extract i p), .int .i64 i] 24)
    rw [HWE.out] at n0 n1 hb
    generalize w1.alloc (.cells #[.int .i64 2, .string (s.extract i p), .int .i64 i] 24) = w2 at n0 n1 hb ⊢
    rw [HET.out] at n1
    have hz1 : w1.heap.size = w.heap.size + 1 := by rw [← HWE.out]; simp
    rw [hz1]
    have st : Stored w w.heap.size (w.heap.size + 1) (.cells #[.int .i64 0, .string ⟨#[]⟩, .int .i64 0] 24) (.cells #[.int .i64 2, .string ⟨t.toArray⟩, .int .i64 i] 24) w2 := ⟨n0, n1, hb⟩
    have hT0 : w2.cell? ⟨w.heap.size + 1, 0, none⟩ = some (.int .i64 2) := cell_of_row _ _ 0 _ _ _ n1
    have hF0 := Lib.frozen_of_heap n1 0
    clear n0 n1 hb hz1
    go_cut [55] (fun c wx => w2 = wx ∧ c = .bool (isB (atI s (p : Int))))
    case first =>
      rcases Nat.lt_or_ge p s.size with hlt | hge
      · have hg := atI_get s p hlt
        have y1 : (p : Int) < (s.size : Int) := by omega
        have HG := Lib.hid hg
        clear hg
        rcases isB_cases ((s[p]'hlt).toNat : Int) with ⟨h2, h3⟩ | ⟨h2, h3, h4⟩ | ⟨h2, h3, h4⟩
        all_goals
          go_wp2_with fail
          go_meet
          case rel => exact ⟨rfl, by rw [HG.out]; simp [*]⟩
      · have hb0 := isB_end s p hge
        have y1 : ¬ (p : Int) < (s.size : Int) := by omega
        have HB0 := Lib.hid hb0
        clear hb0
        go_wp2_with fail
        go_meet
        case rel => exact ⟨rfl, by rw [HB0.out]⟩
    case rest =>
      obtain ⟨rfl, rfl⟩ := hcut
      cases hc : isB (atI s (p : Int))
      · have HT : Hid (rNum (s.data.toList.drop i) = ⟨2, t, p - i, !partI (atI s (p : Int))⟩) := Lib.hid (HGO.out false hc)
        have HM : Hid (i + (p - i) = p) := Lib.hid (by omega)
        clear hc HGO
        go_upto_region 8 with fail
        clear hT0 hF0
        cases hck : checkI 2 ⟨t.toArray⟩
        · have HCK : Hid (∀ W, Calls Tryz.prog 38 #[.agg #[.int .i64 2, .string ⟨t.toArray⟩, .int .i64 i]] W fun e w' => e = .returned (.int .i64 50) ∧ Below W.heap.size W w') := Lib.hid (fun W => by have := rCheck_any 2 ⟨t.toArray⟩ i hsz W; rwa [hck] at this)
          have HK := Lib.hid hck
          clear hck
          have t0 : w2.cell? ⟨w.heap.size + 1, 0, none⟩ = some (.int .i64 2) := cell_of_row _ _ 0 _ _ _ st.box
          have t1 : w2.cell? ⟨w.heap.size + 1, 1, none⟩ = some (.string ⟨t.toArray⟩) := cell_of_row _ _ 1 _ _ _ st.box
          have t2 : w2.cell? ⟨w.heap.size + 1, 2, none⟩ = some (.int .i64 i) := cell_of_row _ _ 2 _ _ _ st.box
          have q0 : w2.cell? ⟨w.heap.size, 0, none⟩ = some (.int .i64 0) := cell_of_row _ _ 0 _ _ _ st.res
          have q1 : w2.cell? ⟨w.heap.size, 1, none⟩ = some (.string ⟨#[]⟩) := cell_of_row _ _ 1 _ _ _ st.res
          have q2 : w2.cell? ⟨w.heap.size, 2, none⟩ = some (.int .i64 0) := cell_of_row _ _ 2 _ _ _ st.res
          have f0 := Lib.frozen_of_heap st.res 0
          have f1 := Lib.frozen_of_heap st.res 1
          have f2 := Lib.frozen_of_heap st.res 2
          refine wp_region_held_drew (S := (fun w' => w'.cell? ⟨w.heap.size + 1, 0, none⟩ = some (.int .i64 2) ∧ w'.cell? ⟨w.heap.size + 1, 1, none⟩ = some (.string ⟨t.toArray⟩) ∧ w'.cell? ⟨w.heap.size + 1, 2, none⟩ = some (.int .i64 i))) (by kernel_rfl) ⟨t0, t1, t2⟩ (fun hHeld => ?_)
          refine wpAnyH_take (i := 0) (oi := _) (v := ?_) rfl (by kernel_rfl) (by kernel_rfl) (by kernel_rfl) (fun _ _ _ h => h) (Or.inl ⟨by rfl, ?_⟩) (by assumption) ?_
          rotate_left
          · intro w hSw; (try dsimp only at hSw); go_simp; (try with_reducible rfl)
          try simp only [Act.put, List.getElem_toArray, List.getElem_cons_zero, List.setIfInBounds_toArray, List.set_cons_zero, List.set_cons_succ]
          refine wpAnyH_take (i := 1) (oi := _) (v := ?_) rfl (by kernel_rfl) (by kernel_rfl) (by kernel_rfl) (fun _ _ _ h => h) (Or.inl ⟨by rfl, ?_⟩) (by assumption) ?_
          rotate_left
          · intro w hSw; (try dsimp only at hSw); go_simp; (try with_reducible rfl)
          try simp only [Act.put, List.getElem_toArray, List.getElem_cons_succ, List.getElem_cons_zero, List.setIfInBounds_toArray, List.set_cons_zero, List.set_cons_succ]
          refine wpAnyH_take (i := 2) (oi := _) (v := ?_) rfl (by kernel_rfl) (by kernel_rfl) (by kernel_rfl) (fun _ _ _ h => h) (Or.inl ⟨by rfl, ?_⟩) (by assumption) ?_
          rotate_left
          · intro w hSw; (try dsimp only at hSw); go_simp; (try with_reducible rfl)
          try simp only [Act.put, List.getElem_toArray, List.getElem_cons_succ, List.getElem_cons_zero, List.setIfInBounds_toArray, List.set_cons_zero, List.set_cons_succ]
          refine wpAnyH_ready (rs := [3]) (by kernel_rfl) (by simp) ?_
          refine AllReadyH.cons (o := _) rfl (fun K hK => ?_) AllReadyH.nil
          · go_simp
            refine (HCK.out _).mono ?_
            rintro e w' ⟨rfl, hb⟩
            have st' := st.call rfl hb
            have t0 : w'.cell? ⟨w.heap.size + 1, 0, none⟩ = some (.int .i64 2) := cell_of_row _ _ 0 _ _ _ st'.box
            have t1 : w'.cell? ⟨w.heap.size + 1, 1, none⟩ = some (.string ⟨t.toArray⟩) := cell_of_row _ _ 1 _ _ _ st'.box
            have t2 : w'.cell? ⟨w.heap.size + 1, 2, none⟩ = some (.int .i64 i) := cell_of_row _ _ 2 _ _ _ st'.box
            have q0 : w'.cell? ⟨w.heap.size, 0, none⟩ = some (.int .i64 0) := cell_of_row _ _ 0 _ _ _ st'.res
            have q1 : w'.cell? ⟨w.heap.size, 1, none⟩ = some (.string ⟨#[]⟩) := cell_of_row _ _ 1 _ _ _ st'.res
            have q2 : w'.cell? ⟨w.heap.size, 2, none⟩ = some (.int .i64 0) := cell_of_row _ _ 2 _ _ _ st'.res
            have f0 := Lib.frozen_of_heap st'.res 0
            have f1 := Lib.frozen_of_heap st'.res 1
            have f2 := Lib.frozen_of_heap st'.res 2
            clear hb
            go_wp2_with fail
            refine hK.out _ _ ⟨t0, t1, t2⟩ (fun hHeld => ?_)
            clear hK K
            try simp only [Act.put, List.getElem_toArray, List.getElem_cons_succ, List.getElem_cons_zero, List.setIfInBounds_toArray, List.set_cons_zero, List.set_cons_succ]
            refine wpAnyH_take (i := 4) (oi := _) (v := ?_) rfl (by kernel_rfl) (by kernel_rfl) (by kernel_rfl) (fun _ _ _ h => h) (Or.inl ⟨by rfl, ?_⟩) (by assumption) ?_
            rotate_left
            · intro w hSw; (try dsimp only at hSw); go_simp; (try with_reducible rfl)
            try simp only [Act.put, List.getElem_toArray, List.getElem_cons_succ, List.getElem_cons_zero, List.setIfInBounds_toArray, List.set_cons_zero, List.set_cons_succ]
            refine wpAnyH_take (i := 5) (oi := _) (v := ?_) rfl (by kernel_rfl) (by kernel_rfl) (by kernel_rfl) (fun _ _ _ h => h) (Or.inl ⟨by rfl, ?_⟩) (by assumption) ?_
            rotate_left
            · intro w hSw; (try dsimp only at hSw); go_simp; (try with_reducible rfl)
            try simp only [Act.put, List.getElem_toArray, List.getElem_cons_succ, List.getElem_cons_zero, List.setIfInBounds_toArray, List.set_cons_zero, List.set_cons_succ]
            refine wpAnyH_take (i := 6) (oi := _) (v := undef) rfl (by kernel_rfl) (by kernel_rfl) (by kernel_rfl) (fun _ _ _ h => h) (Or.inr ⟨by rfl, rfl⟩) (by assumption) ?_
            try simp only [Act.put, List.getElem_toArray, List.getElem_cons_succ, List.getElem_cons_zero, List.setIfInBounds_toArray, List.set_cons_zero, List.set_cons_succ]
            refine wpAnyH_take (i := 7) (oi := _) (v := undef) rfl (by kernel_rfl) (by kernel_rfl) (by kernel_rfl) (fun _ _ _ h => h) (Or.inr ⟨by rfl, rfl⟩) (by assumption) ?_
            try simp only [Act.put, List.getElem_toArray, List.getElem_cons_succ, List.getElem_cons_zero, List.setIfInBounds_toArray, List.set_cons_zero, List.set_cons_succ]
            refine wpAnyH_take (i := 8) (oi := _) (v := undef) rfl (by kernel_rfl) (by kernel_rfl) (by kernel_rfl) (fun _ _ _ h => h) (Or.inr ⟨by rfl, rfl⟩) (by assumption) ?_
            try simp only [Act.put, List.getElem_toArray, List.getElem_cons_succ, List.getElem_cons_zero, List.setIfInBounds_toArray, List.set_cons_zero, List.set_cons_succ]
            refine wpAnyH_take (i := 9) (oi := _) (v := undef) rfl (by kernel_rfl) (by kernel_rfl) (by kernel_rfl) (fun _ _ _ h => h) (Or.inr ⟨by rfl, rfl⟩) (by assumption) ?_
            try simp only [Act.put, List.getElem_toArray, List.getElem_cons_succ, List.getElem_cons_zero, List.setIfInBounds_toArray, List.set_cons_zero, List.set_cons_succ]
            refine wpAnyH_take (i := 10) (oi := _) (v := undef) rfl (by kernel_rfl) (by kernel_rfl) (by kernel_rfl) (fun _ _ _ h => h) (Or.inr ⟨by rfl, rfl⟩) (by assumption) ?_
            try simp only [Act.put, List.getElem_toArray, List.getElem_cons_succ, List.getElem_cons_zero, List.setIfInBounds_toArray, List.set_cons_zero, List.set_cons_succ]
            refine wpAnyH_take (i := 11) (oi := _) (v := undef) rfl (by kernel_rfl) (by kernel_rfl) (by kernel_rfl) (fun _ _ _ h => h) (Or.inr ⟨by rfl, rfl⟩) (by assumption) ?_
            try simp only [Act.put, List.getElem_toArray, List.getElem_cons_succ, List.getElem_cons_zero, List.setIfInBounds_toArray, List.set_cons_zero, List.set_cons_succ]
            refine wpAnyH_take (i := 12) (oi := _) (v := undef) rfl (by kernel_rfl) (by kernel_rfl) (by kernel_rfl) (fun _ _ _ h => h) (Or.inr ⟨by rfl, rfl⟩) (by assumption) ?_
            try simp only [Act.put, List.getElem_toArray, List.getElem_cons_succ, List.getElem_cons_zero, List.setIfInBounds_toArray, List.set_cons_zero, List.set_cons_succ]
            refine wpAnyH_take (i := 13) (oi := _) (v := undef) rfl (by kernel_rfl) (by kernel_rfl) (by kernel_rfl) (fun _ _ _ h => h) (Or.inr ⟨by rfl, rfl⟩) (by assumption) ?_
            try simp only [Act.put, List.getElem_toArray, List.getElem_cons_succ, List.getElem_cons_zero, List.setIfInBounds_toArray, List.set_cons_zero, List.set_cons_succ]
            refine wpAnyH_take (i := 14) (oi := _) (v := undef) rfl (by kernel_rfl) (by kernel_rfl) (by kernel_rfl) (fun _ _ _ h => h) (Or.inr ⟨by rfl, rfl⟩) (by assumption) ?_
            try simp only [Act.put, List.getElem_toArray, List.getElem_cons_succ, List.getElem_cons_zero, List.setIfInBounds_toArray, List.set_cons_zero, List.set_cons_succ]
            refine wpAnyH_take (i := 15) (oi := _) (v := undef) rfl (by kernel_rfl) (by kernel_rfl) (by kernel_rfl) (fun _ _ _ h => h) (Or.inr ⟨by rfl, rfl⟩) (by assumption) ?_
            try simp only [Act.put, List.getElem_toArray, List.getElem_cons_succ, List.getElem_cons_zero, List.setIfInBounds_toArray, List.set_cons_zero, List.set_cons_succ]
            refine wpAnyH_take (i := 16) (oi := _) (v := undef) rfl (by kernel_rfl) (by kernel_rfl) (by kernel_rfl) (fun _ _ _ h => h) (Or.inr ⟨by rfl, rfl⟩) (by assumption) ?_
            try simp only [Act.put, List.getElem_toArray, List.getElem_cons_succ, List.getElem_cons_zero, List.setIfInBounds_toArray, List.set_cons_zero, List.set_cons_succ]
            refine wpAnyH_take (i := 17) (oi := _) (v := ?_) rfl (by kernel_rfl) (by kernel_rfl) (by kernel_rfl) (fun _ _ _ h => h) (Or.inl ⟨by rfl, ?_⟩) (by assumption) ?_
            rotate_left
            · intro w hSw; (try dsimp only at hSw); go_simp; (try with_reducible rfl)
            try simp only [Act.put, List.getElem_toArray, List.getElem_cons_succ, List.getElem_cons_zero, List.setIfInBounds_toArray, List.set_cons_zero, List.set_cons_succ]
            refine wpAnyH_ready (rs := [18]) (by kernel_rfl) (by simp) ?_
            refine AllReadyH.cons (o := _) rfl (fun K hK => ?_) AllReadyH.nil
            go_simp
            refine hK.out _ _ ⟨(far3 (by omega) _ _ _ _ _).trans t0, (far3 (by omega) _ _ _ _ _).trans t1, (far3 (by omega) _ _ _ _ _).trans t2⟩ (fun hHeld => ?_)
            clear hK K
            try simp only [Act.put, List.getElem_toArray, List.getElem_cons_succ, List.getElem_cons_zero, List.setIfInBounds_toArray, List.set_cons_zero, List.set_cons_succ]
            refine wpAnyH_take (i := 19) (oi := _) (v := ?_) rfl (by kernel_rfl) (by kernel_rfl) (by kernel_rfl) (fun _ _ _ h => h) (Or.inl ⟨by rfl, ?_⟩) (by assumption) ?_
            rotate_left
            · intro w hSw; (try dsimp only at hSw); go_simp; (try with_reducible rfl)
            try simp only [Act.put, List.getElem_toArray, List.getElem_cons_succ, List.getElem_cons_zero, List.setIfInBounds_toArray, List.set_cons_zero, List.set_cons_succ]
            refine wpAnyH_take (i := 20) (oi := _) (v := ?_) rfl (by kernel_rfl) (by kernel_rfl) (by kernel_rfl) (fun _ _ _ h => h) (Or.inl ⟨by rfl, ?_⟩) (by assumption) ?_
            rotate_left
            · intro w hSw; (try dsimp only at hSw); go_simp; (try with_reducible rfl)
            try simp only [Act.put, List.getElem_toArray, List.getElem_cons_succ, List.getElem_cons_zero, List.setIfInBounds_toArray, List.set_cons_zero, List.set_cons_succ]
            refine wpAnyH_done (by kernel_rfl) ?_ _
            go_wp2_with fail
            have stf := st'.put (Nat.le_refl _) (by omega) (.int .i64 2) (.string ⟨t.toArray⟩) (.int .i64 i)
            refine bodyPost_ret (v := .tuple #[.agg #[.int .i64 2, .string ⟨t.toArray⟩, .int .i64 i], .int .i64 (p : Int), .bool false]) (by simp [results, Tryz.results150, go_sem, q0, q1, q2]) rfl ?_
            rw [HT.out]; exact (show RQ (good (some ⟨2, t, p - i, !partI (atI s (p : Int))⟩)) i w _ _ from RQ.got rfl rfl rfl (by have := HM.out; first | rfl | (push_cast; omega) | omega) (by rw [HK.out]; rfl) (below_to stf.below rfl))
        · have HCK : Hid (∀ W, Calls Tryz.prog 38 #[.agg #[.int .i64 2, .string ⟨t.toArray⟩, .int .i64 i]] W fun e w' => e = .returned (.int .i64 0) ∧ Below W.heap.size W w') := Lib.hid (fun W => by have := rCheck_any 2 ⟨t.toArray⟩ i hsz W; rwa [hck] at this)
          have HK := Lib.hid hck
          clear hck
          rcases Nat.lt_or_ge (p) s.size with hlt | hge
          · obtain ⟨r1, r2⟩ := byte_range s (p) hlt
            have HG := Lib.hid (atI_get s (p) hlt)
            have y1 : (p : Int) < (s.size : Int) := by omega
            have y2 : decide ((s.size : Int) ≤ (p : Int)) = false := decide_eq_false (by omega)
            have y3 : decide (s.size ≤ p) = false := decide_eq_false (by omega)
            cases hpt : partI ((s[p]'hlt).toNat : Int)
            · have HP := Lib.hid hpt
              clear hpt
              have t0 : w2.cell? ⟨w.heap.size + 1, 0, none⟩ = some (.int .i64 2) := cell_of_row _ _ 0 _ _ _ st.box
              have t1 : w2.cell? ⟨w.heap.size + 1, 1, none⟩ = some (.string ⟨t.toArray⟩) := cell_of_row _ _ 1 _ _ _ st.box
              have t2 : w2.cell? ⟨w.heap.size + 1, 2, none⟩ = some (.int .i64 i) := cell_of_row _ _ 2 _ _ _ st.box
              have q0 : w2.cell? ⟨w.heap.size, 0, none⟩ = some (.int .i64 0) := cell_of_row _ _ 0 _ _ _ st.res
              have q1 : w2.cell? ⟨w.heap.size, 1, none⟩ = some (.string ⟨#[]⟩) := cell_of_row _ _ 1 _ _ _ st.res
              have q2 : w2.cell? ⟨w.heap.size, 2, none⟩ = some (.int .i64 0) := cell_of_row _ _ 2 _ _ _ st.res
              have f0 := Lib.frozen_of_heap st.res 0
              have f1 := Lib.frozen_of_heap st.res 1
              have f2 := Lib.frozen_of_heap st.res 2
              go_region_held3 (fun w' => w'.cell? ⟨w.heap.size + 1, 0, none⟩ = some (.int .i64 2) ∧ w'.cell? ⟨w.heap.size + 1, 1, none⟩ = some (.string ⟨t.toArray⟩) ∧ w'.cell? ⟨w.heap.size + 1, 2, none⟩ = some (.int .i64 i)) (go_keep) (first | (go_at_call 38; refine (HCK.out _).mono ?_; rintro e w' ⟨rfl, hb⟩; have st' := st.call rfl hb; have t0 : w'.cell? ⟨w.heap.size + 1, 0, none⟩ = some (.int .i64 2) := cell_of_row _ _ 0 _ _ _ st'.box; have t1 : w'.cell? ⟨w.heap.size + 1, 1, none⟩ = some (.string ⟨t.toArray⟩) := cell_of_row _ _ 1 _ _ _ st'.box; have t2 : w'.cell? ⟨w.heap.size + 1, 2, none⟩ = some (.int .i64 i) := cell_of_row _ _ 2 _ _ _ st'.box; have q0 : w'.cell? ⟨w.heap.size, 0, none⟩ = some (.int .i64 0) := cell_of_row _ _ 0 _ _ _ st'.res; have q1 : w'.cell? ⟨w.heap.size, 1, none⟩ = some (.string ⟨#[]⟩) := cell_of_row _ _ 1 _ _ _ st'.res; have q2 : w'.cell? ⟨w.heap.size, 2, none⟩ = some (.int .i64 0) := cell_of_row _ _ 2 _ _ _ st'.res; have f0 := Lib.frozen_of_heap st'.res 0; have f1 := Lib.frozen_of_heap st'.res 1; have f2 := Lib.frozen_of_heap st'.res 2; clear hb) | (go_at_call 38; refine (HCK.out _).mono ?_; rintro e w' ⟨rfl, hb⟩; have st' := (st.put (Nat.le_refl _) (by omega) (.int .i64 2) (.string ⟨t.toArray⟩) (.int .i64 i)).call rfl hb; have t0 : w'.cell? ⟨w.heap.size + 1, 0, none⟩ = some (.int .i64 2) := cell_of_row _ _ 0 _ _ _ st'.box; have t1 : w'.cell? ⟨w.heap.size + 1, 1, none⟩ = some (.string ⟨t.toArray⟩) := cell_of_row _ _ 1 _ _ _ st'.box; have t2 : w'.cell? ⟨w.heap.size + 1, 2, none⟩ = some (.int .i64 i) := cell_of_row _ _ 2 _ _ _ st'.box; have q0 : w'.cell? ⟨w.heap.size, 0, none⟩ = some (.int .i64 2) := cell_of_row _ _ 0 _ _ _ st'.res; have q1 : w'.cell? ⟨w.heap.size, 1, none⟩ = some (.string ⟨t.toArray⟩) := cell_of_row _ _ 1 _ _ _ st'.res; have q2 : w'.cell? ⟨w.heap.size, 2, none⟩ = some (.int .i64 i) := cell_of_row _ _ 2 _ _ _ st'.res; have f0 := Lib.frozen_of_heap st'.res 0; have f1 := Lib.frozen_of_heap st'.res 1; have f2 := Lib.frozen_of_heap st'.res 2; clear hb) | (go_at_call 127; refine (rnamed_any _ r1 r2 _).mono ?_; rintro e w' ⟨rfl, hw⟩; rw [hw, HP.out]; clear hw))
              all_goals (
                go_wp2_with fail
                first | (have stf := st'.put (Nat.le_refl _) (by omega) (.int .i64 2) (.string ⟨t.toArray⟩) (.int .i64 i); refine bodyPost_ret (v := .tuple #[.agg #[.int .i64 2, .string ⟨t.toArray⟩, .int .i64 i], .int .i64 (p : Int), .bool true]) (by simp [results, Tryz.results150, go_sem, q0, q1, q2]) rfl ?_; rw [HT.out]; exact (show RQ (good (some ⟨2, t, p - i, !partI (atI s (p : Int))⟩)) i w _ _ from RQ.got rfl rfl rfl (by have := HM.out; first | rfl | (push_cast; omega) | omega) (by simp only []; rw [HK.out, HG.out, HP.out]; rfl) (below_to stf.below rfl))) | (have stf := st'; refine bodyPost_ret (v := .tuple #[.agg #[.int .i64 2, .string ⟨t.toArray⟩, .int .i64 i], .int .i64 (p : Int), .bool true]) (by simp [results, Tryz.results150, go_sem, q0, q1, q2]) rfl ?_; rw [HT.out]; exact (show RQ (good (some ⟨2, t, p - i, !partI (atI s (p : Int))⟩)) i w _ _ from RQ.got rfl rfl rfl (by have := HM.out; first | rfl | (push_cast; omega) | omega) (by simp only []; rw [HK.out, HG.out, HP.out]; rfl) (below_to stf.below rfl))))
            · have HP := Lib.hid hpt
              clear hpt
              have t0 : w2.cell? ⟨w.heap.size + 1, 0, none⟩ = some (.int .i64 2) := cell_of_row _ _ 0 _ _ _ st.box
              have t1 : w2.cell? ⟨w.heap.size + 1, 1, none⟩ = some (.string ⟨t.toArray⟩) := cell_of_row _ _ 1 _ _ _ st.box
              have t2 : w2.cell? ⟨w.heap.size + 1, 2, none⟩ = some (.int .i64 i) := cell_of_row _ _ 2 _ _ _ st.box
              have q0 : w2.cell? ⟨w.heap.size, 0, none⟩ = some (.int .i64 0) := cell_of_row _ _ 0 _ _ _ st.res
              have q1 : w2.cell? ⟨w.heap.size, 1, none⟩ = some (.string ⟨#[]⟩) := cell_of_row _ _ 1 _ _ _ st.res
              have q2 : w2.cell? ⟨w.heap.size, 2, none⟩ = some (.int .i64 0) := cell_of_row _ _ 2 _ _ _ st.res
              have f0 := Lib.frozen_of_heap st.res 0
              have f1 := Lib.frozen_of_heap st.res 1
              have f2 := Lib.frozen_of_heap st.res 2
              go_region_held3 (fun w' => w'.cell? ⟨w.heap.size + 1, 0, none⟩ = some (.int .i64 2) ∧ w'.cell? ⟨w.heap.size + 1, 1, none⟩ = some (.string ⟨t.toArray⟩) ∧ w'.cell? ⟨w.heap.size + 1, 2, none⟩ = some (.int .i64 i)) (go_keep) (first | (go_at_call 38; refine (HCK.out _).mono ?_; rintro e w' ⟨rfl, hb⟩; have st' := st.call rfl hb; have t0 : w'.cell? ⟨w.heap.size + 1, 0, none⟩ = some (.int .i64 2) := cell_of_row _ _ 0 _ _ _ st'.box; have t1 : w'.cell? ⟨w.heap.size + 1, 1, none⟩ = some (.string ⟨t.toArray⟩) := cell_of_row _ _ 1 _ _ _ st'.box; have t2 : w'.cell? ⟨w.heap.size + 1, 2, none⟩ = some (.int .i64 i) := cell_of_row _ _ 2 _ _ _ st'.box; have q0 : w'.cell? ⟨w.heap.size, 0, none⟩ = some (.int .i64 0) := cell_of_row _ _ 0 _ _ _ st'.res; have q1 : w'.cell? ⟨w.heap.size, 1, none⟩ = some (.string ⟨#[]⟩) := cell_of_row _ _ 1 _ _ _ st'.res; have q2 : w'.cell? ⟨w.heap.size, 2, none⟩ = some (.int .i64 0) := cell_of_row _ _ 2 _ _ _ st'.res; have f0 := Lib.frozen_of_heap st'.res 0; have f1 := Lib.frozen_of_heap st'.res 1; have f2 := Lib.frozen_of_heap st'.res 2; clear hb) | (go_at_call 38; refine (HCK.out _).mono ?_; rintro e w' ⟨rfl, hb⟩; have st' := (st.put (Nat.le_refl _) (by omega) (.int .i64 2) (.string ⟨t.toArray⟩) (.int .i64 i)).call rfl hb; have t0 : w'.cell? ⟨w.heap.size + 1, 0, none⟩ = some (.int .i64 2) := cell_of_row _ _ 0 _ _ _ st'.box; have t1 : w'.cell? ⟨w.heap.size + 1, 1, none⟩ = some (.string ⟨t.toArray⟩) := cell_of_row _ _ 1 _ _ _ st'.box; have t2 : w'.cell? ⟨w.heap.size + 1, 2, none⟩ = some (.int .i64 i) := cell_of_row _ _ 2 _ _ _ st'.box; have q0 : w'.cell? ⟨w.heap.size, 0, none⟩ = some (.int .i64 2) := cell_of_row _ _ 0 _ _ _ st'.res; have q1 : w'.cell? ⟨w.heap.size, 1, none⟩ = some (.string ⟨t.toArray⟩) := cell_of_row _ _ 1 _ _ _ st'.res; have q2 : w'.cell? ⟨w.heap.size, 2, none⟩ = some (.int .i64 i) := cell_of_row _ _ 2 _ _ _ st'.res; have f0 := Lib.frozen_of_heap st'.res 0; have f1 := Lib.frozen_of_heap st'.res 1; have f2 := Lib.frozen_of_heap st'.res 2; clear hb) | (go_at_call 127; refine (rnamed_any _ r1 r2 _).mono ?_; rintro e w' ⟨rfl, hw⟩; rw [hw, HP.out]; clear hw))
              all_goals (
                go_wp2_with fail
                first | (have stf := st'.put (Nat.le_refl _) (by omega) (.int .i64 2) (.string ⟨t.toArray⟩) (.int .i64 i); refine bodyPost_ret (v := .tuple #[.agg #[.int .i64 2, .string ⟨t.toArray⟩, .int .i64 i], .int .i64 (p : Int), .bool false]) (by simp [results, Tryz.results150, go_sem, q0, q1, q2]) rfl ?_; rw [HT.out]; exact (show RQ (good (some ⟨2, t, p - i, !partI (atI s (p : Int))⟩)) i w _ _ from RQ.got rfl rfl rfl (by have := HM.out; first | rfl | (push_cast; omega) | omega) (by simp only []; rw [HK.out, HG.out, HP.out]; rfl) (below_to stf.below rfl))) | (have stf := st'; refine bodyPost_ret (v := .tuple #[.agg #[.int .i64 2, .string ⟨t.toArray⟩, .int .i64 i], .int .i64 (p : Int), .bool false]) (by simp [results, Tryz.results150, go_sem, q0, q1, q2]) rfl ?_; rw [HT.out]; exact (show RQ (good (some ⟨2, t, p - i, !partI (atI s (p : Int))⟩)) i w _ _ from RQ.got rfl rfl rfl (by have := HM.out; first | rfl | (push_cast; omega) | omega) (by simp only []; rw [HK.out, HG.out, HP.out]; rfl) (below_to stf.below rfl))))
          · have HP := Lib.hid (part_end s (p) hge)
            have y1 : decide ((s.size : Int) ≤ (p : Int)) = true := decide_eq_true (by omega)
            have y3 : decide (s.size ≤ p) = true := decide_eq_true (by omega)
            have t0 : w2.cell? ⟨w.heap.size + 1, 0, none⟩ = some (.int .i64 2) := cell_of_row _ _ 0 _ _ _ st.box
            have t1 : w2.cell? ⟨w.heap.size + 1, 1, none⟩ = some (.string ⟨t.toArray⟩) := cell_of_row _ _ 1 _ _ _ st.box
            have t2 : w2.cell? ⟨w.heap.size + 1, 2, none⟩ = some (.int .i64 i) := cell_of_row _ _ 2 _ _ _ st.box
            have q0 : w2.cell? ⟨w.heap.size, 0, none⟩ = some (.int .i64 0) := cell_of_row _ _ 0 _ _ _ st.res
            have q1 : w2.cell? ⟨w.heap.size, 1, none⟩ = some (.string ⟨#[]⟩) := cell_of_row _ _ 1 _ _ _ st.res
            have q2 : w2.cell? ⟨w.heap.size, 2, none⟩ = some (.int .i64 0) := cell_of_row _ _ 2 _ _ _ st.res
            have f0 := Lib.frozen_of_heap st.res 0
            have f1 := Lib.frozen_of_heap st.res 1
            have f2 := Lib.frozen_of_heap st.res 2
            refine wp_region_held_drew (S := (fun w' => w'.cell? ⟨w.heap.size + 1, 0, none⟩ = some (.int .i64 2) ∧ w'.cell? ⟨w.heap.size + 1, 1, none⟩ = some (.string ⟨t.toArray⟩) ∧ w'.cell? ⟨w.heap.size + 1, 2, none⟩ = some (.int .i64 i))) (by kernel_rfl) ⟨t0, t1, t2⟩ (fun hHeld => ?_)
            refine wpAnyH_take (i := 0) (oi := _) (v := ?_) rfl (by kernel_rfl) (by kernel_rfl) (by kernel_rfl) (fun _ _ _ h => h) (Or.inl ⟨by rfl, ?_⟩) (by assumption) ?_
            rotate_left
            · intro w hSw; (try dsimp only at hSw); go_simp; (try with_reducible rfl)
            try simp only [Act.put, List.getElem_toArray, List.getElem_cons_zero, List.setIfInBounds_toArray, List.set_cons_zero, List.set_cons_succ]
            refine wpAnyH_take (i := 1) (oi := _) (v := ?_) rfl (by kernel_rfl) (by kernel_rfl) (by kernel_rfl) (fun _ _ _ h => h) (Or.inl ⟨by rfl, ?_⟩) (by assumption) ?_
            rotate_left
            · intro w hSw; (try dsimp only at hSw); go_simp; (try with_reducible rfl)
            try simp only [Act.put, List.getElem_toArray, List.getElem_cons_succ, List.getElem_cons_zero, List.setIfInBounds_toArray, List.set_cons_zero, List.set_cons_succ]
            refine wpAnyH_take (i := 2) (oi := _) (v := ?_) rfl (by kernel_rfl) (by kernel_rfl) (by kernel_rfl) (fun _ _ _ h => h) (Or.inl ⟨by rfl, ?_⟩) (by assumption) ?_
            rotate_left
            · intro w hSw; (try dsimp only at hSw); go_simp; (try with_reducible rfl)
            try simp only [Act.put, List.getElem_toArray, List.getElem_cons_succ, List.getElem_cons_zero, List.setIfInBounds_toArray, List.set_cons_zero, List.set_cons_succ]
            refine wpAnyH_ready (rs := [3]) (by kernel_rfl) (by simp) ?_
            refine AllReadyH.cons (o := _) rfl (fun K hK => ?_) AllReadyH.nil
            · go_simp
              refine (HCK.out _).mono ?_
              rintro e w' ⟨rfl, hb⟩
              have st' := st.call rfl hb
              have t0 : w'.cell? ⟨w.heap.size + 1, 0, none⟩ = some (.int .i64 2) := cell_of_row _ _ 0 _ _ _ st'.box
              have t1 : w'.cell? ⟨w.heap.size + 1, 1, none⟩ = some (.string ⟨t.toArray⟩) := cell_of_row _ _ 1 _ _ _ st'.box
              have t2 : w'.cell? ⟨w.heap.size + 1, 2, none⟩ = some (.int .i64 i) := cell_of_row _ _ 2 _ _ _ st'.box
              have q0 : w'.cell? ⟨w.heap.size, 0, none⟩ = some (.int .i64 0) := cell_of_row _ _ 0 _ _ _ st'.res
              have q1 : w'.cell? ⟨w.heap.size, 1, none⟩ = some (.string ⟨#[]⟩) := cell_of_row _ _ 1 _ _ _ st'.res
              have q2 : w'.cell? ⟨w.heap.size, 2, none⟩ = some (.int .i64 0) := cell_of_row _ _ 2 _ _ _ st'.res
              have f0 := Lib.frozen_of_heap st'.res 0
              have f1 := Lib.frozen_of_heap st'.res 1
              have f2 := Lib.frozen_of_heap st'.res 2
              clear hb
              go_wp2_with fail
              refine hK.out _ _ ⟨t0, t1, t2⟩ (fun hHeld => ?_)
              clear hK K
              try simp only [Act.put, List.getElem_toArray, List.getElem_cons_succ, List.getElem_cons_zero, List.setIfInBounds_toArray, List.set_cons_zero, List.set_cons_succ]
              refine wpAnyH_take (i := 4) (oi := _) (v := ?_) rfl (by kernel_rfl) (by kernel_rfl) (by kernel_rfl) (fun _ _ _ h => h) (Or.inl ⟨by rfl, ?_⟩) (by assumption) ?_
              rotate_left
              · intro w hSw; (try dsimp only at hSw); go_simp; (try with_reducible rfl)
              try simp only [Act.put, List.getElem_toArray, List.getElem_cons_succ, List.getElem_cons_zero, List.setIfInBounds_toArray, List.set_cons_zero, List.set_cons_succ]
              refine wpAnyH_take (i := 5) (oi := _) (v := ?_) rfl (by kernel_rfl) (by kernel_rfl) (by kernel_rfl) (fun _ _ _ h => h) (Or.inl ⟨by rfl, ?_⟩) (by assumption) ?_
              rotate_left
              · intro w hSw; (try dsimp only at hSw); go_simp; (try with_reducible rfl)
              try simp only [Act.put, List.getElem_toArray, List.getElem_cons_succ, List.getElem_cons_zero, List.setIfInBounds_toArray, List.set_cons_zero, List.set_cons_succ]
              refine wpAnyH_take (i := 6) (oi := _) (v := ?_) rfl (by kernel_rfl) (by kernel_rfl) (by kernel_rfl) (fun _ _ _ h => h) (Or.inl ⟨by rfl, ?_⟩) (by assumption) ?_
              rotate_left
              · intro w hSw; (try dsimp only at hSw); go_simp; (try with_reducible rfl)
              try simp only [Act.put, List.getElem_toArray, List.getElem_cons_succ, List.getElem_cons_zero, List.setIfInBounds_toArray, List.set_cons_zero, List.set_cons_succ]
              refine wpAnyH_take (i := 7) (oi := _) (v := ?_) rfl (by kernel_rfl) (by kernel_rfl) (by kernel_rfl) (fun _ _ _ h => h) (Or.inl ⟨by rfl, ?_⟩) (by assumption) ?_
              rotate_left
              · intro w hSw; (try dsimp only at hSw); go_simp; (try with_reducible rfl)
              try simp only [Act.put, List.getElem_toArray, List.getElem_cons_succ, List.getElem_cons_zero, List.setIfInBounds_toArray, List.set_cons_zero, List.set_cons_succ]
              refine wpAnyH_take (i := 8) (oi := _) (v := ?_) rfl (by kernel_rfl) (by kernel_rfl) (by kernel_rfl) (fun _ _ _ h => h) (Or.inl ⟨by rfl, ?_⟩) (by assumption) ?_
              rotate_left
              · intro w hSw; (try dsimp only at hSw); go_simp; (try with_reducible rfl)
              try simp only [Act.put, List.getElem_toArray, List.getElem_cons_succ, List.getElem_cons_zero, List.setIfInBounds_toArray, List.set_cons_zero, List.set_cons_succ]
              refine wpAnyH_take (i := 9) (oi := _) (v := ?_) rfl (by kernel_rfl) (by kernel_rfl) (by kernel_rfl) (fun _ _ _ h => h) (Or.inl ⟨by rfl, ?_⟩) (by assumption) ?_
              rotate_left
              · intro w hSw; (try dsimp only at hSw); go_simp; (try with_reducible rfl)
              try simp only [Act.put, List.getElem_toArray, List.getElem_cons_succ, List.getElem_cons_zero, List.setIfInBounds_toArray, List.set_cons_zero, List.set_cons_succ]
              refine wpAnyH_take (i := 10) (oi := _) (v := ?_) rfl (by kernel_rfl) (by kernel_rfl) (by kernel_rfl) (fun _ _ _ h => h) (Or.inl ⟨by rfl, ?_⟩) (by assumption) ?_
              rotate_left
              · intro w hSw; (try dsimp only at hSw); go_simp; (try with_reducible rfl)
              try simp only [Act.put, List.getElem_toArray, List.getElem_cons_succ, List.getElem_cons_zero, List.setIfInBounds_toArray, List.set_cons_zero, List.set_cons_succ]
              refine wpAnyH_take (i := 11) (oi := _) (v := undef) rfl (by kernel_rfl) (by kernel_rfl) (by kernel_rfl) (fun _ _ _ h => h) (Or.inr ⟨by rfl, rfl⟩) (by assumption) ?_
              try simp only [Act.put, List.getElem_toArray, List.getElem_cons_succ, List.getElem_cons_zero, List.setIfInBounds_toArray, List.set_cons_zero, List.set_cons_succ]
              refine wpAnyH_take (i := 12) (oi := _) (v := undef) rfl (by kernel_rfl) (by kernel_rfl) (by kernel_rfl) (fun _ _ _ h => h) (Or.inr ⟨by rfl, rfl⟩) (by assumption) ?_
              try simp only [Act.put, List.getElem_toArray, List.getElem_cons_succ, List.getElem_cons_zero, List.setIfInBounds_toArray, List.set_cons_zero, List.set_cons_succ]
              refine wpAnyH_take (i := 13) (oi := _) (v := undef) rfl (by kernel_rfl) (by kernel_rfl) (by kernel_rfl) (fun _ _ _ h => h) (Or.inr ⟨by rfl, rfl⟩) (by assumption) ?_
              try simp only [Act.put, List.getElem_toArray, List.getElem_cons_succ, List.getElem_cons_zero, List.setIfInBounds_toArray, List.set_cons_zero, List.set_cons_succ]
              refine wpAnyH_take (i := 14) (oi := _) (v := undef) rfl (by kernel_rfl) (by kernel_rfl) (by kernel_rfl) (fun _ _ _ h => h) (Or.inr ⟨by rfl, rfl⟩) (by assumption) ?_
              try simp only [Act.put, List.getElem_toArray, List.getElem_cons_succ, List.getElem_cons_zero, List.setIfInBounds_toArray, List.set_cons_zero, List.set_cons_succ]
              refine wpAnyH_take (i := 15) (oi := _) (v := undef) rfl (by kernel_rfl) (by kernel_rfl) (by kernel_rfl) (fun _ _ _ h => h) (Or.inr ⟨by rfl, rfl⟩) (by assumption) ?_
              try simp only [Act.put, List.getElem_toArray, List.getElem_cons_succ, List.getElem_cons_zero, List.setIfInBounds_toArray, List.set_cons_zero, List.set_cons_succ]
              refine wpAnyH_take (i := 16) (oi := _) (v := ?_) rfl (by kernel_rfl) (by kernel_rfl) (by kernel_rfl) (fun _ _ _ h => h) (Or.inl ⟨by rfl, ?_⟩) (by assumption) ?_
              rotate_left
              · intro w hSw; (try dsimp only at hSw); go_simp; (try with_reducible rfl)
              try simp only [Act.put, List.getElem_toArray, List.getElem_cons_succ, List.getElem_cons_zero, List.setIfInBounds_toArray, List.set_cons_zero, List.set_cons_succ]
              refine wpAnyH_take (i := 17) (oi := _) (v := ?_) rfl (by kernel_rfl) (by kernel_rfl) (by kernel_rfl) (fun _ _ _ h => h) (Or.inl ⟨by rfl, ?_⟩) (by assumption) ?_
              rotate_left
              · intro w hSw; (try dsimp only at hSw); go_simp; (try with_reducible rfl)
              try simp only [Act.put, List.getElem_toArray, List.getElem_cons_succ, List.getElem_cons_zero, List.setIfInBounds_toArray, List.set_cons_zero, List.set_cons_succ]
              refine wpAnyH_ready (rs := [18]) (by kernel_rfl) (by simp) ?_
              refine AllReadyH.cons (o := _) rfl (fun K hK => ?_) AllReadyH.nil
              go_simp
              refine hK.out _ _ ⟨(far3 (by omega) _ _ _ _ _).trans t0, (far3 (by omega) _ _ _ _ _).trans t1, (far3 (by omega) _ _ _ _ _).trans t2⟩ (fun hHeld => ?_)
              clear hK K
              try simp only [Act.put, List.getElem_toArray, List.getElem_cons_succ, List.getElem_cons_zero, List.setIfInBounds_toArray, List.set_cons_zero, List.set_cons_succ]
              refine wpAnyH_take (i := 19) (oi := _) (v := ?_) rfl (by kernel_rfl) (by kernel_rfl) (by kernel_rfl) (fun _ _ _ h => h) (Or.inl ⟨by rfl, ?_⟩) (by assumption) ?_
              rotate_left
              · intro w hSw; (try dsimp only at hSw); go_simp; (try with_reducible rfl)
              try simp only [Act.put, List.getElem_toArray, List.getElem_cons_succ, List.getElem_cons_zero, List.setIfInBounds_toArray, List.set_cons_zero, List.set_cons_succ]
              refine wpAnyH_take (i := 20) (oi := _) (v := ?_) rfl (by kernel_rfl) (by kernel_rfl) (by kernel_rfl) (fun _ _ _ h => h) (Or.inl ⟨by rfl, ?_⟩) (by assumption) ?_
              rotate_left
              · intro w hSw; (try dsimp only at hSw); go_simp; (try with_reducible rfl)
              try simp only [Act.put, List.getElem_toArray, List.getElem_cons_succ, List.getElem_cons_zero, List.setIfInBounds_toArray, List.set_cons_zero, List.set_cons_succ]
              refine wpAnyH_done (by kernel_rfl) ?_ _
              go_wp2_with fail
              have stf := st'.put (Nat.le_refl _) (by omega) (.int .i64 2) (.string ⟨t.toArray⟩) (.int .i64 i)
              refine bodyPost_ret (v := .tuple #[.agg #[.int .i64 2, .string ⟨t.toArray⟩, .int .i64 i], .int .i64 (p : Int), .bool true]) (by simp [results, Tryz.results150, go_sem, q0, q1, q2]) rfl ?_
              rw [HT.out]; exact (show RQ (good (some ⟨2, t, p - i, !partI (atI s (p : Int))⟩)) i w _ _ from RQ.got rfl rfl rfl (by have := HM.out; first | rfl | (push_cast; omega) | omega) (by simp only []; rw [HK.out, HP.out]; rfl) (below_to stf.below rfl))
      · have HT : Hid (rNum (s.data.toList.drop i) = ⟨3, t, p - i + 1, !partI (atI s ((p + 1 : Nat) : Int))⟩) := Lib.hid (HGO.out true hc)
        have HM : Hid (i + (p - i + 1) = p + 1) := Lib.hid (by omega)
        clear hc HGO
        go_upto_region 8 with fail
        have st : Stored w w.heap.size (w.heap.size + 1) (.cells #[.int .i64 0, .string ⟨#[]⟩, .int .i64 0] 24) (.cells #[.int .i64 3, .string ⟨t.toArray⟩, .int .i64 i] 24) (w2.setCell ⟨w.heap.size + 1, 0, none⟩ (.int .i64 3)) :=
          ⟨(heap_set_other (by omega) _).trans st.res, tok_set0 st.box _, st.below.setCell (p := ⟨w.heap.size + 1, 0, none⟩) (by show w.heap.size ≤ w.heap.size + 1; omega) _⟩
        clear hT0 hF0
        generalize w2.setCell ⟨w.heap.size + 1, 0, none⟩ (.int .i64 3) = w3 at st ⊢
        cases hck : checkI 3 ⟨t.toArray⟩
        · have HCK : Hid (∀ W, Calls Tryz.prog 38 #[.agg #[.int .i64 3, .string ⟨t.toArray⟩, .int .i64 i]] W fun e w' => e = .returned (.int .i64 50) ∧ Below W.heap.size W w') := Lib.hid (fun W => by have := rCheck_any 3 ⟨t.toArray⟩ i hsz W; rwa [hck] at this)
          have HK := Lib.hid hck
          clear hck
          have t0 : w3.cell? ⟨w.heap.size + 1, 0, none⟩ = some (.int .i64 3) := cell_of_row _ _ 0 _ _ _ st.box
          have t1 : w3.cell? ⟨w.heap.size + 1, 1, none⟩ = some (.string ⟨t.toArray⟩) := cell_of_row _ _ 1 _ _ _ st.box
          have t2 : w3.cell? ⟨w.heap.size + 1, 2, none⟩ = some (.int .i64 i) := cell_of_row _ _ 2 _ _ _ st.box
          have q0 : w3.cell? ⟨w.heap.size, 0, none⟩ = some (.int .i64 0) := cell_of_row _ _ 0 _ _ _ st.res
          have q1 : w3.cell? ⟨w.heap.size, 1, none⟩ = some (.string ⟨#[]⟩) := cell_of_row _ _ 1 _ _ _ st.res
          have q2 : w3.cell? ⟨w.heap.size, 2, none⟩ = some (.int .i64 0) := cell_of_row _ _ 2 _ _ _ st.res
          have f0 := Lib.frozen_of_heap st.res 0
          have f1 := Lib.frozen_of_heap st.res 1
          have f2 := Lib.frozen_of_heap st.res 2
          refine wp_region_held_drew (S := (fun w' => w'.cell? ⟨w.heap.size + 1, 0, none⟩ = some (.int .i64 3) ∧ w'.cell? ⟨w.heap.size + 1, 1, none⟩ = some (.string ⟨t.toArray⟩) ∧ w'.cell? ⟨w.heap.size + 1, 2, none⟩ = some (.int .i64 i))) (by kernel_rfl) ⟨t0, t1, t2⟩ (fun hHeld => ?_)
          refine wpAnyH_take (i := 0) (oi := _) (v := ?_) rfl (by kernel_rfl) (by kernel_rfl) (by kernel_rfl) (fun _ _ _ h => h) (Or.inl ⟨by rfl, ?_⟩) (by assumption) ?_
          rotate_left
          · intro w hSw; (try dsimp only at hSw); go_simp; (try with_reducible rfl)
          try simp only [Act.put, List.getElem_toArray, List.getElem_cons_zero, List.setIfInBounds_toArray, List.set_cons_zero, List.set_cons_succ]
          refine wpAnyH_take (i := 1) (oi := _) (v := ?_) rfl (by kernel_rfl) (by kernel_rfl) (by kernel_rfl) (fun _ _ _ h => h) (Or.inl ⟨by rfl, ?_⟩) (by assumption) ?_
          rotate_left
          · intro w hSw; (try dsimp only at hSw); go_simp; (try with_reducible rfl)
          try simp only [Act.put, List.getElem_toArray, List.getElem_cons_succ, List.getElem_cons_zero, List.setIfInBounds_toArray, List.set_cons_zero, List.set_cons_succ]
          refine wpAnyH_take (i := 2) (oi := _) (v := ?_) rfl (by kernel_rfl) (by kernel_rfl) (by kernel_rfl) (fun _ _ _ h => h) (Or.inl ⟨by rfl, ?_⟩) (by assumption) ?_
          rotate_left
          · intro w hSw; (try dsimp only at hSw); go_simp; (try with_reducible rfl)
          try simp only [Act.put, List.getElem_toArray, List.getElem_cons_succ, List.getElem_cons_zero, List.setIfInBounds_toArray, List.set_cons_zero, List.set_cons_succ]
          refine wpAnyH_ready (rs := [3]) (by kernel_rfl) (by simp) ?_
          refine AllReadyH.cons (o := _) rfl (fun K hK => ?_) AllReadyH.nil
          · go_simp
            refine (HCK.out _).mono ?_
            rintro e w' ⟨rfl, hb⟩
            have st' := st.call rfl hb
            have t0 : w'.cell? ⟨w.heap.size + 1, 0, none⟩ = some (.int .i64 3) := cell_of_row _ _ 0 _ _ _ st'.box
            have t1 : w'.cell? ⟨w.heap.size + 1, 1, none⟩ = some (.string ⟨t.toArray⟩) := cell_of_row _ _ 1 _ _ _ st'.box
            have t2 : w'.cell? ⟨w.heap.size + 1, 2, none⟩ = some (.int .i64 i) := cell_of_row _ _ 2 _ _ _ st'.box
            have q0 : w'.cell? ⟨w.heap.size, 0, none⟩ = some (.int .i64 0) := cell_of_row _ _ 0 _ _ _ st'.res
            have q1 : w'.cell? ⟨w.heap.size, 1, none⟩ = some (.string ⟨#[]⟩) := cell_of_row _ _ 1 _ _ _ st'.res
            have q2 : w'.cell? ⟨w.heap.size, 2, none⟩ = some (.int .i64 0) := cell_of_row _ _ 2 _ _ _ st'.res
            have f0 := Lib.frozen_of_heap st'.res 0
            have f1 := Lib.frozen_of_heap st'.res 1
            have f2 := Lib.frozen_of_heap st'.res 2
            clear hb
            go_wp2_with fail
            refine hK.out _ _ ⟨t0, t1, t2⟩ (fun hHeld => ?_)
            clear hK K
            try simp only [Act.put, List.getElem_toArray, List.getElem_cons_succ, List.getElem_cons_zero, List.setIfInBounds_toArray, List.set_cons_zero, List.set_cons_succ]
            refine wpAnyH_take (i := 4) (oi := _) (v := ?_) rfl (by kernel_rfl) (by kernel_rfl) (by kernel_rfl) (fun _ _ _ h => h) (Or.inl ⟨by rfl, ?_⟩) (by assumption) ?_
            rotate_left
            · intro w hSw; (try dsimp only at hSw); go_simp; (try with_reducible rfl)
            try simp only [Act.put, List.getElem_toArray, List.getElem_cons_succ, List.getElem_cons_zero, List.setIfInBounds_toArray, List.set_cons_zero, List.set_cons_succ]
            refine wpAnyH_take (i := 5) (oi := _) (v := ?_) rfl (by kernel_rfl) (by kernel_rfl) (by kernel_rfl) (fun _ _ _ h => h) (Or.inl ⟨by rfl, ?_⟩) (by assumption) ?_
            rotate_left
            · intro w hSw; (try dsimp only at hSw); go_simp; (try with_reducible rfl)
            try simp only [Act.put, List.getElem_toArray, List.getElem_cons_succ, List.getElem_cons_zero, List.setIfInBounds_toArray, List.set_cons_zero, List.set_cons_succ]
            refine wpAnyH_take (i := 6) (oi := _) (v := undef) rfl (by kernel_rfl) (by kernel_rfl) (by kernel_rfl) (fun _ _ _ h => h) (Or.inr ⟨by rfl, rfl⟩) (by assumption) ?_
            try simp only [Act.put, List.getElem_toArray, List.getElem_cons_succ, List.getElem_cons_zero, List.setIfInBounds_toArray, List.set_cons_zero, List.set_cons_succ]
            refine wpAnyH_take (i := 7) (oi := _) (v := undef) rfl (by kernel_rfl) (by kernel_rfl) (by kernel_rfl) (fun _ _ _ h => h) (Or.inr ⟨by rfl, rfl⟩) (by assumption) ?_
            try simp only [Act.put, List.getElem_toArray, List.getElem_cons_succ, List.getElem_cons_zero, List.setIfInBounds_toArray, List.set_cons_zero, List.set_cons_succ]
            refine wpAnyH_take (i := 8) (oi := _) (v := undef) rfl (by kernel_rfl) (by kernel_rfl) (by kernel_rfl) (fun _ _ _ h => h) (Or.inr ⟨by rfl, rfl⟩) (by assumption) ?_
            try simp only [Act.put, List.getElem_toArray, List.getElem_cons_succ, List.getElem_cons_zero, List.setIfInBounds_toArray, List.set_cons_zero, List.set_cons_succ]
            refine wpAnyH_take (i := 9) (oi := _) (v := undef) rfl (by kernel_rfl) (by kernel_rfl) (by kernel_rfl) (fun _ _ _ h => h) (Or.inr ⟨by rfl, rfl⟩) (by assumption) ?_
            try simp only [Act.put, List.getElem_toArray, List.getElem_cons_succ, List.getElem_cons_zero, List.setIfInBounds_toArray, List.set_cons_zero, List.set_cons_succ]
            refine wpAnyH_take (i := 10) (oi := _) (v := undef) rfl (by kernel_rfl) (by kernel_rfl) (by kernel_rfl) (fun _ _ _ h => h) (Or.inr ⟨by rfl, rfl⟩) (by assumption) ?_
            try simp only [Act.put, List.getElem_toArray, List.getElem_cons_succ, List.getElem_cons_zero, List.setIfInBounds_toArray, List.set_cons_zero, List.set_cons_succ]
            refine wpAnyH_take (i := 11) (oi := _) (v := undef) rfl (by kernel_rfl) (by kernel_rfl) (by kernel_rfl) (fun _ _ _ h => h) (Or.inr ⟨by rfl, rfl⟩) (by assumption) ?_
            try simp only [Act.put, List.getElem_toArray, List.getElem_cons_succ, List.getElem_cons_zero, List.setIfInBounds_toArray, List.set_cons_zero, List.set_cons_succ]
            refine wpAnyH_take (i := 12) (oi := _) (v := undef) rfl (by kernel_rfl) (by kernel_rfl) (by kernel_rfl) (fun _ _ _ h => h) (Or.inr ⟨by rfl, rfl⟩) (by assumption) ?_
            try simp only [Act.put, List.getElem_toArray, List.getElem_cons_succ, List.getElem_cons_zero, List.setIfInBounds_toArray, List.set_cons_zero, List.set_cons_succ]
            refine wpAnyH_take (i := 13) (oi := _) (v := undef) rfl (by kernel_rfl) (by kernel_rfl) (by kernel_rfl) (fun _ _ _ h => h) (Or.inr ⟨by rfl, rfl⟩) (by assumption) ?_
            try simp only [Act.put, List.getElem_toArray, List.getElem_cons_succ, List.getElem_cons_zero, List.setIfInBounds_toArray, List.set_cons_zero, List.set_cons_succ]
            refine wpAnyH_take (i := 14) (oi := _) (v := undef) rfl (by kernel_rfl) (by kernel_rfl) (by kernel_rfl) (fun _ _ _ h => h) (Or.inr ⟨by rfl, rfl⟩) (by assumption) ?_
            try simp only [Act.put, List.getElem_toArray, List.getElem_cons_succ, List.getElem_cons_zero, List.setIfInBounds_toArray, List.set_cons_zero, List.set_cons_succ]
            refine wpAnyH_take (i := 15) (oi := _) (v := undef) rfl (by kernel_rfl) (by kernel_rfl) (by kernel_rfl) (fun _ _ _ h => h) (Or.inr ⟨by rfl, rfl⟩) (by assumption) ?_
            try simp only [Act.put, List.getElem_toArray, List.getElem_cons_succ, List.getElem_cons_zero, List.setIfInBounds_toArray, List.set_cons_zero, List.set_cons_succ]
            refine wpAnyH_take (i := 16) (oi := _) (v := undef) rfl (by kernel_rfl) (by kernel_rfl) (by kernel_rfl) (fun _ _ _ h => h) (Or.inr ⟨by rfl, rfl⟩) (by assumption) ?_
            try simp only [Act.put, List.getElem_toArray, List.getElem_cons_succ, List.getElem_cons_zero, List.setIfInBounds_toArray, List.set_cons_zero, List.set_cons_succ]
            refine wpAnyH_take (i := 17) (oi := _) (v := ?_) rfl (by kernel_rfl) (by kernel_rfl) (by kernel_rfl) (fun _ _ _ h => h) (Or.inl ⟨by rfl, ?_⟩) (by assumption) ?_
            rotate_left
            · intro w hSw; (try dsimp only at hSw); go_simp; (try with_reducible rfl)
            try simp only [Act.put, List.getElem_toArray, List.getElem_cons_succ, List.getElem_cons_zero, List.setIfInBounds_toArray, List.set_cons_zero, List.set_cons_succ]
            refine wpAnyH_ready (rs := [18]) (by kernel_rfl) (by simp) ?_
            refine AllReadyH.cons (o := _) rfl (fun K hK => ?_) AllReadyH.nil
            go_simp
            refine hK.out _ _ ⟨(far3 (by omega) _ _ _ _ _).trans t0, (far3 (by omega) _ _ _ _ _).trans t1, (far3 (by omega) _ _ _ _ _).trans t2⟩ (fun hHeld => ?_)
            clear hK K
            try simp only [Act.put, List.getElem_toArray, List.getElem_cons_succ, List.getElem_cons_zero, List.setIfInBounds_toArray, List.set_cons_zero, List.set_cons_succ]
            refine wpAnyH_take (i := 19) (oi := _) (v := ?_) rfl (by kernel_rfl) (by kernel_rfl) (by kernel_rfl) (fun _ _ _ h => h) (Or.inl ⟨by rfl, ?_⟩) (by assumption) ?_
            rotate_left
            · intro w hSw; (try dsimp only at hSw); go_simp; (try with_reducible rfl)
            try simp only [Act.put, List.getElem_toArray, List.getElem_cons_succ, List.getElem_cons_zero, List.setIfInBounds_toArray, List.set_cons_zero, List.set_cons_succ]
            refine wpAnyH_take (i := 20) (oi := _) (v := ?_) rfl (by kernel_rfl) (by kernel_rfl) (by kernel_rfl) (fun _ _ _ h => h) (Or.inl ⟨by rfl, ?_⟩) (by assumption) ?_
            rotate_left
            · intro w hSw; (try dsimp only at hSw); go_simp; (try with_reducible rfl)
            try simp only [Act.put, List.getElem_toArray, List.getElem_cons_succ, List.getElem_cons_zero, List.setIfInBounds_toArray, List.set_cons_zero, List.set_cons_succ]
            refine wpAnyH_done (by kernel_rfl) ?_ _
            go_wp2_with fail
            have stf := st'.put (Nat.le_refl _) (by omega) (.int .i64 3) (.string ⟨t.toArray⟩) (.int .i64 i)
            refine bodyPost_ret (v := .tuple #[.agg #[.int .i64 3, .string ⟨t.toArray⟩, .int .i64 i], .int .i64 ((p : Int) + 1), .bool false]) (by simp [results, Tryz.results150, go_sem, q0, q1, q2]) rfl ?_
            rw [HT.out]; exact (show RQ (good (some ⟨3, t, p - i + 1, !partI (atI s ((p + 1 : Nat) : Int))⟩)) i w _ _ from RQ.got rfl rfl rfl (by have := HM.out; first | rfl | (push_cast; omega) | omega) (by rw [HK.out]; rfl) (below_to stf.below rfl))
        · have HCK : Hid (∀ W, Calls Tryz.prog 38 #[.agg #[.int .i64 3, .string ⟨t.toArray⟩, .int .i64 i]] W fun e w' => e = .returned (.int .i64 0) ∧ Below W.heap.size W w') := Lib.hid (fun W => by have := rCheck_any 3 ⟨t.toArray⟩ i hsz W; rwa [hck] at this)
          have HK := Lib.hid hck
          clear hck
          rcases Nat.lt_or_ge (p + 1) s.size with hlt | hge
          · obtain ⟨r1, r2⟩ := byte_range s (p + 1) hlt
            have HG := Lib.hid (atI_get s (p + 1) hlt)
            have y1 : ((p : Int) + 1) < (s.size : Int) := by omega
            have y2 : decide ((s.size : Int) ≤ ((p : Int) + 1)) = false := decide_eq_false (by omega)
            have y3 : decide (s.size ≤ p + 1) = false := decide_eq_false (by omega)
            cases hpt : partI ((s[p + 1]'hlt).toNat : Int)
            · have HP := Lib.hid hpt
              clear hpt
              have t0 : w3.cell? ⟨w.heap.size + 1, 0, none⟩ = some (.int .i64 3) := cell_of_row _ _ 0 _ _ _ st.box
              have t1 : w3.cell? ⟨w.heap.size + 1, 1, none⟩ = some (.string ⟨t.toArray⟩) := cell_of_row _ _ 1 _ _ _ st.box
              have t2 : w3.cell? ⟨w.heap.size + 1, 2, none⟩ = some (.int .i64 i) := cell_of_row _ _ 2 _ _ _ st.box
              have q0 : w3.cell? ⟨w.heap.size, 0, none⟩ = some (.int .i64 0) := cell_of_row _ _ 0 _ _ _ st.res
              have q1 : w3.cell? ⟨w.heap.size, 1, none⟩ = some (.string ⟨#[]⟩) := cell_of_row _ _ 1 _ _ _ st.res
              have q2 : w3.cell? ⟨w.heap.size, 2, none⟩ = some (.int .i64 0) := cell_of_row _ _ 2 _ _ _ st.res
              have f0 := Lib.frozen_of_heap st.res 0
              have f1 := Lib.frozen_of_heap st.res 1
              have f2 := Lib.frozen_of_heap st.res 2
              go_region_held3 (fun w' => w'.cell? ⟨w.heap.size + 1, 0, none⟩ = some (.int .i64 3) ∧ w'.cell? ⟨w.heap.size + 1, 1, none⟩ = some (.string ⟨t.toArray⟩) ∧ w'.cell? ⟨w.heap.size + 1, 2, none⟩ = some (.int .i64 i)) (go_keep) (first | (go_at_call 38; refine (HCK.out _).mono ?_; rintro e w' ⟨rfl, hb⟩; have st' := st.call rfl hb; have t0 : w'.cell? ⟨w.heap.size + 1, 0, none⟩ = some (.int .i64 3) := cell_of_row _ _ 0 _ _ _ st'.box; have t1 : w'.cell? ⟨w.heap.size + 1, 1, none⟩ = some (.string ⟨t.toArray⟩) := cell_of_row _ _ 1 _ _ _ st'.box; have t2 : w'.cell? ⟨w.heap.size + 1, 2, none⟩ = some (.int .i64 i) := cell_of_row _ _ 2 _ _ _ st'.box; have q0 : w'.cell? ⟨w.heap.size, 0, none⟩ = some (.int .i64 0) := cell_of_row _ _ 0 _ _ _ st'.res; have q1 : w'.cell? ⟨w.heap.size, 1, none⟩ = some (.string ⟨#[]⟩) := cell_of_row _ _ 1 _ _ _ st'.res; have q2 : w'.cell? ⟨w.heap.size, 2, none⟩ = some (.int .i64 0) := cell_of_row _ _ 2 _ _ _ st'.res; have f0 := Lib.frozen_of_heap st'.res 0; have f1 := Lib.frozen_of_heap st'.res 1; have f2 := Lib.frozen_of_heap st'.res 2; clear hb) | (go_at_call 38; refine (HCK.out _).mono ?_; rintro e w' ⟨rfl, hb⟩; have st' := (st.put (Nat.le_refl _) (by omega) (.int .i64 3) (.string ⟨t.toArray⟩) (.int .i64 i)).call rfl hb; have t0 : w'.cell? ⟨w.heap.size + 1, 0, none⟩ = some (.int .i64 3) := cell_of_row _ _ 0 _ _ _ st'.box; have t1 : w'.cell? ⟨w.heap.size + 1, 1, none⟩ = some (.string ⟨t.toArray⟩) := cell_of_row _ _ 1 _ _ _ st'.box; have t2 : w'.cell? ⟨w.heap.size + 1, 2, none⟩ = some (.int .i64 i) := cell_of_row _ _ 2 _ _ _ st'.box; have q0 : w'.cell? ⟨w.heap.size, 0, none⟩ = some (.int .i64 3) := cell_of_row _ _ 0 _ _ _ st'.res; have q1 : w'.cell? ⟨w.heap.size, 1, none⟩ = some (.string ⟨t.toArray⟩) := cell_of_row _ _ 1 _ _ _ st'.res; have q2 : w'.cell? ⟨w.heap.size, 2, none⟩ = some (.int .i64 i) := cell_of_row _ _ 2 _ _ _ st'.res; have f0 := Lib.frozen_of_heap st'.res 0; have f1 := Lib.frozen_of_heap st'.res 1; have f2 := Lib.frozen_of_heap st'.res 2; clear hb) | (go_at_call 127; refine (rnamed_any _ r1 r2 _).mono ?_; rintro e w' ⟨rfl, hw⟩; rw [hw, HP.out]; clear hw))
              all_goals (
                go_wp2_with fail
                first | (have stf := st'.put (Nat.le_refl _) (by omega) (.int .i64 3) (.string ⟨t.toArray⟩) (.int .i64 i); refine bodyPost_ret (v := .tuple #[.agg #[.int .i64 3, .string ⟨t.toArray⟩, .int .i64 i], .int .i64 ((p : Int) + 1), .bool true]) (by simp [results, Tryz.results150, go_sem, q0, q1, q2]) rfl ?_; rw [HT.out]; exact (show RQ (good (some ⟨3, t, p - i + 1, !partI (atI s ((p + 1 : Nat) : Int))⟩)) i w _ _ from RQ.got rfl rfl rfl (by have := HM.out; first | rfl | (push_cast; omega) | omega) (by simp only []; rw [HK.out, HG.out, HP.out]; rfl) (below_to stf.below rfl))) | (have stf := st'; refine bodyPost_ret (v := .tuple #[.agg #[.int .i64 3, .string ⟨t.toArray⟩, .int .i64 i], .int .i64 ((p : Int) + 1), .bool true]) (by simp [results, Tryz.results150, go_sem, q0, q1, q2]) rfl ?_; rw [HT.out]; exact (show RQ (good (some ⟨3, t, p - i + 1, !partI (atI s ((p + 1 : Nat) : Int))⟩)) i w _ _ from RQ.got rfl rfl rfl (by have := HM.out; first | rfl | (push_cast; omega) | omega) (by simp only []; rw [HK.out, HG.out, HP.out]; rfl) (below_to stf.below rfl))))
            · have HP := Lib.hid hpt
              clear hpt
              have t0 : w3.cell? ⟨w.heap.size + 1, 0, none⟩ = some (.int .i64 3) := cell_of_row _ _ 0 _ _ _ st.box
              have t1 : w3.cell? ⟨w.heap.size + 1, 1, none⟩ = some (.string ⟨t.toArray⟩) := cell_of_row _ _ 1 _ _ _ st.box
              have t2 : w3.cell? ⟨w.heap.size + 1, 2, none⟩ = some (.int .i64 i) := cell_of_row _ _ 2 _ _ _ st.box
              have q0 : w3.cell? ⟨w.heap.size, 0, none⟩ = some (.int .i64 0) := cell_of_row _ _ 0 _ _ _ st.res
              have q1 : w3.cell? ⟨w.heap.size, 1, none⟩ = some (.string ⟨#[]⟩) := cell_of_row _ _ 1 _ _ _ st.res
              have q2 : w3.cell? ⟨w.heap.size, 2, none⟩ = some (.int .i64 0) := cell_of_row _ _ 2 _ _ _ st.res
              have f0 := Lib.frozen_of_heap st.res 0
              have f1 := Lib.frozen_of_heap st.res 1
              have f2 := Lib.frozen_of_heap st.res 2
              go_region_held3 (fun w' => w'.cell? ⟨w.heap.size + 1, 0, none⟩ = some (.int .i64 3) ∧ w'.cell? ⟨w.heap.size + 1, 1, none⟩ = some (.string ⟨t.toArray⟩) ∧ w'.cell? ⟨w.heap.size + 1, 2, none⟩ = some (.int .i64 i)) (go_keep) (first | (go_at_call 38; refine (HCK.out _).mono ?_; rintro e w' ⟨rfl, hb⟩; have st' := st.call rfl hb; have t0 : w'.cell? ⟨w.heap.size + 1, 0, none⟩ = some (.int .i64 3) := cell_of_row _ _ 0 _ _ _ st'.box; have t1 : w'.cell? ⟨w.heap.size + 1, 1, none⟩ = some (.string ⟨t.toArray⟩) := cell_of_row _ _ 1 _ _ _ st'.box; have t2 : w'.cell? ⟨w.heap.size + 1, 2, none⟩ = some (.int .i64 i) := cell_of_row _ _ 2 _ _ _ st'.box; have q0 : w'.cell? ⟨w.heap.size, 0, none⟩ = some (.int .i64 0) := cell_of_row _ _ 0 _ _ _ st'.res; have q1 : w'.cell? ⟨w.heap.size, 1, none⟩ = some (.string ⟨#[]⟩) := cell_of_row _ _ 1 _ _ _ st'.res; have q2 : w'.cell? ⟨w.heap.size, 2, none⟩ = some (.int .i64 0) := cell_of_row _ _ 2 _ _ _ st'.res; have f0 := Lib.frozen_of_heap st'.res 0; have f1 := Lib.frozen_of_heap st'.res 1; have f2 := Lib.frozen_of_heap st'.res 2; clear hb) | (go_at_call 38; refine (HCK.out _).mono ?_; rintro e w' ⟨rfl, hb⟩; have st' := (st.put (Nat.le_refl _) (by omega) (.int .i64 3) (.string ⟨t.toArray⟩) (.int .i64 i)).call rfl hb; have t0 : w'.cell? ⟨w.heap.size + 1, 0, none⟩ = some (.int .i64 3) := cell_of_row _ _ 0 _ _ _ st'.box; have t1 : w'.cell? ⟨w.heap.size + 1, 1, none⟩ = some (.string ⟨t.toArray⟩) := cell_of_row _ _ 1 _ _ _ st'.box; have t2 : w'.cell? ⟨w.heap.size + 1, 2, none⟩ = some (.int .i64 i) := cell_of_row _ _ 2 _ _ _ st'.box; have q0 : w'.cell? ⟨w.heap.size, 0, none⟩ = some (.int .i64 3) := cell_of_row _ _ 0 _ _ _ st'.res; have q1 : w'.cell? ⟨w.heap.size, 1, none⟩ = some (.string ⟨t.toArray⟩) := cell_of_row _ _ 1 _ _ _ st'.res; have q2 : w'.cell? ⟨w.heap.size, 2, none⟩ = some (.int .i64 i) := cell_of_row _ _ 2 _ _ _ st'.res; have f0 := Lib.frozen_of_heap st'.res 0; have f1 := Lib.frozen_of_heap st'.res 1; have f2 := Lib.frozen_of_heap st'.res 2; clear hb) | (go_at_call 127; refine (rnamed_any _ r1 r2 _).mono ?_; rintro e w' ⟨rfl, hw⟩; rw [hw, HP.out]; clear hw))
              all_goals (
                go_wp2_with fail
                first | (have stf := st'.put (Nat.le_refl _) (by omega) (.int .i64 3) (.string ⟨t.toArray⟩) (.int .i64 i); refine bodyPost_ret (v := .tuple #[.agg #[.int .i64 3, .string ⟨t.toArray⟩, .int .i64 i], .int .i64 ((p : Int) + 1), .bool false]) (by simp [results, Tryz.results150, go_sem, q0, q1, q2]) rfl ?_; rw [HT.out]; exact (show RQ (good (some ⟨3, t, p - i + 1, !partI (atI s ((p + 1 : Nat) : Int))⟩)) i w _ _ from RQ.got rfl rfl rfl (by have := HM.out; first | rfl | (push_cast; omega) | omega) (by simp only []; rw [HK.out, HG.out, HP.out]; rfl) (below_to stf.below rfl))) | (have stf := st'; refine bodyPost_ret (v := .tuple #[.agg #[.int .i64 3, .string ⟨t.toArray⟩, .int .i64 i], .int .i64 ((p : Int) + 1), .bool false]) (by simp [results, Tryz.results150, go_sem, q0, q1, q2]) rfl ?_; rw [HT.out]; exact (show RQ (good (some ⟨3, t, p - i + 1, !partI (atI s ((p + 1 : Nat) : Int))⟩)) i w _ _ from RQ.got rfl rfl rfl (by have := HM.out; first | rfl | (push_cast; omega) | omega) (by simp only []; rw [HK.out, HG.out, HP.out]; rfl) (below_to stf.below rfl))))
          · have HP := Lib.hid (part_end s (p + 1) hge)
            have y1 : decide ((s.size : Int) ≤ ((p : Int) + 1)) = true := decide_eq_true (by omega)
            have y3 : decide (s.size ≤ p + 1) = true := decide_eq_true (by omega)
            have t0 : w3.cell? ⟨w.heap.size + 1, 0, none⟩ = some (.int .i64 3) := cell_of_row _ _ 0 _ _ _ st.box
            have t1 : w3.cell? ⟨w.heap.size + 1, 1, none⟩ = some (.string ⟨t.toArray⟩) := cell_of_row _ _ 1 _ _ _ st.box
            have t2 : w3.cell? ⟨w.heap.size + 1, 2, none⟩ = some (.int .i64 i) := cell_of_row _ _ 2 _ _ _ st.box
            have q0 : w3.cell? ⟨w.heap.size, 0, none⟩ = some (.int .i64 0) := cell_of_row _ _ 0 _ _ _ st.res
            have q1 : w3.cell? ⟨w.heap.size, 1, none⟩ = some (.string ⟨#[]⟩) := cell_of_row _ _ 1 _ _ _ st.res
            have q2 : w3.cell? ⟨w.heap.size, 2, none⟩ = some (.int .i64 0) := cell_of_row _ _ 2 _ _ _ st.res
            have f0 := Lib.frozen_of_heap st.res 0
            have f1 := Lib.frozen_of_heap st.res 1
            have f2 := Lib.frozen_of_heap st.res 2
            refine wp_region_held_drew (S := (fun w' => w'.cell? ⟨w.heap.size + 1, 0, none⟩ = some (.int .i64 3) ∧ w'.cell? ⟨w.heap.size + 1, 1, none⟩ = some (.string ⟨t.toArray⟩) ∧ w'.cell? ⟨w.heap.size + 1, 2, none⟩ = some (.int .i64 i))) (by kernel_rfl) ⟨t0, t1, t2⟩ (fun hHeld => ?_)
            refine wpAnyH_take (i := 0) (oi := _) (v := ?_) rfl (by kernel_rfl) (by kernel_rfl) (by kernel_rfl) (fun _ _ _ h => h) (Or.inl ⟨by rfl, ?_⟩) (by assumption) ?_
            rotate_left
            · intro w hSw; (try dsimp only at hSw); go_simp; (try with_reducible rfl)
            try simp only [Act.put, List.getElem_toArray, List.getElem_cons_zero, List.setIfInBounds_toArray, List.set_cons_zero, List.set_cons_succ]
            refine wpAnyH_take (i := 1) (oi := _) (v := ?_) rfl (by kernel_rfl) (by kernel_rfl) (by kernel_rfl) (fun _ _ _ h => h) (Or.inl ⟨by rfl, ?_⟩) (by assumption) ?_
            rotate_left
            · intro w hSw; (try dsimp only at hSw); go_simp; (try with_reducible rfl)
            try simp only [Act.put, List.getElem_toArray, List.getElem_cons_succ, List.getElem_cons_zero, List.setIfInBounds_toArray, List.set_cons_zero, List.set_cons_succ]
            refine wpAnyH_take (i := 2) (oi := _) (v := ?_) rfl (by kernel_rfl) (by kernel_rfl) (by kernel_rfl) (fun _ _ _ h => h) (Or.inl ⟨by rfl, ?_⟩) (by assumption) ?_
            rotate_left
            · intro w hSw; (try dsimp only at hSw); go_simp; (try with_reducible rfl)
            try simp only [Act.put, List.getElem_toArray, List.getElem_cons_succ, List.getElem_cons_zero, List.setIfInBounds_toArray, List.set_cons_zero, List.set_cons_succ]
            refine wpAnyH_ready (rs := [3]) (by kernel_rfl) (by simp) ?_
            refine AllReadyH.cons (o := _) rfl (fun K hK => ?_) AllReadyH.nil
            · go_simp
              refine (HCK.out _).mono ?_
              rintro e w' ⟨rfl, hb⟩
              have st' := st.call rfl hb
              have t0 : w'.cell? ⟨w.heap.size + 1, 0, none⟩ = some (.int .i64 3) := cell_of_row _ _ 0 _ _ _ st'.box
              have t1 : w'.cell? ⟨w.heap.size + 1, 1, none⟩ = some (.string ⟨t.toArray⟩) := cell_of_row _ _ 1 _ _ _ st'.box
              have t2 : w'.cell? ⟨w.heap.size + 1, 2, none⟩ = some (.int .i64 i) := cell_of_row _ _ 2 _ _ _ st'.box
              have q0 : w'.cell? ⟨w.heap.size, 0, none⟩ = some (.int .i64 0) := cell_of_row _ _ 0 _ _ _ st'.res
              have q1 : w'.cell? ⟨w.heap.size, 1, none⟩ = some (.string ⟨#[]⟩) := cell_of_row _ _ 1 _ _ _ st'.res
              have q2 : w'.cell? ⟨w.heap.size, 2, none⟩ = some (.int .i64 0) := cell_of_row _ _ 2 _ _ _ st'.res
              have f0 := Lib.frozen_of_heap st'.res 0
              have f1 := Lib.frozen_of_heap st'.res 1
              have f2 := Lib.frozen_of_heap st'.res 2
              clear hb
              go_wp2_with fail
              refine hK.out _ _ ⟨t0, t1, t2⟩ (fun hHeld => ?_)
              clear hK K
              try simp only [Act.put, List.getElem_toArray, List.getElem_cons_succ, List.getElem_cons_zero, List.setIfInBounds_toArray, List.set_cons_zero, List.set_cons_succ]
              refine wpAnyH_take (i := 4) (oi := _) (v := ?_) rfl (by kernel_rfl) (by kernel_rfl) (by kernel_rfl) (fun _ _ _ h => h) (Or.inl ⟨by rfl, ?_⟩) (by assumption) ?_
              rotate_left
              · intro w hSw; (try dsimp only at hSw); go_simp; (try with_reducible rfl)
              try simp only [Act.put, List.getElem_toArray, List.getElem_cons_succ, List.getElem_cons_zero, List.setIfInBounds_toArray, List.set_cons_zero, List.set_cons_succ]
              refine wpAnyH_take (i := 5) (oi := _) (v := ?_) rfl (by kernel_rfl) (by kernel_rfl) (by kernel_rfl) (fun _ _ _ h => h) (Or.inl ⟨by rfl, ?_⟩) (by assumption) ?_
              rotate_left
              · intro w hSw; (try dsimp only at hSw); go_simp; (try with_reducible rfl)
              try simp only [Act.put, List.getElem_toArray, List.getElem_cons_succ, List.getElem_cons_zero, List.setIfInBounds_toArray, List.set_cons_zero, List.set_cons_succ]
              refine wpAnyH_take (i := 6) (oi := _) (v := ?_) rfl (by kernel_rfl) (by kernel_rfl) (by kernel_rfl) (fun _ _ _ h => h) (Or.inl ⟨by rfl, ?_⟩) (by assumption) ?_
              rotate_left
              · intro w hSw; (try dsimp only at hSw); go_simp; (try with_reducible rfl)
              try simp only [Act.put, List.getElem_toArray, List.getElem_cons_succ, List.getElem_cons_zero, List.setIfInBounds_toArray, List.set_cons_zero, List.set_cons_succ]
              refine wpAnyH_take (i := 7) (oi := _) (v := ?_) rfl (by kernel_rfl) (by kernel_rfl) (by kernel_rfl) (fun _ _ _ h => h) (Or.inl ⟨by rfl, ?_⟩) (by assumption) ?_
              rotate_left
              · intro w hSw; (try dsimp only at hSw); go_simp; (try with_reducible rfl)
              try simp only [Act.put, List.getElem_toArray, List.getElem_cons_succ, List.getElem_cons_zero, List.setIfInBounds_toArray, List.set_cons_zero, List.set_cons_succ]
              refine wpAnyH_take (i := 8) (oi := _) (v := ?_) rfl (by kernel_rfl) (by kernel_rfl) (by kernel_rfl) (fun _ _ _ h => h) (Or.inl ⟨by rfl, ?_⟩) (by assumption) ?_
              rotate_left
              · intro w hSw; (try dsimp only at hSw); go_simp; (try with_reducible rfl)
              try simp only [Act.put, List.getElem_toArray, List.getElem_cons_succ, List.getElem_cons_zero, List.setIfInBounds_toArray, List.set_cons_zero, List.set_cons_succ]
              refine wpAnyH_take (i := 9) (oi := _) (v := ?_) rfl (by kernel_rfl) (by kernel_rfl) (by kernel_rfl) (fun _ _ _ h => h) (Or.inl ⟨by rfl, ?_⟩) (by assumption) ?_
              rotate_left
              · intro w hSw; (try dsimp only at hSw); go_simp; (try with_reducible rfl)
              try simp only [Act.put, List.getElem_toArray, List.getElem_cons_succ, List.getElem_cons_zero, List.setIfInBounds_toArray, List.set_cons_zero, List.set_cons_succ]
              refine wpAnyH_take (i := 10) (oi := _) (v := ?_) rfl (by kernel_rfl) (by kernel_rfl) (by kernel_rfl) (fun _ _ _ h => h) (Or.inl ⟨by rfl, ?_⟩) (by assumption) ?_
              rotate_left
              · intro w hSw; (try dsimp only at hSw); go_simp; (try with_reducible rfl)
              try simp only [Act.put, List.getElem_toArray, List.getElem_cons_succ, List.getElem_cons_zero, List.setIfInBounds_toArray, List.set_cons_zero, List.set_cons_succ]
              refine wpAnyH_take (i := 11) (oi := _) (v := undef) rfl (by kernel_rfl) (by kernel_rfl) (by kernel_rfl) (fun _ _ _ h => h) (Or.inr ⟨by rfl, rfl⟩) (by assumption) ?_
              try simp only [Act.put, List.getElem_toArray, List.getElem_cons_succ, List.getElem_cons_zero, List.setIfInBounds_toArray, List.set_cons_zero, List.set_cons_succ]
              refine wpAnyH_take (i := 12) (oi := _) (v := undef) rfl (by kernel_rfl) (by kernel_rfl) (by kernel_rfl) (fun _ _ _ h => h) (Or.inr ⟨by rfl, rfl⟩) (by assumption) ?_
              try simp only [Act.put, List.getElem_toArray, List.getElem_cons_succ, List.getElem_cons_zero, List.setIfInBounds_toArray, List.set_cons_zero, List.set_cons_succ]
              refine wpAnyH_take (i := 13) (oi := _) (v := undef) rfl (by kernel_rfl) (by kernel_rfl) (by kernel_rfl) (fun _ _ _ h => h) (Or.inr ⟨by rfl, rfl⟩) (by assumption) ?_
              try simp only [Act.put, List.getElem_toArray, List.getElem_cons_succ, List.getElem_cons_zero, List.setIfInBounds_toArray, List.set_cons_zero, List.set_cons_succ]
              refine wpAnyH_take (i := 14) (oi := _) (v := undef) rfl (by kernel_rfl) (by kernel_rfl) (by kernel_rfl) (fun _ _ _ h => h) (Or.inr ⟨by rfl, rfl⟩) (by assumption) ?_
              try simp only [Act.put, List.getElem_toArray, List.getElem_cons_succ, List.getElem_cons_zero, List.setIfInBounds_toArray, List.set_cons_zero, List.set_cons_succ]
              refine wpAnyH_take (i := 15) (oi := _) (v := undef) rfl (by kernel_rfl) (by kernel_rfl) (by kernel_rfl) (fun _ _ _ h => h) (Or.inr ⟨by rfl, rfl⟩) (by assumption) ?_
              try simp only [Act.put, List.getElem_toArray, List.getElem_cons_succ, List.getElem_cons_zero, List.setIfInBounds_toArray, List.set_cons_zero, List.set_cons_succ]
              refine wpAnyH_take (i := 16) (oi := _) (v := ?_) rfl (by kernel_rfl) (by kernel_rfl) (by kernel_rfl) (fun _ _ _ h => h) (Or.inl ⟨by rfl, ?_⟩) (by assumption) ?_
              rotate_left
              · intro w hSw; (try dsimp only at hSw); go_simp; (try with_reducible rfl)
              try simp only [Act.put, List.getElem_toArray, List.getElem_cons_succ, List.getElem_cons_zero, List.setIfInBounds_toArray, List.set_cons_zero, List.set_cons_succ]
              refine wpAnyH_take (i := 17) (oi := _) (v := ?_) rfl (by kernel_rfl) (by kernel_rfl) (by kernel_rfl) (fun _ _ _ h => h) (Or.inl ⟨by rfl, ?_⟩) (by assumption) ?_
              rotate_left
              · intro w hSw; (try dsimp only at hSw); go_simp; (try with_reducible rfl)
              try simp only [Act.put, List.getElem_toArray, List.getElem_cons_succ, List.getElem_cons_zero, List.setIfInBounds_toArray, List.set_cons_zero, List.set_cons_succ]
              refine wpAnyH_ready (rs := [18]) (by kernel_rfl) (by simp) ?_
              refine AllReadyH.cons (o := _) rfl (fun K hK => ?_) AllReadyH.nil
              go_simp
              refine hK.out _ _ ⟨(far3 (by omega) _ _ _ _ _).trans t0, (far3 (by omega) _ _ _ _ _).trans t1, (far3 (by omega) _ _ _ _ _).trans t2⟩ (fun hHeld => ?_)
              clear hK K
              try simp only [Act.put, List.getElem_toArray, List.getElem_cons_succ, List.getElem_cons_zero, List.setIfInBounds_toArray, List.set_cons_zero, List.set_cons_succ]
              refine wpAnyH_take (i := 19) (oi := _) (v := ?_) rfl (by kernel_rfl) (by kernel_rfl) (by kernel_rfl) (fun _ _ _ h => h) (Or.inl ⟨by rfl, ?_⟩) (by assumption) ?_
              rotate_left
              · intro w hSw; (try dsimp only at hSw); go_simp; (try with_reducible rfl)
              try simp only [Act.put, List.getElem_toArray, List.getElem_cons_succ, List.getElem_cons_zero, List.setIfInBounds_toArray, List.set_cons_zero, List.set_cons_succ]
              refine wpAnyH_take (i := 20) (oi := _) (v := ?_) rfl (by kernel_rfl) (by kernel_rfl) (by kernel_rfl) (fun _ _ _ h => h) (Or.inl ⟨by rfl, ?_⟩) (by assumption) ?_
              rotate_left
              · intro w hSw; (try dsimp only at hSw); go_simp; (try with_reducible rfl)
              try simp only [Act.put, List.getElem_toArray, List.getElem_cons_succ, List.getElem_cons_zero, List.setIfInBounds_toArray, List.set_cons_zero, List.set_cons_succ]
              refine wpAnyH_done (by kernel_rfl) ?_ _
              go_wp2_with fail
              have stf := st'.put (Nat.le_refl _) (by omega) (.int .i64 3) (.string ⟨t.toArray⟩) (.int .i64 i)
              refine bodyPost_ret (v := .tuple #[.agg #[.int .i64 3, .string ⟨t.toArray⟩, .int .i64 i], .int .i64 ((p : Int) + 1), .bool true]) (by simp [results, Tryz.results150, go_sem, q0, q1, q2]) rfl ?_
              rw [HT.out]; exact (show RQ (good (some ⟨3, t, p - i + 1, !partI (atI s ((p + 1 : Nat) : Int))⟩)) i w _ _ from RQ.got rfl rfl rfl (by have := HM.out; first | rfl | (push_cast; omega) | omega) (by simp only []; rw [HK.out, HP.out]; rfl) (below_to stf.below rfl))
end Go.Proofs.YtafofcenphopbaaGreatDoor
