/- Print: the builder's callees; what is printed so far. -/
import Derived.Test.YtafofcenphopbaaGreatDoorA28
import Derived.StillTailTactics
namespace Go.Proofs.YtafofcenphopbaaGreatDoor
open Go.RowKit Lx

def wbRen : Go.Shelf.Ren := ⟨fun | 167 => 40 | n => Tryz.lays154_ren.f n, Tryz.lays154_ren.t, Tryz.lays154_ren.g⟩
set_option maxRecDepth 100000 in
theorem WriteByte_any (B b : Nat) (bs : List Value) (c : Int) (w : World) (h : Lib.IsBuilderF 75 5 B b bs w) (hlen : bs.length + 1 ≤ 140737488355328) (hBw : B ≤ w.heap.size) :
    Calls Tryz.prog 40 #[.pointer (some ⟨b, 0, none⟩), .int .u8 c] w fun e w' => e = .returned .nilIface ∧ (Lib.BuilderAtF 75 5 B b (.pointer (some ⟨b, 0, none⟩)) (bs ++ [.int .u8 c]) w' ∧ Below B w w' ∧ Lib.OthersKept 5 (some b) w w') :=
  Any.Builder_WriteByte_k (ρ := wbRen) { Tryz.lays154 with f167 := Tryz.func40.trans (congrArg some (by kernel_rfl)) } { Tryz.Builder_Extra_154 with } B b bs c w h hlen hBw
/-- Ahead of a token: what stands between. -/
def sepB : Option (Int × ByteArray) → Int × ByteArray → Bs
  | none, _ => []
  | some p, a => if semiI p then [] else if tightK p a then [] else [32]
def nlB (a : Int × ByteArray) : Bs := if semiI a then [10] else []
theorem afterI_last (a : Int × ByteArray) : afterI a [] = nlB a := by unfold afterI nlB; rfl
theorem sepB_some (p a : Int × ByteArray) : sepB (some p) a = if semiI p then [] else if tightK p a then [] else [32] := rfl
theorem afterI_more (a b : Int × ByteArray) (r : List (Int × ByteArray)) : afterI a (b :: r) = nlB a ++ sepB (some a) b := by
  rw [afterI_cons, sepB_some]; unfold nlB
  by_cases h : semiI a = true
  · rw [if_pos h, if_pos h, if_pos h]; rfl
  · rw [if_neg h, if_neg h, if_neg h]; rfl
/-- One token more. -/
theorem printL_snoc : ∀ (x : List (Int × ByteArray)) (a : Int × ByteArray), printL (x ++ [a]) = printL x ++ (sepB x.getLast? a ++ (spl a ++ nlB a)) := by
  intro x
  induction x with
  | nil => intro a; show spl a ++ (afterI a [] ++ []) = _; rw [afterI_last]; simp [printL, sepB]
  | cons p r ih =>
    intro a
    cases r with
    | nil =>
      show spl p ++ (afterI p [a] ++ (spl a ++ (afterI a [] ++ []))) = (spl p ++ (afterI p [] ++ [])) ++ _
      rw [afterI_more, afterI_last, afterI_last]
      simp [List.getLast?]
    | cons q r =>
      rw [List.cons_append, printL_cons, ih]
      show spl p ++ (afterI p (q :: (r ++ [a])) ++ _) = _
      rw [printL_cons p (q :: r), afterI_more, afterI_more]
      simp [List.getLast?]
theorem printL_take (l : List (Int × ByteArray)) (k : Nat) (h : k < l.length) : printL (l.take (k + 1)) = printL (l.take k) ++ (sepB (l.take k).getLast? l[k] ++ (spl l[k] ++ nlB l[k])) := by
  rw [List.take_succ_eq_append_getElem h, printL_snoc]
theorem printL_mono (l : List (Int × ByteArray)) : ∀ d k, k + d ≤ l.length → (printL (l.take k)).length ≤ (printL (l.take (k + d))).length := by
  intro d
  induction d with
  | zero => intro k _; exact Nat.le_refl _
  | succ d ih =>
    intro k h
    have h1 := ih k (by omega)
    have h2 := printL_take l (k + d) (by omega)
    rw [show k + (d + 1) = k + d + 1 from rfl, h2, List.length_append]; omega
theorem take_last (l : List (Int × ByteArray)) (k : Nat) (h : k < l.length) : (l.take (k + 1)).getLast? = some l[k] := by
  rw [List.take_succ_eq_append_getElem h, List.getLast?_concat]
def kt3 (t : T3) : Int × ByteArray := (t.kind, t.text)
theorem allEq_kt (ts : List Tok) (x y : T3) : Lib.allEq sameI (ts.map Tok.t3) [x, y] = decide (ts.map kt = [kt3 x, kt3 y]) := by
  match ts with
  | [] => rfl
  | [a] => simp [Lib.allEq]
  | a :: b :: c :: r => simp [Lib.allEq]
  | [a, b] =>
    rw [Bool.eq_iff_iff]
    simp [Lib.allEq, Tok.t3, sameI, kt, kt3, and_assoc]
theorem tightI_K (x y : T3) : tightI x y = tightK (kt3 x) (kt3 y) := by
  unfold tightI tightK
  rw [allEq_kt]
  show (decide _ && decide _) = (decide ((scanR (spellI x.kind x.text ++ spellI y.kind y.text)).err = 0) && _)
  by_cases he : (scanR (spellI x.kind x.text ++ spellI y.kind y.text)).err = 0
  · have e1 : outT (spellI x.kind x.text ++ spellI y.kind y.text) = (scanR (spellI x.kind x.text ++ spellI y.kind y.text)).toks := by unfold outT; rw [if_pos he]
    rw [e1]; rfl
  · simp [he]
end Go.Proofs.YtafofcenphopbaaGreatDoor
