/- slices.Equal at tokens. -/
import Derived.Test.YtafofcenphopbaaGreatDoorA12
import Derived.Shelf.SlicesQ.Equal
import Derived.Laws.StructEq
namespace Go.Proofs.YtafofcenphopbaaGreatDoor
open Go.RowKit Lx

/-- A token as a caller may hand it in: whatever place. -/
structure T3 where
  kind : Int
  text : ByteArray
  at_ : Int
deriving DecidableEq, Inhabited
def Tok.t3 (t : Tok) : T3 := ⟨t.kind, t.text, t.at_⟩
def Tryz.laysEqTok_ren : Go.Shelf.Ren := ⟨fun | 8 => 18 | n => n, fun | 22 => 22 | 24 => 24 | 4 => 4 | 3 => 3 | 0 => 0 | n => n, fun | n => n⟩
theorem Tryz.laysEqTok : Go.Proofs.SlLaysQ.n8 Tryz.prog Tryz.laysEqTok_ren := {
  mixed := by kernel_rfl
  f8 := ⟨Tryz.f18.name, by decide, Tryz.func18.trans (congrArg some (by kernel_rfl))⟩
  t0 := Tryz.underlying0
  a0 := Tryz.isAgg0
  z0 := Tryz.sizeOf0
  v0 := Tryz.zeroValue0
  t3 := Tryz.underlying3
  a3 := Tryz.isAgg3
  z3 := Tryz.sizeOf3
  v3 := Tryz.zeroValue3
  t4 := Tryz.underlying4
  a4 := Tryz.isAgg4
  z4 := Tryz.sizeOf4
  v4 := Tryz.zeroValue4
  t22 := Tryz.underlying22
  a22 := Tryz.isAgg22
  z22 := Tryz.sizeOf22
  v22 := Tryz.zeroValue22 }

def tokv (t : T3) : List Value := [.int .i64 t.kind, .string t.text, .int .i64 t.at_]
theorem eqTok : Go.Proofs.NeqAt Tryz.prog 24 (fun x => .agg (tokv x).toArray) (fun x y => decide (x = y)) := by
  refine ⟨fun x y w => ?_, GuardAt.agg _ (by kernel_rfl)⟩
  have u3 := Tryz.underlying3
  have a3 := Tryz.isAgg3
  have z3 := Tryz.sizeOf3
  have hS : Tryz.prog.underlying 24 = some (.struct (Tryz.prog.fieldsOf 24)) := by kernel_rfl
  have hp : Tryz.prog.stoodInHeld 24 = false := by kernel_rfl
  obtain ⟨k, t, a⟩ := x
  obtain ⟨k', t', a'⟩ := y
  simp only [tokv]
  rw [run_neq_struct, show (10000 : Nat) = 9999 + 1 from rfl, run_equalIn_agg w 9999 24 _ _ hS hp]
  simp only [Program.fieldsOf, Tryz.underlying24]
  go_simp
  have ht : (t.toList = t'.toList) = (t = t') := by rw [ByteArray.toList_eq, ByteArray.toList_eq]; obtain ⟨⟨x⟩⟩ := t; obtain ⟨⟨y⟩⟩ := t'; simp
  by_cases h1 : k = k' <;> by_cases h2 : t = t' <;> by_cases h3 : a = a' <;> simp [h1, h2, h3, ht]

def rcells (ts : List T3) : List Value := ts.flatMap tokv
theorem rcells_tcells (ts : List Tok) : tcells ts = rcells (ts.map Tok.t3) := by simp [tcells, rcells, tokv, Tok.t3, List.flatMap_map]
/-- A slice of tokens, its cells readable. -/
def TokRow (w : World) (v : Value) (ts : List T3) : Prop := ∃ ao cap, v = .slice ao ts.length cap ∧ (ts ≠ [] → ∃ b off, ao = some ⟨b, off, none⟩ ∧ b < w.heap.size ∧
  ∀ j, j < ts.length → ∀ i u, (tokv ts[j]!)[i]? = some u → w.cell? ⟨b, off + j * 3 + i, none⟩ = some u)
theorem TokRow.below {w w' : World} {v : Value} {ts : List T3} {B : Nat} (h : TokRow w v ts) (hb : Below B w w') (hB : w.heap.size ≤ B) : TokRow w' v ts := by
  obtain ⟨ao, cap, rfl, h⟩ := h
  refine ⟨ao, cap, rfl, fun hne => ?_⟩
  obtain ⟨b, off, e, hlt, hc⟩ := h hne
  refine ⟨b, off, e, Nat.lt_of_lt_of_le hlt hb.size, fun j hj i u hu => ?_⟩
  rw [hb.cell (p := ⟨b, off + j * 3 + i, none⟩) (by show b < B; omega)]
  exact hc j hj i u hu
theorem TokRow.drewN {w : World} {v : Value} {ts : List T3} (h : TokRow w v ts) (n : Nat) : TokRow (w.drewN n) v ts := h
theorem rcells_get (ts : List T3) : ∀ (j : Nat), j < ts.length → ∀ i u, (tokv ts[j]!)[i]? = some u → (rcells ts)[j * 3 + i]? = some u := by
  induction ts with
  | nil => intro j h; cases h
  | cons t ts ih =>
    intro j h i u hu
    cases j with
    | zero =>
      have hi : i < 3 := by
        have := (List.getElem?_eq_some_iff.1 hu).1
        simpa [tokv] using this
      rw [show rcells (t :: ts) = tokv t ++ rcells ts from rfl, List.getElem?_append_left (by simp [tokv]; omega)]
      simpa using hu
    | succ j =>
      have := ih j (by simpa using h) i u (by simpa using hu)
      rw [show rcells (t :: ts) = tokv t ++ rcells ts from rfl, List.getElem?_append_right (by simp [tokv]; omega)]
      rw [← this]
      congr 1
      simp [tokv]; omega
theorem TokRow.of_own {w : World} {B : Nat} {v : Value} {ts : List T3} (h : w.ownsRow B 24 3 v ts.length (rcells ts)) : TokRow w v ts := by
  obtain ⟨ao, cap, rfl⟩ := own_form h
  refine ⟨ao, cap, rfl, fun hne => ?_⟩
  have hl : 0 < ts.length := List.length_pos_iff.2 hne
  rcases h.2 with ⟨_, h0⟩ | ⟨g, cap', cur, hv, hB, hg, rest⟩
  · omega
  · injection hv with e1 e2 e3
    subst e1
    refine ⟨g, 0, rfl, (Array.getElem?_eq_some_iff.1 hg).1, fun j hj i u hu => ?_⟩
    have := h.cells (g := g) rfl _ _ (rcells_get ts j hj i u hu)
    have e : ∀ n, (⟨g, 0, none⟩ : Addr).add n = ⟨g, n, none⟩ := fun n => by unfold Addr.add; split <;> simp_all
    rw [e] at this
    rw [Nat.zero_add]; exact this
theorem allEq_dec (xs ys : List T3) : Lib.allEq (fun x y => decide (x = y)) xs ys = decide (xs = ys) := by
  induction xs generalizing ys with
  | nil => cases ys <;> simp [Lib.allEq]
  | cons x xs ih => cases ys with
    | nil => simp [Lib.allEq]
    | cons y ys => simp [Lib.allEq, ih]
set_option maxHeartbeats 1000000 in
theorem EqualT_any (a b : Value) (xs ys : List T3) (w : World) (h1 : TokRow w a xs) (h2 : TokRow w b ys) (hx : xs.length ≤ 9223372036854775807) (hy : ys.length ≤ 9223372036854775807) :
    Calls Tryz.prog 18 #[a, b] w fun e w' => e = .returned (.bool (decide (xs = ys))) ∧ ∃ q, w' = w.drewN q := by
  obtain ⟨ao, ac, rfl, h1⟩ := h1
  obtain ⟨bo, bc, rfl, h2⟩ := h2
  by_cases hl : xs.length = ys.length
  · by_cases h0 : xs = []
    · subst h0
      have : ys = [] := List.eq_nil_of_length_eq_zero (by simpa using hl.symm)
      subst this
      go_enter Tryz.func18, Tryz.ntmps18
      go_wp2_with fail
      go_loopw [13] (fun q wr => q = .int .i64 0 ∧ wr = w) (fun _ _ => 0)
      case atStart => exact ⟨rfl, rfl⟩
      case round =>
        obtain ⟨rfl, rfl⟩ := hrel
        go_wp2_with fail
        go_ret
        exact ⟨rfl, 0, rfl⟩
    · have h0' : ys ≠ [] := fun e => h0 (List.eq_nil_of_length_eq_zero (by rw [hl, e]; rfl))
      obtain ⟨b1, o1, rfl, l1, c1⟩ := h1 h0
      obtain ⟨b2, o2, rfl, l2, c2⟩ := h2 h0'
      refine (AnyQ.slices_Equal Tryz.laysEqTok 3 Tryz.isAgg24 Tryz.sizeOf24 tokv (fun _ => rfl) _ eqTok b1 o1 xs.length ac b2 o2 ys.length bc xs ys w (Nat.le_refl _) (Nat.le_refl _) (by omega) (by omega) c1 c2).mono ?_
      rintro e w' ⟨rfl, q, rfl⟩
      exact ⟨by rw [List.take_length, List.take_length, allEq_dec], q, rfl⟩
  · have hd : decide (xs = ys) = false := decide_eq_false fun e => hl (by rw [e])
    have hl' : ¬ (xs.length : Int) = ys.length := by omega
    rw [hd]
    clear h1 h2 hd
    go_enter Tryz.func18, Tryz.ntmps18
    go_wp2_with fail
    go_ret
    exact ⟨rfl, 0, rfl⟩
end Go.Proofs.YtafofcenphopbaaGreatDoor
