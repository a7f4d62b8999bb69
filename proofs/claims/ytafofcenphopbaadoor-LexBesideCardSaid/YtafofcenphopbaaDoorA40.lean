/- slices.Concat of two, at tokens. -/
import Derived.Test.YtafofcenphopbaaDoorA37
import Derived.Shelf.Spec.SlicesGrow
import Derived.Laws.AppendOwnNone
import Derived.IntWalk
namespace Go.Proofs.YtafofcenphopbaaDoor
open Go.RowKit Lx

def Tryd.laysGrow_ren : Go.Shelf.Ren := ⟨fun | 4 => 72 | n => n, fun | 22 => 23 | 25 => 37 | n => n, fun | n => n⟩
theorem Tryd.laysGrow : Go.Proofs.Lays8.n4 Tryd.prog Tryd.laysGrow_ren := {
  mixed := by kernel_rfl
  f4 := ⟨Tryd.f72.name, by decide, Tryd.func72.trans (congrArg some (by kernel_rfl))⟩
  t0 := Tryd.underlying0
  a0 := Tryd.isAgg0
  z0 := Tryd.sizeOf0
  v0 := Tryd.zeroValue0
  t3 := Tryd.underlying3
  a3 := Tryd.isAgg3
  z3 := Tryd.sizeOf3
  v3 := Tryd.zeroValue3
  t4 := Tryd.underlying4
  a4 := Tryd.isAgg4
  z4 := Tryd.sizeOf4
  v4 := Tryd.zeroValue4
  t9 := Tryd.underlying9
  a9 := Tryd.isAgg9
  z9 := Tryd.sizeOf9
  v9 := Tryd.zeroValue9
  t20 := Tryd.underlying20
  a20 := Tryd.isAgg20
  z20 := Tryd.sizeOf20
  v20 := Tryd.zeroValue20
  t22 := Tryd.underlying23
  a22 := Tryd.isAgg23
  z22 := Tryd.sizeOf23
  v22 := Tryd.zeroValue23 }
theorem Grow_any (n : Nat) (hn : n ≤ 1000000) (w : World) : Calls Tryd.prog 72 #[.slice none 0 0, .int .i64 n] w fun e w' =>
    ∃ v, e = .returned v ∧ w'.ownsRow w.heap.size 37 3 v 0 [] ∧ Below w.heap.size w w' := by
  by_cases h0 : n = 0
  · subst h0
    refine (Any8.slices_Grow_room Tryd.laysGrow none 0 0 0 w (Nat.le_refl _) (by omega) (by omega) (by omega)).mono ?_
    rintro e w' ⟨rfl, rfl⟩
    exact ⟨_, rfl, World.ownsRow_nil _ _ _ _, Below.refl _ _⟩
  · obtain ⟨i0, hi0, hz0, hz1, hz2⟩ := info_parts infoT
    refine (Any8.slices_Grow_grow Tryd.laysGrow i0 _ hi0 hz0 (by omega) none 0 0 n [] w (Nat.le_refl _) (by omega) (by rw [hz2]; omega) (by omega) (by simp) (fun _ => rfl) (fun a h => by cases h)).mono ?_
    rintro e w' ⟨rfl, rfl⟩
    have hge := grownCap_ge w (0 + n) 0 37
    refine ⟨_, rfl, ⟨rfl, .inr ⟨w.heap.size, _, _, rfl, Nat.le_refl _, heap_alloc_new w.drew _, Nat.zero_le _, grownCap_le_maxLen _ _ _ _ (by unfold maxLen; omega), ?_, by simp⟩⟩, (below_drewN (Below.refl w.heap.size w) 1).alloc (Nat.le_refl _) _⟩
    show (([] : List Value).toArray ++ Builtin.zeroCells _ _ ++ Builtin.zeroCells _ _).size = grownCap w (0 + n) 0 37 * 3
    simp only [Array.size_append, size_zeroCells]
    show 0 + (0 + n - 0) * 3 + (grownCap w (0 + n) 0 37 - (0 + n)) * 3 = _
    omega
/-- A slice of tokens that the call built. -/
def Src (w : World) (v : Value) (ts : List T3) : Prop := (v = .slice none 0 0 ∧ ts = []) ∨ ∃ b off cap, v = .slice (some ⟨b, off, none⟩) ts.length cap ∧ b < w.heap.size ∧ ∀ j u, (rcells ts)[j]? = some u → w.cell? ⟨b, off + j, none⟩ = some u
theorem Src.below {w w' : World} {v : Value} {ts : List T3} {B : Nat} (h : Src w v ts) (hb : Below B w w') (hB : w.heap.size ≤ B) : Src w' v ts := by
  rcases h with h | ⟨b, off, cap, rfl, hlt, hc⟩
  · exact .inl h
  · refine .inr ⟨b, off, cap, rfl, Nat.lt_of_lt_of_le hlt hb.size, fun j u hu => ?_⟩
    rw [hb.cell (p := ⟨b, off + j, none⟩) (by show b < B; omega)]
    exact hc j u hu
theorem Src.of_own {w : World} {B : Nat} {v : Value} {ts : List T3} (h : w.ownsRow B 37 3 v ts.length (rcells ts)) : Src w v ts := by
  have hh := h
  rcases h.2 with ⟨rfl, h0⟩ | ⟨g, cap, cur, rfl, hB, hg, h1, h2, h3, h4⟩
  · exact .inl ⟨rfl, List.length_eq_zero_iff.1 h0⟩
  · refine .inr ⟨g, 0, cap, rfl, (Array.getElem?_eq_some_iff.1 hg).1, fun j u hu => ?_⟩
    rw [Nat.zero_add]
    have hj : j < ts.length * 3 := by rw [← rcells_length]; exact (List.getElem?_eq_some_iff.1 hu).1
    rw [hh.cellAt j hj]; exact hu
theorem Src.row {w : World} {v : Value} {ts : List T3} (h : Src w v ts) : TokRow w v ts := by
  rcases h with ⟨rfl, rfl⟩ | ⟨b, off, cap, rfl, hlt, hc⟩
  · exact ⟨none, 0, rfl, fun h => absurd rfl h⟩
  · refine ⟨_, cap, rfl, fun _ => ⟨b, off, rfl, hlt, fun j hj i u hu => ?_⟩⟩
    rw [Nat.add_assoc]; exact hc _ _ (rcells_get ts j hj i u hu)
theorem append_src {w : World} {ops : Array Oper} {rest : List Oper} {o : Oper} {a : Act} {Q : Exit → Act → World → Prop} (hgd : o.guard = none) (s x : Operand)
    (ho : o.op = .call { callee := .builtin .append, args := #[s, x], argTypes := #[23, 23] })
    (base : Nat) (v xv : Value) (n : Nat) (xs : List Value) (ts : List T3) (hs : a.eval s = v) (hown : w.ownsRow base 37 3 v n xs) (hx : a.eval x = xv) (hsrc : Src w xv ts)
    (hn : n + ts.length ≤ 1000000) (hbase : base ≤ w.heap.size) {w0 : World} (hb : Below base w0 w)
    (h : ∀ v' w', w'.ownsRow base 37 3 v' (n + ts.length) (xs ++ rcells ts) → Below base w0 w' → wpList Tryd.prog ops Q rest (a.put o.dst v') w') : wpList Tryd.prog ops Q (o :: rest) a w := by
  obtain ⟨i0, hi0, hz0, hz1, hz2⟩ := info_parts infoT
  rcases hsrc with ⟨rfl, rfl⟩ | ⟨b, off, cap, rfl, hlt, hc⟩
  · refine wpList_append_own_none hgd s x _ ho base _ i0 3 undTs hi0 v n xs hs hown hx ?_
    exact h v w (by simpa [rcells] using hown) hb
  · refine wpList_append_own _ hgd s x _ ho base _ i0 _ 3 32 undTs hi0 hz0 hz1 hz2 rfl (by decide) v n xs hs hown _ _ _ (rcells ts) hx (rcells_length ts) (fun j u hu => ?_) (rcells_one ts) (by unfold maxLen; omega) (by omega) hbase ?_
    · rw [Go.WideShapes.add_plain]; exact hc j u hu
    · intro v' w' own2 hg _
      exact h v' w' own2 (hb.grown hg hbase (fun k hk => (hown.lt k hk).1))
end Go.Proofs.YtafofcenphopbaaDoor
namespace Go.Proofs.YtafofcenphopbaaDoor
open Go.RowKit Lx

set_option maxHeartbeats 1000000 in
set_option maxRecDepth 100000 in
theorem Concat_any (xv yv : Value) (xs ys : List T3) (B : Nat) (w : World) (hB : w.heap[B]? = some (.cells #[xv, yv] 23)) (h1 : Src w xv xs) (h2 : Src w yv ys) (hx : xs.length ≤ 5000) (hy : ys.length ≤ 5000) :
    Calls Tryd.prog 36 #[.slice (some ⟨B, 0, none⟩) 2 2] w fun e w' => ∃ v, e = .returned v ∧ Src w' v (xs ++ ys) ∧ Below w.heap.size w w' := by
  have c0 : w.cell? ⟨B, 0, none⟩ = some xv := cell_of_row _ _ 0 _ _ _ hB
  have c1 : w.cell? ⟨B, 1, none⟩ = some yv := cell_of_row _ _ 1 _ _ _ hB
  obtain ⟨ax, cx, ex⟩ : ∃ ao cap, xv = .slice ao xs.length cap := by rcases h1.row with ⟨ao, cap, e, _⟩; exact ⟨ao, cap, e⟩
  obtain ⟨ay, cy, ey⟩ : ∃ ao cap, yv = .slice ao ys.length cap := by rcases h2.row with ⟨ao, cap, e, _⟩; exact ⟨ao, cap, e⟩
  subst ex ey
  have hlt : B < w.heap.size := (Array.getElem?_eq_some_iff.1 hB).1
  clear hB
  obtain ⟨nx, hnx⟩ : ∃ n, xs.length = n := ⟨_, rfl⟩
  obtain ⟨ny, hny⟩ : ∃ n, ys.length = n := ⟨_, rfl⟩
  rw [hnx] at h1 c0 hx
  rw [hny] at h2 c1 hy
  have H1 := Lib.hid h1
  have H2 := Lib.hid h2
  have NX := Lib.hid hnx
  have NY := Lib.hid hny
  clear h1 h2 hnx hny
  have s1 : IntKind.i64.wrap ((nx : Int) + (ny : Int)) = (nx : Int) + (ny : Int) := IntWalk.i64_in _ (by omega)
  have g0 : ¬ ((nx : Int) < 0) := by omega
  have g1 : ¬ ((nx : Int) + (ny : Int) < 0) := by omega
  go_enter Tryd.func36, Tryd.ntmps36
  go_wp2_with fail
  go_loopw [11, 3] (fun q s wr => w = wr ∧ ((q = .int .i64 0 ∧ s = .int .i64 0) ∨ (q = .int .i64 1 ∧ s = .int .i64 nx) ∨ (q = .int .i64 2 ∧ s = .int .i64 ((nx : Int) + (ny : Int))))) (fun q _ _ => 2 - (intOf q).toNat)
  case atStart => exact ⟨rfl, .inl ⟨rfl, rfl⟩⟩
  case round =>
    obtain ⟨rfl, ⟨rfl, rfl⟩ | ⟨rfl, rfl⟩ | ⟨rfl, rfl⟩⟩ := hrel
    · go_wp2_with fail
      go_roundw
      case rel => exact ⟨trivial, .inr (.inl ⟨rfl, rfl⟩)⟩
      case measure => simp [intOf]
    · go_wp2_with fail
      go_roundw
      case rel => exact ⟨trivial, .inr (.inr ⟨rfl, rfl⟩)⟩
      case measure => simp [intOf]
    · go_wp2_with fail
      refine (Grow_any (nx + ny) (by omega) w).mono ?_
      rintro e w1 ⟨v, rfl, own, hb⟩
      have T1 := Lib.hid (H1.out.below hb (Nat.le_refl _))
      have T2 := Lib.hid (H2.out.below hb (Nat.le_refl _))
      go_wp2_with fail
      go_loopw [27, 6] (fun q v wz => Below w.heap.size w wz ∧ ((q = .int .i64 0 ∧ wz.ownsRow w.heap.size 37 3 v 0 []) ∨ (q = .int .i64 1 ∧ wz.ownsRow w.heap.size 37 3 v nx (rcells xs)) ∨ (q = .int .i64 2 ∧ wz.ownsRow w.heap.size 37 3 v (nx + ny) (rcells xs ++ rcells ys)))) (fun q _ _ => 2 - (intOf q).toNat)
      case atStart => exact ⟨hb, .inl ⟨rfl, own⟩⟩
      case round =>
        obtain ⟨bz, ⟨rfl, oz⟩ | ⟨rfl, oz⟩ | ⟨rfl, oz⟩⟩ := hrel
        · have d0 := (bz.cell (p := ⟨B, 0, none⟩) hlt).trans c0
          have S1 := H1.out.below bz (Nat.le_refl _)
          have hz := bz.size
          go_wp2_with (at_builtin; refine append_src rfl _ _ rfl w.heap.size _ _ _ [] xs rfl oz rfl S1 (by rw [NX.out]; omega) hz bz ?_; intro v' w' own2 hb2)
          rw [NX.out, Nat.zero_add, List.nil_append] at own2
          go_roundw
          case rel => exact ⟨hb2, .inr (.inl ⟨rfl, own2⟩)⟩
          case measure => simp [intOf]
        · have d0 := (bz.cell (p := ⟨B, 1, none⟩) hlt).trans c1
          have S1 := H2.out.below bz (Nat.le_refl _)
          have hz := bz.size
          go_wp2_with (at_builtin; refine append_src rfl _ _ rfl w.heap.size _ _ _ (rcells xs) ys rfl oz rfl S1 (by rw [NY.out]; omega) hz bz ?_; intro v' w' own2 hb2)
          rw [NY.out] at own2
          go_roundw
          case rel => exact ⟨hb2, .inr (.inr ⟨rfl, own2⟩)⟩
          case measure => simp [intOf]
        · have hs : Src wr _ (xs ++ ys) := Src.of_own (B := w.heap.size) (by rw [List.length_append, NX.out, NY.out, rcells_app]; exact oz)
          have HS := Lib.hid hs
          clear hs oz
          go_wp2_with fail
          go_ret
          exact ⟨_, rfl, HS.out, bz⟩
end Go.Proofs.YtafofcenphopbaaDoor
