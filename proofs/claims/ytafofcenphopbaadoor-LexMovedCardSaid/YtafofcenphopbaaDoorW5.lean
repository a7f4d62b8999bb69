/- LexMoved: the walk. -/
import Derived.Test.YtafofcenphopbaaDoorA36
import Derived.Test.YtafofcenphopbaaDoorL6
import Derived.IntWalk
import Derived.Deep.RegionHeld3
namespace Go.Proofs.YtafofcenphopbaaDoor
open Go.RowKit Lx

set_option maxHeartbeats 1000000 in
set_option maxRecDepth 100000 in
theorem LexMoved_out (s : ByteArray) (i a : Int) (w : World) (hml : ML w) (h : 2000 < s.size ∨ i < 0 ∨ (s.size : Int) < i ∨ a < 0 ∨ i < a) : Calls Tryd.prog 8 #[.string s, .int .i64 i, .int .i64 a] w fun e w' => e = .returned (.bool true) ∧ Below w.heap.size w w' := by
  by_cases h1 : (2000 : Int) < (s.size : Int)
  · clear h
    go_enter Tryd.func8, Tryd.ntmps8
    go_wp2_with (go_at_call 13; refine (sane_any _ hml).mono ?_; rintro e w1 ⟨rfl, bb⟩)
    go_ret
    exact ⟨rfl, bb⟩
  by_cases h2 : i < 0
  · clear h
    go_enter Tryd.func8, Tryd.ntmps8
    go_wp2_with (go_at_call 13; refine (sane_any _ hml).mono ?_; rintro e w1 ⟨rfl, bb⟩)
    go_ret
    exact ⟨rfl, bb⟩
  by_cases h3 : (s.size : Int) < i
  · clear h
    have h2' : 0 ≤ i := by omega
    go_enter Tryd.func8, Tryd.ntmps8
    go_wp2_with (go_at_call 13; refine (sane_any _ hml).mono ?_; rintro e w1 ⟨rfl, bb⟩)
    go_ret
    exact ⟨rfl, bb⟩
  by_cases h4 : a < 0
  · clear h
    have h2' : 0 ≤ i := by omega
    have h3' : i ≤ (s.size : Int) := by omega
    go_enter Tryd.func8, Tryd.ntmps8
    go_wp2_with (go_at_call 13; refine (sane_any _ hml).mono ?_; rintro e w1 ⟨rfl, bb⟩)
    go_ret
    exact ⟨rfl, bb⟩
  have h5 : i < a := by omega
  clear h
  have h2' : 0 ≤ i := by omega
  have h3' : i ≤ (s.size : Int) := by omega
  have h4' : 0 ≤ a := by omega
  go_enter Tryd.func8, Tryd.ntmps8
  go_wp2_with (go_at_call 13; refine (sane_any _ hml).mono ?_; rintro e w1 ⟨rfl, bb⟩)
  go_ret
  exact ⟨rfl, bb⟩
theorem ins_list (s : ByteArray) (a : Nat) (c : UInt8) (h : a ≤ s.size) : (s.extract 0 a ++ ⟨#[c]⟩ ++ s.extract a s.size).data.toList = s.data.toList.take a ++ c :: s.data.toList.drop a := by
  rw [show (s.extract 0 a ++ ⟨#[c]⟩ ++ s.extract a s.size).data.toList = (s.extract 0 a).data.toList ++ [c] ++ (s.extract a s.size).data.toList from by simp [ByteArray.data_append], extract_pre, extract_end]
  simp
theorem spot_set {w : World} {b : Nat} {x y : Value} {T : TypeId} (h : w.heap[b]? = some (.cells #[x, y] T)) (u v : Value) : ((w.setCell ⟨b, 0, none⟩ u).setCell ⟨b, 1, none⟩ v).heap[b]? = some (.cells #[u, v] T) := by
  simp [World.setCell, Array.getElem?_modify, h]
set_option maxHeartbeats 4000000 in
set_option maxRecDepth 100000 in
theorem LexMoved_same (s : ByteArray) (a dd fl fc : Nat) (w : World) (hml : ML w) (hs : s.size ≤ 2000) (hfl : fl ≤ 2001) (hfc : fc ≤ 2001) (had : a + dd ≤ s.size) (h1 : ∀ W, Calls Tryd.prog 32 #[.string s, .int .i64 ((a : Int) + (dd : Int))] W fun e w' => e = .returned (.tuple #[.agg #[.int .i64 fl, .int .i64 ((fc : Int) + (dd : Int))], .int .i64 0]) ∧ Below W.heap.size W w') (h2 : ∀ W, Calls Tryd.prog 33 #[.string s, .agg #[.int .i64 fl, .int .i64 ((fc : Int) + (dd : Int))]] W fun e w' => e = .returned (.tuple #[.int .i64 ((a : Int) + (dd : Int)), .int .i64 0]) ∧ Below W.heap.size W w') (h3 : ∀ W, Calls Tryd.prog 32 #[.string s, .int .i64 a] W fun e w' => e = .returned (.tuple #[.agg #[.int .i64 fl, .int .i64 fc], .int .i64 0]) ∧ Below W.heap.size W w') (h4 : ∀ W, Calls Tryd.prog 32 #[.string (s.extract 0 a ++ ⟨#[32]⟩ ++ s.extract a s.size), .int .i64 ((a : Int) + (dd : Int) + 1)] W fun e w' => e = .returned (.tuple #[.agg #[.int .i64 fl, .int .i64 ((fc : Int) + (dd : Int) + 1)], .int .i64 0]) ∧ Below W.heap.size W w') (h5 : ∀ W, Calls Tryd.prog 32 #[.string (s.extract 0 a ++ ⟨#[10]⟩ ++ s.extract a s.size), .int .i64 ((a : Int) + (dd : Int) + 1)] W fun e w' => e = .returned (.tuple #[.agg #[.int .i64 ((fl : Int) + 1), .int .i64 ((dd : Int) + 1)], .int .i64 0]) ∧ Below W.heap.size W w') :
    Calls Tryd.prog 8 #[.string s, .int .i64 ((a : Int) + (dd : Int)), .int .i64 a] w fun e w' => e = .returned (.bool true) ∧ Below w.heap.size w w' := by
  have H1 := Lib.hid h1
  have H2 := Lib.hid h2
  have H3 := Lib.hid h3
  have H4 := Lib.hid h4
  have H5 := Lib.hid h5
  clear h1 h2 h3 h4 h5
  have g1 : ¬ (2000 : Int) < (s.size : Int) := by omega
  have g2 : ¬ ((a : Int) + (dd : Int)) < 0 := by omega
  have g3 : ((a : Int) + (dd : Int)) ≤ (s.size : Int) := by omega
  have g4 : (0 : Int) ≤ (a : Int) := by omega
  have g5 : (0 : Int) ≤ (dd : Int) := by omega
  have g6 : (a : Int) ≤ (s.size : Int) := by omega
  go_enter Tryd.func8, Tryd.ntmps8
  go_wp2_with (go_at_call 13; refine (sane_any _ hml).mono ?_; rintro e w1 ⟨rfl, bb⟩)
  refine (H1.out _).mono ?_
  rintro e w2 ⟨rfl, hb⟩
  have bb := bb.trans (hb.mono bb.size)
  clear hb
  go_upto_region 6 with fail
  have n2 := heap_alloc_new w2 (.cells #[.int .i64 fl, .int .i64 ((fc : Int) + (dd : Int))] 45)
  have b2 := below_box w2 (.cells #[.int .i64 fl, .int .i64 ((fc : Int) + (dd : Int))] 45)
  have bb := bb.trans (b2.mono bb.size)
  clear b2
  generalize w2.alloc (.cells #[.int .i64 fl, .int .i64 ((fc : Int) + (dd : Int))] 45) = w3 at n2 bb ⊢
  have p0 : w3.cell? ⟨w2.heap.size, 0, none⟩ = some (.int .i64 fl) := cell_of_row _ _ 0 _ _ _ n2
  have p1 : w3.cell? ⟨w2.heap.size, 1, none⟩ = some (.int .i64 ((fc : Int) + (dd : Int))) := cell_of_row _ _ 1 _ _ _ n2
  have N2 := Lib.hid n2
  generalize w2.heap.size = B2 at n2 N2 p0 p1 ⊢
  clear n2
  go_wp2_with fail
  refine (H2.out _).mono ?_
  rintro e w4 ⟨rfl, hb⟩
  have bb := bb.trans (hb.mono bb.size)
  have N2 := Lib.hid ((hb.block _ (Array.getElem?_eq_some_iff.1 N2.out).1).trans N2.out)
  clear hb p0 p1
  go_wp2_with fail
  refine (H3.out _).mono ?_
  rintro e w5 ⟨rfl, hb⟩
  have bb := bb.trans (hb.mono bb.size)
  have n2 := (hb.block _ (Array.getElem?_eq_some_iff.1 N2.out).1).trans N2.out
  clear hb N2
  go_upto_region 8 with fail
  have n3 := heap_alloc_new w5 (.cells #[.int .i64 fl, .int .i64 fc] 45)
  have b3 := below_box w5 (.cells #[.int .i64 fl, .int .i64 fc] 45)
  have n2 := (b3.block _ (Array.getElem?_eq_some_iff.1 n2).1).trans n2
  have bb := bb.trans (b3.mono bb.size)
  clear b3
  generalize w5.alloc (.cells #[.int .i64 fl, .int .i64 fc] 45) = w6 at n2 n3 bb ⊢
  generalize w5.heap.size = B3 at n3 ⊢
  have p0 : w6.cell? ⟨B2, 0, none⟩ = some (.int .i64 fl) := cell_of_row _ _ 0 _ _ _ n2
  have p1 : w6.cell? ⟨B2, 1, none⟩ = some (.int .i64 ((fc : Int) + (dd : Int))) := cell_of_row _ _ 1 _ _ _ n2
  have f0 : w6.cell? ⟨B3, 0, none⟩ = some (.int .i64 fl) := cell_of_row _ _ 0 _ _ _ n3
  have f1 : w6.cell? ⟨B3, 1, none⟩ = some (.int .i64 fc) := cell_of_row _ _ 1 _ _ _ n3
  have N2 := Lib.hid n2
  have N3 := Lib.hid n3
  clear n2 n3
  go_upto_region 10 with fail
  have z3 : IntKind.i64.wrap (((a : Int) + (dd : Int)) + 1) = ((a : Int) + (dd : Int)) + 1 := IntWalk.i64_in _ (by omega)
  have q1 : ¬ 9223372036854775807 < (s.extract 0 a).size + 1 := by simp; omega
  have q2 : ¬ 9223372036854775807 < min a s.size + 1 := by omega
  have q3 : ¬ 9223372036854775807 < min a s.size + 1 + (s.size - a) := by omega
  have q4 : ¬ 9223372036854775807 < (s.extract 0 a).size + 1 + (s.extract a s.size).size := by simp; omega
  clear p0 p1 f0 f1
  all_goals have bA := below_box w6 (.cells #[.int .i64 0, .int .i64 0] 45)
  all_goals have nA := heap_alloc_new w6 (.cells #[.int .i64 0, .int .i64 0] 45)
  all_goals have lA := (Array.getElem?_eq_some_iff.1 nA).1
  all_goals go_region_held3 (fun w' => 0 ≤ w'.heap.size) (exact Nat.zero_le _) (first | (go_at_call 32; refine (H4.out _).mono ?_; rintro e w' ⟨rfl, hb⟩; have hB : Below w6.heap.size w6 w' := (below_drewN (Below.refl _ _) 1).trans hb) | (go_at_call 32; refine (H4.out _).mono ?_; rintro e w' ⟨rfl, hb⟩; have hB : Below w6.heap.size w6 w' := (below_drewN bA 1).trans (hb.mono bA.size); have nn := (hb.block _ lA).trans nA; have u0 : w'.cell? ⟨w6.heap.size, 0, none⟩ = some (.int .i64 0) := cell_of_row _ _ 0 _ _ _ nn; have u1 : w'.cell? ⟨w6.heap.size, 1, none⟩ = some (.int .i64 0) := cell_of_row _ _ 1 _ _ _ nn; have v0 := Lib.frozen_of_heap nn 0; have v1 := Lib.frozen_of_heap nn 1))
  all_goals clear hb nA lA bA
  all_goals first
    | (have nX := spot_set nn (.int .i64 fl) (.int .i64 ((fc : Int) + (dd : Int) + 1))
       have bX : Below w6.heap.size w6 ((w'.setCell ⟨w6.heap.size, 0, none⟩ (.int .i64 fl)).setCell ⟨w6.heap.size, 1, none⟩ (.int .i64 ((fc : Int) + (dd : Int) + 1))) := (hB.setCell (p := ⟨w6.heap.size, 0, none⟩) (Nat.le_refl _) _).setCell (p := ⟨w6.heap.size, 1, none⟩) (Nat.le_refl _) _
       clear u0 u1 v0 v1 nn hB
       generalize ((w'.setCell ⟨w6.heap.size, 0, none⟩ (.int .i64 fl)).setCell ⟨w6.heap.size, 1, none⟩ (.int .i64 ((fc : Int) + (dd : Int) + 1))) = w7 at nX bX ⊢
       generalize w6.heap.size = B4 at nX ⊢)
    | (have nX := heap_alloc_new w' (.cells #[.int .i64 fl, .int .i64 ((fc : Int) + (dd : Int) + 1)] 45)
       have bX : Below w6.heap.size w6 (w'.alloc (.cells #[.int .i64 fl, .int .i64 ((fc : Int) + (dd : Int) + 1)] 45)) := hB.trans ((below_box w' (.cells #[.int .i64 fl, .int .i64 ((fc : Int) + (dd : Int) + 1)] 45)).mono hB.size)
       clear hB
       generalize w'.alloc (.cells #[.int .i64 fl, .int .i64 ((fc : Int) + (dd : Int) + 1)] 45) = w7 at nX bX ⊢
       generalize w'.heap.size = B4 at nX ⊢)
  all_goals have bb := bb.trans (bX.mono bb.size)
  all_goals have N2 := Lib.hid ((bX.block _ (Array.getElem?_eq_some_iff.1 N2.out).1).trans N2.out)
  all_goals have N3 := Lib.hid ((bX.block _ (Array.getElem?_eq_some_iff.1 N3.out).1).trans N3.out)
  all_goals have N4 := Lib.hid nX
  all_goals clear nX bX
  all_goals go_upto_region 11 with fail
  all_goals have bA := below_box w7 (.cells #[.int .i64 0, .int .i64 0] 45)
  all_goals have nA := heap_alloc_new w7 (.cells #[.int .i64 0, .int .i64 0] 45)
  all_goals have lA := (Array.getElem?_eq_some_iff.1 nA).1
  all_goals go_region_held3 (fun w' => 0 ≤ w'.heap.size) (exact Nat.zero_le _) (first | (go_at_call 32; refine (H5.out _).mono ?_; rintro e w' ⟨rfl, hb⟩; have hB : Below w7.heap.size w7 w' := (below_drewN (Below.refl _ _) 1).trans hb) | (go_at_call 32; refine (H5.out _).mono ?_; rintro e w' ⟨rfl, hb⟩; have hB : Below w7.heap.size w7 w' := (below_drewN bA 1).trans (hb.mono bA.size); have nn := (hb.block _ lA).trans nA; have u0 : w'.cell? ⟨w7.heap.size, 0, none⟩ = some (.int .i64 0) := cell_of_row _ _ 0 _ _ _ nn; have u1 : w'.cell? ⟨w7.heap.size, 1, none⟩ = some (.int .i64 0) := cell_of_row _ _ 1 _ _ _ nn; have v0 := Lib.frozen_of_heap nn 0; have v1 := Lib.frozen_of_heap nn 1))
  all_goals clear hb nA lA bA
  all_goals first
    | (have nX := spot_set nn (.int .i64 ((fl : Int) + 1)) (.int .i64 ((dd : Int) + 1))
       have bX : Below w7.heap.size w7 ((w'.setCell ⟨w7.heap.size, 0, none⟩ (.int .i64 ((fl : Int) + 1))).setCell ⟨w7.heap.size, 1, none⟩ (.int .i64 ((dd : Int) + 1))) := (hB.setCell (p := ⟨w7.heap.size, 0, none⟩) (Nat.le_refl _) _).setCell (p := ⟨w7.heap.size, 1, none⟩) (Nat.le_refl _) _
       clear u0 u1 v0 v1 nn hB
       generalize ((w'.setCell ⟨w7.heap.size, 0, none⟩ (.int .i64 ((fl : Int) + 1))).setCell ⟨w7.heap.size, 1, none⟩ (.int .i64 ((dd : Int) + 1))) = w8 at nX bX ⊢
       generalize w7.heap.size = B5 at nX ⊢)
    | (have nX := heap_alloc_new w' (.cells #[.int .i64 ((fl : Int) + 1), .int .i64 ((dd : Int) + 1)] 45)
       have bX : Below w7.heap.size w7 (w'.alloc (.cells #[.int .i64 ((fl : Int) + 1), .int .i64 ((dd : Int) + 1)] 45)) := hB.trans ((below_box w' (.cells #[.int .i64 ((fl : Int) + 1), .int .i64 ((dd : Int) + 1)] 45)).mono hB.size)
       clear hB
       generalize w'.alloc (.cells #[.int .i64 ((fl : Int) + 1), .int .i64 ((dd : Int) + 1)] 45) = w8 at nX bX ⊢
       generalize w'.heap.size = B5 at nX ⊢)
  all_goals have bb := bb.trans (bX.mono bb.size)
  all_goals have N2 := Lib.hid ((bX.block _ (Array.getElem?_eq_some_iff.1 N2.out).1).trans N2.out)
  all_goals have N3 := Lib.hid ((bX.block _ (Array.getElem?_eq_some_iff.1 N3.out).1).trans N3.out)
  all_goals have N4 := Lib.hid ((bX.block _ (Array.getElem?_eq_some_iff.1 N4.out).1).trans N4.out)
  all_goals have N5 := Lib.hid nX
  all_goals clear nX bX
  all_goals (
    have p0 : w8.cell? ⟨B2, 0, none⟩ = some (.int .i64 fl) := cell_of_row _ _ 0 _ _ _ N2.out
    have p1 : w8.cell? ⟨B2, 1, none⟩ = some (.int .i64 ((fc : Int) + (dd : Int))) := cell_of_row _ _ 1 _ _ _ N2.out
    have f0 : w8.cell? ⟨B3, 0, none⟩ = some (.int .i64 fl) := cell_of_row _ _ 0 _ _ _ N3.out
    have f1 : w8.cell? ⟨B3, 1, none⟩ = some (.int .i64 fc) := cell_of_row _ _ 1 _ _ _ N3.out
    have e0 : w8.cell? ⟨B4, 0, none⟩ = some (.int .i64 fl) := cell_of_row _ _ 0 _ _ _ N4.out
    have e1 : w8.cell? ⟨B4, 1, none⟩ = some (.int .i64 ((fc : Int) + (dd : Int) + 1)) := cell_of_row _ _ 1 _ _ _ N4.out
    have r0 : w8.cell? ⟨B5, 0, none⟩ = some (.int .i64 ((fl : Int) + 1)) := cell_of_row _ _ 0 _ _ _ N5.out
    have r1 : w8.cell? ⟨B5, 1, none⟩ = some (.int .i64 ((dd : Int) + 1)) := cell_of_row _ _ 1 _ _ _ N5.out
    go_wp2_with fail
    go_ret
    refine ⟨?_, bb⟩
    simp <;> omega)
set_option maxHeartbeats 4000000 in
set_option maxRecDepth 100000 in
theorem LexMoved_other (s : ByteArray) (a dd fl fc pl pc : Nat) (w : World) (hml : ML w) (hs : s.size ≤ 2000) (hfl : fl ≤ 2001) (hfc : fc ≤ 2001) (hpc : pc ≤ 2001) (hlt : fl < pl) (hpl : pl ≤ 2001) (had : a + dd ≤ s.size) (h1 : ∀ W, Calls Tryd.prog 32 #[.string s, .int .i64 ((a : Int) + (dd : Int))] W fun e w' => e = .returned (.tuple #[.agg #[.int .i64 pl, .int .i64 (pc : Int)], .int .i64 0]) ∧ Below W.heap.size W w') (h2 : ∀ W, Calls Tryd.prog 33 #[.string s, .agg #[.int .i64 pl, .int .i64 (pc : Int)]] W fun e w' => e = .returned (.tuple #[.int .i64 ((a : Int) + (dd : Int)), .int .i64 0]) ∧ Below W.heap.size W w') (h3 : ∀ W, Calls Tryd.prog 32 #[.string s, .int .i64 a] W fun e w' => e = .returned (.tuple #[.agg #[.int .i64 fl, .int .i64 fc], .int .i64 0]) ∧ Below W.heap.size W w') (h4 : ∀ W, Calls Tryd.prog 32 #[.string (s.extract 0 a ++ ⟨#[32]⟩ ++ s.extract a s.size), .int .i64 ((a : Int) + (dd : Int) + 1)] W fun e w' => e = .returned (.tuple #[.agg #[.int .i64 pl, .int .i64 (pc : Int)], .int .i64 0]) ∧ Below W.heap.size W w') (h5 : ∀ W, Calls Tryd.prog 32 #[.string (s.extract 0 a ++ ⟨#[10]⟩ ++ s.extract a s.size), .int .i64 ((a : Int) + (dd : Int) + 1)] W fun e w' => e = .returned (.tuple #[.agg #[.int .i64 ((pl : Int) + 1), .int .i64 (pc : Int)], .int .i64 0]) ∧ Below W.heap.size W w') :
    Calls Tryd.prog 8 #[.string s, .int .i64 ((a : Int) + (dd : Int)), .int .i64 a] w fun e w' => e = .returned (.bool true) ∧ Below w.heap.size w w' := by
  have H1 := Lib.hid h1
  have H2 := Lib.hid h2
  have H3 := Lib.hid h3
  have H4 := Lib.hid h4
  have H5 := Lib.hid h5
  clear h1 h2 h3 h4 h5
  have g1 : ¬ (2000 : Int) < (s.size : Int) := by omega
  have g2 : ¬ ((a : Int) + (dd : Int)) < 0 := by omega
  have g3 : ((a : Int) + (dd : Int)) ≤ (s.size : Int) := by omega
  have g4 : (0 : Int) ≤ (a : Int) := by omega
  have g5 : (0 : Int) ≤ (dd : Int) := by omega
  have g6 : (a : Int) ≤ (s.size : Int) := by omega
  have g7 : ((fl : Int) == (pl : Int)) = false := by simp; omega
  have g8 : ¬ (pl : Int) < (fl : Int) := by omega
  have g9 : decide ((pl : Int) < (fl : Int)) = false := by simp; omega
  go_enter Tryd.func8, Tryd.ntmps8
  go_wp2_with (go_at_call 13; refine (sane_any _ hml).mono ?_; rintro e w1 ⟨rfl, bb⟩)
  refine (H1.out _).mono ?_
  rintro e w2 ⟨rfl, hb⟩
  have bb := bb.trans (hb.mono bb.size)
  clear hb
  go_upto_region 6 with fail
  have n2 := heap_alloc_new w2 (.cells #[.int .i64 pl, .int .i64 (pc : Int)] 45)
  have b2 := below_box w2 (.cells #[.int .i64 pl, .int .i64 (pc : Int)] 45)
  have bb := bb.trans (b2.mono bb.size)
  clear b2
  generalize w2.alloc (.cells #[.int .i64 pl, .int .i64 (pc : Int)] 45) = w3 at n2 bb ⊢
  have p0 : w3.cell? ⟨w2.heap.size, 0, none⟩ = some (.int .i64 pl) := cell_of_row _ _ 0 _ _ _ n2
  have p1 : w3.cell? ⟨w2.heap.size, 1, none⟩ = some (.int .i64 (pc : Int)) := cell_of_row _ _ 1 _ _ _ n2
  have N2 := Lib.hid n2
  generalize w2.heap.size = B2 at n2 N2 p0 p1 ⊢
  clear n2
  go_wp2_with fail
  refine (H2.out _).mono ?_
  rintro e w4 ⟨rfl, hb⟩
  have bb := bb.trans (hb.mono bb.size)
  have N2 := Lib.hid ((hb.block _ (Array.getElem?_eq_some_iff.1 N2.out).1).trans N2.out)
  clear hb p0 p1
  go_wp2_with fail
  refine (H3.out _).mono ?_
  rintro e w5 ⟨rfl, hb⟩
  have bb := bb.trans (hb.mono bb.size)
  have n2 := (hb.block _ (Array.getElem?_eq_some_iff.1 N2.out).1).trans N2.out
  clear hb N2
  go_upto_region 8 with fail
  have n3 := heap_alloc_new w5 (.cells #[.int .i64 fl, .int .i64 fc] 45)
  have b3 := below_box w5 (.cells #[.int .i64 fl, .int .i64 fc] 45)
  have n2 := (b3.block _ (Array.getElem?_eq_some_iff.1 n2).1).trans n2
  have bb := bb.trans (b3.mono bb.size)
  clear b3
  generalize w5.alloc (.cells #[.int .i64 fl, .int .i64 fc] 45) = w6 at n2 n3 bb ⊢
  generalize w5.heap.size = B3 at n3 ⊢
  have p0 : w6.cell? ⟨B2, 0, none⟩ = some (.int .i64 pl) := cell_of_row _ _ 0 _ _ _ n2
  have p1 : w6.cell? ⟨B2, 1, none⟩ = some (.int .i64 (pc : Int)) := cell_of_row _ _ 1 _ _ _ n2
  have f0 : w6.cell? ⟨B3, 0, none⟩ = some (.int .i64 fl) := cell_of_row _ _ 0 _ _ _ n3
  have f1 : w6.cell? ⟨B3, 1, none⟩ = some (.int .i64 fc) := cell_of_row _ _ 1 _ _ _ n3
  have N2 := Lib.hid n2
  have N3 := Lib.hid n3
  clear n2 n3
  go_upto_region 10 with fail
  have z3 : IntKind.i64.wrap (((a : Int) + (dd : Int)) + 1) = ((a : Int) + (dd : Int)) + 1 := IntWalk.i64_in _ (by omega)
  have q1 : ¬ 9223372036854775807 < (s.extract 0 a).size + 1 := by simp; omega
  have q2 : ¬ 9223372036854775807 < min a s.size + 1 := by omega
  have q3 : ¬ 9223372036854775807 < min a s.size + 1 + (s.size - a) := by omega
  have q4 : ¬ 9223372036854775807 < (s.extract 0 a).size + 1 + (s.extract a s.size).size := by simp; omega
  clear p0 p1 f0 f1
  all_goals have bA := below_box w6 (.cells #[.int .i64 0, .int .i64 0] 45)
  all_goals have nA := heap_alloc_new w6 (.cells #[.int .i64 0, .int .i64 0] 45)
  all_goals have lA := (Array.getElem?_eq_some_iff.1 nA).1
  all_goals go_region_held3 (fun w' => 0 ≤ w'.heap.size) (exact Nat.zero_le _) (first | (go_at_call 32; refine (H4.out _).mono ?_; rintro e w' ⟨rfl, hb⟩; have hB : Below w6.heap.size w6 w' := (below_drewN (Below.refl _ _) 1).trans hb) | (go_at_call 32; refine (H4.out _).mono ?_; rintro e w' ⟨rfl, hb⟩; have hB : Below w6.heap.size w6 w' := (below_drewN bA 1).trans (hb.mono bA.size); have nn := (hb.block _ lA).trans nA; have u0 : w'.cell? ⟨w6.heap.size, 0, none⟩ = some (.int .i64 0) := cell_of_row _ _ 0 _ _ _ nn; have u1 : w'.cell? ⟨w6.heap.size, 1, none⟩ = some (.int .i64 0) := cell_of_row _ _ 1 _ _ _ nn; have v0 := Lib.frozen_of_heap nn 0; have v1 := Lib.frozen_of_heap nn 1))
  all_goals clear hb nA lA bA
  all_goals first
    | (have nX := spot_set nn (.int .i64 pl) (.int .i64 (pc : Int))
       have bX : Below w6.heap.size w6 ((w'.setCell ⟨w6.heap.size, 0, none⟩ (.int .i64 pl)).setCell ⟨w6.heap.size, 1, none⟩ (.int .i64 (pc : Int))) := (hB.setCell (p := ⟨w6.heap.size, 0, none⟩) (Nat.le_refl _) _).setCell (p := ⟨w6.heap.size, 1, none⟩) (Nat.le_refl _) _
       clear u0 u1 v0 v1 nn hB
       generalize ((w'.setCell ⟨w6.heap.size, 0, none⟩ (.int .i64 pl)).setCell ⟨w6.heap.size, 1, none⟩ (.int .i64 (pc : Int))) = w7 at nX bX ⊢
       generalize w6.heap.size = B4 at nX ⊢)
    | (have nX := heap_alloc_new w' (.cells #[.int .i64 pl, .int .i64 (pc : Int)] 45)
       have bX : Below w6.heap.size w6 (w'.alloc (.cells #[.int .i64 pl, .int .i64 (pc : Int)] 45)) := hB.trans ((below_box w' (.cells #[.int .i64 pl, .int .i64 (pc : Int)] 45)).mono hB.size)
       clear hB
       generalize w'.alloc (.cells #[.int .i64 pl, .int .i64 (pc : Int)] 45) = w7 at nX bX ⊢
       generalize w'.heap.size = B4 at nX ⊢)
  all_goals have bb := bb.trans (bX.mono bb.size)
  all_goals have N2 := Lib.hid ((bX.block _ (Array.getElem?_eq_some_iff.1 N2.out).1).trans N2.out)
  all_goals have N3 := Lib.hid ((bX.block _ (Array.getElem?_eq_some_iff.1 N3.out).1).trans N3.out)
  all_goals have N4 := Lib.hid nX
  all_goals clear nX bX
  all_goals go_upto_region 11 with fail
  all_goals have bA := below_box w7 (.cells #[.int .i64 0, .int .i64 0] 45)
  all_goals have nA := heap_alloc_new w7 (.cells #[.int .i64 0, .int .i64 0] 45)
  all_goals have lA := (Array.getElem?_eq_some_iff.1 nA).1
  all_goals go_region_held3 (fun w' => 0 ≤ w'.heap.size) (exact Nat.zero_le _) (first | (go_at_call 32; refine (H5.out _).mono ?_; rintro e w' ⟨rfl, hb⟩; have hB : Below w7.heap.size w7 w' := (below_drewN (Below.refl _ _) 1).trans hb) | (go_at_call 32; refine (H5.out _).mono ?_; rintro e w' ⟨rfl, hb⟩; have hB : Below w7.heap.size w7 w' := (below_drewN bA 1).trans (hb.mono bA.size); have nn := (hb.block _ lA).trans nA; have u0 : w'.cell? ⟨w7.heap.size, 0, none⟩ = some (.int .i64 0) := cell_of_row _ _ 0 _ _ _ nn; have u1 : w'.cell? ⟨w7.heap.size, 1, none⟩ = some (.int .i64 0) := cell_of_row _ _ 1 _ _ _ nn; have v0 := Lib.frozen_of_heap nn 0; have v1 := Lib.frozen_of_heap nn 1))
  all_goals clear hb nA lA bA
  all_goals first
    | (have nX := spot_set nn (.int .i64 ((pl : Int) + 1)) (.int .i64 (pc : Int))
       have bX : Below w7.heap.size w7 ((w'.setCell ⟨w7.heap.size, 0, none⟩ (.int .i64 ((pl : Int) + 1))).setCell ⟨w7.heap.size, 1, none⟩ (.int .i64 (pc : Int))) := (hB.setCell (p := ⟨w7.heap.size, 0, none⟩) (Nat.le_refl _) _).setCell (p := ⟨w7.heap.size, 1, none⟩) (Nat.le_refl _) _
       clear u0 u1 v0 v1 nn hB
       generalize ((w'.setCell ⟨w7.heap.size, 0, none⟩ (.int .i64 ((pl : Int) + 1))).setCell ⟨w7.heap.size, 1, none⟩ (.int .i64 (pc : Int))) = w8 at nX bX ⊢
       generalize w7.heap.size = B5 at nX ⊢)
    | (have nX := heap_alloc_new w' (.cells #[.int .i64 ((pl : Int) + 1), .int .i64 (pc : Int)] 45)
       have bX : Below w7.heap.size w7 (w'.alloc (.cells #[.int .i64 ((pl : Int) + 1), .int .i64 (pc : Int)] 45)) := hB.trans ((below_box w' (.cells #[.int .i64 ((pl : Int) + 1), .int .i64 (pc : Int)] 45)).mono hB.size)
       clear hB
       generalize w'.alloc (.cells #[.int .i64 ((pl : Int) + 1), .int .i64 (pc : Int)] 45) = w8 at nX bX ⊢
       generalize w'.heap.size = B5 at nX ⊢)
  all_goals have bb := bb.trans (bX.mono bb.size)
  all_goals have N2 := Lib.hid ((bX.block _ (Array.getElem?_eq_some_iff.1 N2.out).1).trans N2.out)
  all_goals have N3 := Lib.hid ((bX.block _ (Array.getElem?_eq_some_iff.1 N3.out).1).trans N3.out)
  all_goals have N4 := Lib.hid ((bX.block _ (Array.getElem?_eq_some_iff.1 N4.out).1).trans N4.out)
  all_goals have N5 := Lib.hid nX
  all_goals clear nX bX
  all_goals (
    have p0 : w8.cell? ⟨B2, 0, none⟩ = some (.int .i64 pl) := cell_of_row _ _ 0 _ _ _ N2.out
    have p1 : w8.cell? ⟨B2, 1, none⟩ = some (.int .i64 (pc : Int)) := cell_of_row _ _ 1 _ _ _ N2.out
    have f0 : w8.cell? ⟨B3, 0, none⟩ = some (.int .i64 fl) := cell_of_row _ _ 0 _ _ _ N3.out
    have f1 : w8.cell? ⟨B3, 1, none⟩ = some (.int .i64 fc) := cell_of_row _ _ 1 _ _ _ N3.out
    have e0 : w8.cell? ⟨B4, 0, none⟩ = some (.int .i64 pl) := cell_of_row _ _ 0 _ _ _ N4.out
    have e1 : w8.cell? ⟨B4, 1, none⟩ = some (.int .i64 (pc : Int)) := cell_of_row _ _ 1 _ _ _ N4.out
    have r0 : w8.cell? ⟨B5, 0, none⟩ = some (.int .i64 ((pl : Int) + 1)) := cell_of_row _ _ 0 _ _ _ N5.out
    have r1 : w8.cell? ⟨B5, 1, none⟩ = some (.int .i64 (pc : Int)) := cell_of_row _ _ 1 _ _ _ N5.out
    go_wp2_with fail
    go_ret
    refine ⟨?_, bb⟩
    simp <;> omega)
end Go.Proofs.YtafofcenphopbaaDoor
