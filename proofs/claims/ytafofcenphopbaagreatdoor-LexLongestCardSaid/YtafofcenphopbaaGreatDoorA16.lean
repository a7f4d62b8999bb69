/- Tight. -/
import Derived.Test.YtafofcenphopbaaGreatDoorA15
namespace Go.Proofs.YtafofcenphopbaaGreatDoor
open Go.RowKit Lx

set_option maxHeartbeats 1000000 in
set_option maxRecDepth 100000 in
theorem Tight_any (x y : T3) (hx : x.text.size ≤ 2147483647) (hy : y.text.size ≤ 2147483647) (w : World) (hm : ML w) : Calls Tryz.prog 9 #[tokA x, tokA y] w fun e w' =>
    e = .returned (.tuple #[.bool (checkI x.kind x.text && (checkI y.kind y.text && tightI x y)), .int .i64 (errIf (checkI x.kind x.text && checkI y.kind y.text))]) ∧ Below w.heap.size w w' := by
  unfold tokA
  go_enter Tryz.func9, Tryz.ntmps9
  go_upto_region 1 with fail
  have b2 := below_box2 w (.cells #[.int .i64 x.kind, .string x.text, .int .i64 x.at_] 24) (.cells #[.int .i64 y.kind, .string y.text, .int .i64 y.at_] 24)
  have n1 := heap_alloc_new w (.cells #[.int .i64 x.kind, .string x.text, .int .i64 x.at_] 24)
  have n2 := heap_alloc_new (w.alloc (.cells #[.int .i64 x.kind, .string x.text, .int .i64 x.at_] 24)) (.cells #[.int .i64 y.kind, .string y.text, .int .i64 y.at_] 24)
  have n3 := (Lib.alloc_old (w.alloc (.cells #[.int .i64 x.kind, .string x.text, .int .i64 x.at_] 24)) (.cells #[.int .i64 y.kind, .string y.text, .int .i64 y.at_] 24) w.heap.size (Array.getElem?_eq_some_iff.1 n1).1).trans n1
  rw [World.size_alloc] at n2
  generalize (w.alloc (.cells #[.int .i64 x.kind, .string x.text, .int .i64 x.at_] 24)).alloc (.cells #[.int .i64 y.kind, .string y.text, .int .i64 y.at_] 24) = w2 at b2 n2 n3 ⊢
  have hm2 := hm.below b2
  have l1 := (Array.getElem?_eq_some_iff.1 n3).1
  have l2 := (Array.getElem?_eq_some_iff.1 n2).1
  have p0 : w2.cell? ⟨w.heap.size, 0, none⟩ = some (.int .i64 x.kind) := by rw [Lib.cell_of_heap n3]; rfl
  have p1 : w2.cell? ⟨w.heap.size, 1, none⟩ = some (.string x.text) := by rw [Lib.cell_of_heap n3]; rfl
  have p2 : w2.cell? ⟨w.heap.size, 2, none⟩ = some (.int .i64 x.at_) := by rw [Lib.cell_of_heap n3]; rfl
  have q0 : w2.cell? ⟨w.heap.size + 1, 0, none⟩ = some (.int .i64 y.kind) := by rw [Lib.cell_of_heap n2]; rfl
  have q1 : w2.cell? ⟨w.heap.size + 1, 1, none⟩ = some (.string y.text) := by rw [Lib.cell_of_heap n2]; rfl
  have q2 : w2.cell? ⟨w.heap.size + 1, 2, none⟩ = some (.int .i64 y.at_) := by rw [Lib.cell_of_heap n2]; rfl
  clear n1 n2 n3
  have hcx : ∀ W, Calls Tryz.prog 35 #[.agg #[.int .i64 x.kind, .string x.text, .int .i64 x.at_]] W fun e w' => e = .returned (.int .i64 (errIf (checkI x.kind x.text))) ∧ Below W.heap.size W w' :=
    fun W => Check_any x.kind x.text x.at_ (by omega) W
  have hcy : ∀ W, Calls Tryz.prog 35 #[.agg #[.int .i64 y.kind, .string y.text, .int .i64 y.at_]] W fun e w' => e = .returned (.int .i64 (errIf (checkI y.kind y.text))) ∧ Below W.heap.size W w' :=
    fun W => Check_any y.kind y.text y.at_ (by omega) W
  have ht : ∀ W, ML W → Calls Tryz.prog 37 #[.agg #[.int .i64 x.kind, .string x.text, .int .i64 x.at_], .agg #[.int .i64 y.kind, .string y.text, .int .i64 y.at_]] W fun e w' => e = .returned (.bool (tightI x y)) ∧ Below W.heap.size W w' :=
    fun W h => tight_any x y hx hy W h
  have HX := Lib.hid hcx
  have HY := Lib.hid hcy
  have HT := Lib.hid ht
  have z2 := b2.size
  clear hcx hcy ht
  cases hcx : checkI x.kind x.text with
  | false =>
    rw [hcx] at HX
    go_wp2_with fail
    refine (HX.out _).mono ?_
    rintro e w3 ⟨rfl, hb3⟩
    go_wp2_with fail
    go_ret2
    exact ⟨by rw [hcx]; rfl, b2.trans (hb3.mono z2)⟩
  | true =>
    rw [hcx] at HX
    go_wp2_with fail
    refine (HX.out _).mono ?_
    rintro e w3 ⟨rfl, hb3⟩
    have z3 := hb3.size
    have k0 := (hb3.cell (p := ⟨w.heap.size + 1, 0, none⟩) l2).trans q0
    have k1 := (hb3.cell (p := ⟨w.heap.size + 1, 1, none⟩) l2).trans q1
    have k2 := (hb3.cell (p := ⟨w.heap.size + 1, 2, none⟩) l2).trans q2
    cases hcy : checkI y.kind y.text with
    | false =>
      rw [hcy] at HY
      go_wp2_with fail
      refine (HY.out _).mono ?_
      rintro e w4 ⟨rfl, hb4⟩
      go_wp2_with fail
      go_ret2
      exact ⟨by rw [hcx, hcy]; rfl, (b2.trans (hb3.mono z2)).trans (hb4.mono (by omega))⟩
    | true =>
      rw [hcy] at HY
      go_wp2_with fail
      refine (HY.out _).mono ?_
      rintro e w4 ⟨rfl, hb4⟩
      have hb34 := hb3.trans (hb4.mono z3)
      have z4 := hb34.size
      have hm4 := hm2.below hb34
      have j0 := (hb34.cell (p := ⟨w.heap.size, 0, none⟩) l1).trans p0
      have j1 := (hb34.cell (p := ⟨w.heap.size, 1, none⟩) l1).trans p1
      have j2 := (hb34.cell (p := ⟨w.heap.size, 2, none⟩) l1).trans p2
      have i0 := (hb34.cell (p := ⟨w.heap.size + 1, 0, none⟩) l2).trans q0
      have i1 := (hb34.cell (p := ⟨w.heap.size + 1, 1, none⟩) l2).trans q1
      have i2 := (hb34.cell (p := ⟨w.heap.size + 1, 2, none⟩) l2).trans q2
      go_wp2_with fail
      refine (HT.out _ hm4).mono ?_
      rintro e w5 ⟨rfl, hb5⟩
      go_wp2_with fail
      go_ret2
      exact ⟨by rw [hcx, hcy]; rfl, (b2.trans (hb34.mono z2)).trans (hb5.mono (by omega))⟩
end Go.Proofs.YtafofcenphopbaaGreatDoor
