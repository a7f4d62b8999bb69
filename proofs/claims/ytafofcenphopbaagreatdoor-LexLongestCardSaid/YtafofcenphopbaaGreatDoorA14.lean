/- same, slices.EqualFunc at tokens, tight, Tight. -/
import Derived.Test.YtafofcenphopbaaGreatDoorA13
import Derived.Shelf.SlicesQ.Load
namespace Go.Proofs.YtafofcenphopbaaGreatDoor
open Go.RowKit Lx

def sameI (x y : T3) : Bool := decide (x.kind = y.kind) && decide (x.text = y.text)
def tokA (t : T3) : Value := .agg #[.int .i64 t.kind, .string t.text, .int .i64 t.at_]
theorem below_box2 (w : World) (a b : Obj) : Below w.heap.size w ((w.alloc a).alloc b) := ((Below.refl _ _).alloc (Nat.le_refl _) _).alloc (by simp) _
set_option maxHeartbeats 1000000 in
theorem same_any (x y : T3) (w : World) : Calls Tryz.prog 77 #[tokA x, tokA y] w fun e w' => e = .returned (.bool (sameI x y)) ∧ Below w.heap.size w w' := by
  obtain ⟨k, t, a⟩ := x
  obtain ⟨k', t', a'⟩ := y
  have ht : (t.toList = t'.toList) = (t = t') := by rw [ByteArray.toList_eq, ByteArray.toList_eq]; obtain ⟨⟨x⟩⟩ := t; obtain ⟨⟨y⟩⟩ := t'; simp
  unfold tokA
  go_enter Tryz.func77, Tryz.ntmps77
  go_wp2_with fail
  all_goals (go_ret; refine ⟨?_, below_box2 _ _ _⟩)
  · rename_i h
    by_cases h2 : t = t' <;> simp [sameI, h, h2, ht]
  · rename_i h; simp [sameI, h]
/-- A token's three cells. -/
theorem tok_cells {w w' : World} {b off n : Nat} {ts : List T3} (hc : ∀ j, j < n → ∀ i u, (tokv ts[j]!)[i]? = some u → w.cell? ⟨b, off + j * 3 + i, none⟩ = some u) (hb : b < w.heap.size) (hw : Below w.heap.size w w') (j : Nat) (hj : j < n) :
    w'.cell? ⟨b, off + j * 3, none⟩ = some (.int .i64 ts[j]!.kind) ∧ w'.cell? ⟨b, off + j * 3 + 1, none⟩ = some (.string ts[j]!.text) ∧ w'.cell? ⟨b, off + j * 3 + 2, none⟩ = some (.int .i64 ts[j]!.at_) := by
  have h := fun i u hi => (hw.cell (p := ⟨b, off + j * 3 + i, none⟩) hb).trans (hc j hj i u hi)
  exact ⟨h 0 _ rfl, h 1 _ rfl, h 2 _ rfl⟩
set_option maxHeartbeats 1000000 in
theorem EqualF_any (a b : Value) (xs ys : List T3) (w : World) (h1 : TokRow w a xs) (h2 : TokRow w b ys) (hx : xs.length ≤ 9223372036854775807) (_hy : ys.length ≤ 9223372036854775807) :
    Calls Tryz.prog 76 #[a, b, .func (.func 77) #[] #[]] w fun e w' => e = .returned (.bool (Lib.allEq sameI xs ys)) ∧ Below w.heap.size w w' := by
  obtain ⟨ao, ac, rfl, h1⟩ := h1
  obtain ⟨bo, bc, rfl, h2⟩ := h2
  by_cases hl : xs.length = ys.length
  · go_enter Tryz.func76, Tryz.ntmps76
    go_wp2_with fail
    generalize hn : xs.length = n at h1 ⊢
    have hy' : ys.length = n := by omega
    rw [hy'] at h2 ⊢
    go_loopg [17] n (fun gg q wr => ∃ kk : Nat, kk ≤ n ∧ n - kk ≤ gg ∧ q = .int .i64 kk ∧ Aside (Below w.heap.size w wr) ∧ Aside (∀ j, j < kk → sameI xs[j]! ys[j]! = true))
    case atStart => exact ⟨0, Nat.zero_le _, by omega, rfl, Below.refl _ w, fun j hj => absurd hj (Nat.not_lt_zero _)⟩
    case round =>
      obtain ⟨kk, hkk, hg, rfl, BW, A⟩ := hrel
      by_cases hlt : kk < n
      · have hltz : (kk : Int) < (n : Int) := by omega
        obtain ⟨b1, o1, rfl, l1, c1⟩ := h1 (by intro e; rw [e] at hn; simp at hn; omega)
        obtain ⟨b2, o2, rfl, l2, c2⟩ := h2 (by intro e; rw [e] at hy'; simp at hy'; omega)
        have r1 := tok_cells c1 l1 BW.out kk hlt
        have hr2 := fun W (hW : Below w.heap.size w W) => tok_cells c2 l2 hW kk hlt
        have HR2 := Lib.hid hr2
        clear hr2 c1 c2 l1 l2 h1 h2
        generalize hxk : xs[kk]! = x at r1
        generalize hyk : ys[kk]! = y at HR2
        have B : Aside (xs[kk]! = x ∧ ys[kk]! = y) := ⟨hxk, hyk⟩
        clear hxk hyk
        obtain ⟨p0, p1, p2⟩ := r1
        go_upto_region 6 with fail
        have bw1 : Below w.heap.size w (wr.alloc (.cells #[.int .i64 x.kind, .string x.text, .int .i64 x.at_] 24)) := BW.out.alloc BW.out.size _
        have n1 := heap_alloc_new wr (.cells #[.int .i64 x.kind, .string x.text, .int .i64 x.at_] 24)
        have z1 : w.heap.size ≤ wr.heap.size := BW.out.size
        generalize wr.alloc (.cells #[.int .i64 x.kind, .string x.text, .int .i64 x.at_] 24) = w1 at bw1 n1 ⊢
        have N1 := Lib.hid n1
        have hz1 := (Array.getElem?_eq_some_iff.1 n1).1
        generalize wr.heap.size = B1 at n1 N1 hz1 z1 ⊢
        obtain ⟨s0, s1, s2⟩ := HR2.out w1 bw1
        clear n1 HR2 p0 p1 p2 BW
        go_upto_region 7 with fail
        have hk1 : (w1.alloc (.cells #[.int .i64 y.kind, .string y.text, .int .i64 y.at_] 24)).heap[B1]? = _ := (Lib.alloc_old w1 _ B1 hz1).trans N1.out
        have bw2 : Below w.heap.size w (w1.alloc (.cells #[.int .i64 y.kind, .string y.text, .int .i64 y.at_] 24)) := bw1.alloc bw1.size _
        have n2 := heap_alloc_new w1 (.cells #[.int .i64 y.kind, .string y.text, .int .i64 y.at_] 24)
        have z2 : w.heap.size ≤ w1.heap.size := bw1.size
        generalize w1.alloc (.cells #[.int .i64 y.kind, .string y.text, .int .i64 y.at_] 24) = w2 at bw2 n2 hk1 ⊢
        have q0 : w2.cell? ⟨B1, 0, none⟩ = some (.int .i64 x.kind) := by rw [Lib.cell_of_heap hk1]; rfl
        have q1 : w2.cell? ⟨B1, 1, none⟩ = some (.string x.text) := by rw [Lib.cell_of_heap hk1]; rfl
        have q2 : w2.cell? ⟨B1, 2, none⟩ = some (.int .i64 x.at_) := by rw [Lib.cell_of_heap hk1]; rfl
        have t0 : w2.cell? ⟨w1.heap.size, 0, none⟩ = some (.int .i64 y.kind) := by rw [Lib.cell_of_heap n2]; rfl
        have t1 : w2.cell? ⟨w1.heap.size, 1, none⟩ = some (.string y.text) := by rw [Lib.cell_of_heap n2]; rfl
        have t2 : w2.cell? ⟨w1.heap.size, 2, none⟩ = some (.int .i64 y.at_) := by rw [Lib.cell_of_heap n2]; rfl
        have hcall := fun W => same_any x y W
        unfold tokA at hcall
        have z3 := bw2.size
        clear hk1 n2 N1 s0 s1 s2 bw1 hz1 z1 z2
        cases hq : sameI x y with
        | false =>
          rw [hq] at hcall
          go_wp2_with fail
          refine (hcall _).mono ?_
          rintro e w' ⟨rfl, hb'⟩
          go_wp2_with fail
          go_ret
          refine ⟨?_, bw2.trans (hb'.mono z3)⟩
          rw [Lib.allEq_elem sameI xs ys kk (by omega) (by omega) (by rw [B.out.1, B.out.2]; exact hq)]
          rfl
        | true =>
          rw [hq] at hcall
          go_wp2_with fail
          refine (hcall _).mono ?_
          rintro e w' ⟨rfl, hb'⟩
          go_wp2_with fail
          go_roundg (n - (kk + 1))
          case measure => omega
          case rel =>
            refine ⟨kk + 1, by omega, by omega, by go_num, bw2.trans (hb'.mono z3), (show Aside _ from fun j hj => ?_)⟩
            by_cases e : j = kk
            · subst e
              rw [B.out.1, B.out.2]; exact hq
            · exact A.out j (by omega)
      · have hltz : ¬ (kk : Int) < (n : Int) := by omega
        have : kk = n := by omega
        subst this
        go_wp2_with fail
        go_ret
        exact ⟨by rw [Lib.allEq_all sameI xs ys (by omega) (by rw [hn]; exact A.out)]; rfl, BW.out⟩
  · rw [Lib.allEq_len _ _ _ hl]
    have hl' : ¬ (xs.length : Int) = ys.length := by omega
    clear h1 h2
    go_enter Tryz.func76, Tryz.ntmps76
    go_wp2_with fail
    go_ret
    exact ⟨rfl, Below.refl _ _⟩
end Go.Proofs.YtafofcenphopbaaGreatDoor
