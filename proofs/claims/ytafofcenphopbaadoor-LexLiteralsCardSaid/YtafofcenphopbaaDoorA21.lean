/- literalType. -/
import Derived.Test.YtafofcenphopbaaDoorA20
namespace Go.Proofs.YtafofcenphopbaaDoor
open Go.RowKit Lx

def plainT (q : Int) (vary : Bool) (pic : ByteArray) : Bool := decide (q = 0) && (!vary && decide (pic.toList = []))
def litT (k p q : Int) (vary : Bool) (pic : ByteArray) : Bool :=
  if k = 1 then plainT 0 vary pic && (decide (1 ≤ p) && (decide (p ≤ 9) && (decide (0 ≤ q) && decide (q ≤ p))))
  else if k = 2 then plainT q vary pic && (decide (1 ≤ p) && decide (p ≤ 31))
  else if k = 3 then plainT q vary pic && (decide (0 ≤ p) && decide (p ≤ 255))
  else if k = 4 then plainT q vary pic && (decide (0 ≤ p) && decide (p ≤ 64))
  else false
theorem eqType (k p q k' p' q' : Int) (v v' : Bool) (pic pic' : ByteArray) (w : World) : (binOp .eql 57 (.agg #[.int .i64 k, .int .i64 p, .int .i64 q, .bool v, .string pic]) (.agg #[.int .i64 k', .int .i64 p', .int .i64 q', .bool v', .string pic'])).run Tryd.prog w =
    .ok (.bool (decide (k = k') && (decide (p = p') && (decide (q = q') && (v == v' && decide (pic = pic')))))) w := by
  have u3 := Tryd.underlying3
  have a3 := Tryd.isAgg3
  have z3 := Tryd.sizeOf3
  have hS : Tryd.prog.underlying 57 = some (.struct (Tryd.prog.fieldsOf 57)) := by kernel_rfl
  have hp : Tryd.prog.stoodInHeld 57 = false := by kernel_rfl
  rw [run_eql_struct, show (10000 : Nat) = 9999 + 1 from rfl, run_equalIn_agg w 9999 57 _ _ hS hp]
  simp only [Program.fieldsOf, Tryd.underlying57]
  go_simp
  have ht : (pic.toList = pic'.toList) = (pic = pic') := by rw [ByteArray.toList_eq, ByteArray.toList_eq]; obtain ⟨⟨x⟩⟩ := pic; obtain ⟨⟨y⟩⟩ := pic'; simp
  by_cases h1 : k = k' <;> by_cases h2 : p = p' <;> by_cases h3 : q = q' <;> by_cases h4 : v = v' <;> by_cases h5 : pic = pic' <;> simp [h1, h2, h3, h4, h5, ht]
set_option maxHeartbeats 4000000 in
set_option maxRecDepth 100000 in
theorem literalType_any (k p q : Int) (vary : Bool) (pic : ByteArray) (w : World) : Calls Tryd.prog 73 #[.agg #[.int .i64 k, .int .i64 p, .int .i64 q, .bool vary, .string pic]] w fun e w' =>
    e = .returned (.bool (litT k p q vary pic)) ∧ Below w.heap.size w w' := by
  go_enter Tryd.func73, Tryd.ntmps73
  go_upto_region 2 with fail
  have b2 := below_box2 w (.cells #[.int .i64 k, .int .i64 p, .int .i64 q, .bool vary, .string pic] 57) (.cells #[.int .i64 k, .int .i64 p, .int .i64 0, .bool false, .string ⟨#[]⟩] 57)
  have n1 := heap_alloc_new w (.cells #[.int .i64 k, .int .i64 p, .int .i64 q, .bool vary, .string pic] 57)
  have n2 := heap_alloc_new (w.alloc (.cells #[.int .i64 k, .int .i64 p, .int .i64 q, .bool vary, .string pic] 57)) (.cells #[.int .i64 k, .int .i64 p, .int .i64 0, .bool false, .string ⟨#[]⟩] 57)
  have n3 := (Lib.alloc_old (w.alloc (.cells #[.int .i64 k, .int .i64 p, .int .i64 q, .bool vary, .string pic] 57)) (.cells #[.int .i64 k, .int .i64 p, .int .i64 0, .bool false, .string ⟨#[]⟩] 57) w.heap.size (Array.getElem?_eq_some_iff.1 n1).1).trans n1
  rw [World.size_alloc] at n2
  generalize (w.alloc (.cells #[.int .i64 k, .int .i64 p, .int .i64 q, .bool vary, .string pic] 57)).alloc (.cells #[.int .i64 k, .int .i64 p, .int .i64 0, .bool false, .string ⟨#[]⟩] 57) = w2 at b2 n2 n3 ⊢
  clear n1
  have he := eqType k p q k p 0 vary false pic ⟨#[]⟩ w2
  have p0 : w2.cell? ⟨w.heap.size, 0, none⟩ = some (.int .i64 k) := cell_of_row _ _ 0 _ _ _ n3
  have p1 : w2.cell? ⟨w.heap.size, 1, none⟩ = some (.int .i64 p) := cell_of_row _ _ 1 _ _ _ n3
  have p2 : w2.cell? ⟨w.heap.size, 2, none⟩ = some (.int .i64 q) := cell_of_row _ _ 2 _ _ _ n3
  have p3 : w2.cell? ⟨w.heap.size, 3, none⟩ = some (.bool vary) := cell_of_row _ _ 3 _ _ _ n3
  have p4 : w2.cell? ⟨w.heap.size, 4, none⟩ = some (.string pic) := cell_of_row _ _ 4 _ _ _ n3
  have q0 : w2.cell? ⟨w.heap.size + 1, 0, none⟩ = some (.int .i64 k) := cell_of_row _ _ 0 _ _ _ n2
  have q1 : w2.cell? ⟨w.heap.size + 1, 1, none⟩ = some (.int .i64 p) := cell_of_row _ _ 1 _ _ _ n2
  have q2 : w2.cell? ⟨w.heap.size + 1, 2, none⟩ = some (.int .i64 0) := cell_of_row _ _ 2 _ _ _ n2
  have q3 : w2.cell? ⟨w.heap.size + 1, 3, none⟩ = some (.bool false) := cell_of_row _ _ 3 _ _ _ n2
  have q4 : w2.cell? ⟨w.heap.size + 1, 4, none⟩ = some (.string ⟨#[]⟩) := cell_of_row _ _ 4 _ _ _ n2
  have f2 := Lib.frozen_of_heap n2 2
  clear n2 n3
  by_cases hk1 : k = 1
  · subst hk1
    have he1 := eqType 1 p q 1 p q vary false pic ⟨#[]⟩ (w2.setCell ⟨w.heap.size + 1, 2, none⟩ (.int .i64 q))
    have bs : Below w.heap.size w (w2.setCell ⟨w.heap.size + 1, 2, none⟩ (.int .i64 q)) := b2.setCell (p := ⟨w.heap.size + 1, 2, none⟩) (by show _ ≤ w.heap.size + 1; omega) _
    go_wp2_with fail
    all_goals (go_ret; refine ⟨?_, bs⟩; (simp_all [litT, plainT]; try omega))
  by_cases hk2 : k = 2
  · subst hk2
    go_wp2_with fail
    all_goals (go_ret; refine ⟨?_, b2⟩; (simp_all [litT, plainT]; try omega))
  by_cases hk3 : k = 3
  · subst hk3
    go_wp2_with fail
    all_goals (go_ret; refine ⟨?_, b2⟩; (simp_all [litT, plainT]; try omega))
  by_cases hk4 : k = 4
  · subst hk4
    go_wp2_with fail
    all_goals (go_ret; refine ⟨?_, b2⟩; (simp_all [litT, plainT]; try omega))
  have e1 : (k == 1) = false := by rw [beq_eq_false_iff_ne]; exact hk1
  have e2 : (k == 2) = false := by rw [beq_eq_false_iff_ne]; exact hk2
  have e3 : (k == 3) = false := by rw [beq_eq_false_iff_ne]; exact hk3
  have e4 : (k == 4) = false := by rw [beq_eq_false_iff_ne]; exact hk4
  go_wp2_with fail
  all_goals (go_ret; refine ⟨?_, b2⟩; (simp_all [litT]; try omega))
end Go.Proofs.YtafofcenphopbaaDoor
