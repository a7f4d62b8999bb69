/- Walks: the map of the signs. No condition. -/
import Derived.Test.YtafofcenphopbaaGreatDoorA1
import Derived.Test.YtafofcenphopbaaGreatDoorM1
namespace Go.Proofs.YtafofcenphopbaaGreatDoor
open Go.RowKit Lx

theorem undT : Tryz.prog.underlying 110 = some (.map 9 4) := by kernel_rfl
theorem undS : Tryz.prog.underlying 9 = some .string := by kernel_rfl
theorem zeroB (W : World) : (zeroValue 4).run Tryz.prog W = .ok (.bool false) W := by kernel_rfl

theorem signMap_new (w : World) : SignMap (w.alloc (.map #[] 0)) w.heap.size [] := ⟨#[], 0, heap_alloc_new w _, rfl⟩

set_option maxHeartbeats 2000000 in
set_option maxRecDepth 100000 in
theorem signs_any (w : World) :
    Calls Tryz.prog 75 #[] w fun e w' => e = .returned (.map (some w.heap.size)) ∧ SignMap w' w.heap.size signList ∧ Below w.heap.size w w' := by
  have hmm := @run_makeMap Tryz.prog
  have h0 : SignMapB w (w.alloc (.map #[] 0)) w.heap.size [] := ⟨signMap_new w, (Below.refl _ _).alloc (Nat.le_refl _) _⟩
  go_enter Tryz.func75, Tryz.ntmps75
  go_wp2_with (refine wpList_insert_signB w _ rfl _ _ _ _ rfl _ _ undT undS w.heap.size _ rfl (by assumption) _ rfl rfl rfl ?_; clear h0; intro w' h0)
  go_ret
  exact ⟨rfl, h0.1, h0.2⟩
end Go.Proofs.YtafofcenphopbaaGreatDoor
