/- sort.SearchInts, Where. -/
import Derived.Test.YtafofcenphopbaaGreatDoorA18
import Derived.Shelf.SlSorted.Search
namespace Go.Proofs.YtafofcenphopbaaGreatDoor
open Go.RowKit Lx

def Tryz.laysSearch_ren : Go.Shelf.Ren := ⟨fun | 14 => 71 | 16 => 101 | 22 => 102 | n => n, fun | 0 => 0 | 3 => 3 | 4 => 4 | 28 => 105 | 35 => 133 | 38 => 128 | n => n, fun | n => n⟩
theorem Tryz.laysSearch : Go.Proofs.SlLaysO.n14 Tryz.prog Tryz.laysSearch_ren := {
  mixed := by kernel_rfl
  f14 := Tryz.func71.trans (congrArg some (by kernel_rfl))
  f16 := Tryz.func101.trans (congrArg some (by kernel_rfl))
  f22 := Tryz.func102.trans (congrArg some (by kernel_rfl))
  t0 := Tryz.underlying0
  a0 := Tryz.isAgg0
  z0 := Tryz.sizeOf0
  v0 := Tryz.zeroValue0
  t3 := Tryz.underlying3
  a3 := Tryz.isAgg3
  z3 := Tryz.sizeOf3
  v3 := Tryz.zeroValue3
  t4 := Tryz.underlying4
  a4 := Tryz.isAgg4
  z4 := Tryz.sizeOf4
  v4 := Tryz.zeroValue4
  t28 := Tryz.underlying105
  a28 := Tryz.isAgg105
  z28 := Tryz.sizeOf105
  v28 := Tryz.zeroValue105
  t35 := Tryz.underlying133
  a35 := Tryz.isAgg133
  z35 := Tryz.sizeOf133
  v35 := Tryz.zeroValue133
  t38 := Tryz.underlying128
  a38 := Tryz.isAgg128
  z38 := Tryz.sizeOf128
  v38 := Tryz.zeroValue128 }

theorem SearchInts_any (g off cap : Nat) (d : Array Int) (x : Int) (w : World) (hc : ∀ i, i < d.size → w.cell? ⟨g, off + i, none⟩ = some ((Value.int .i64) d[i]!)) (hblk : g < w.heap.size) (hsz : d.size < 4611686018427387904)
    (hs : ∀ a b, a ≤ b → b < d.size → decide (x ≤ d[a]!) = true → decide (x ≤ d[b]!) = true) :
    Calls Tryz.prog 71 #[.slice (some ⟨g, off, none⟩) d.size cap, .int .i64 x] w fun e w' => e = .returned (.int .i64 (d.toList.countP (fun y => !decide (x ≤ y)) : Nat)) ∧ Below w.heap.size w w' :=
  Any.sort_SearchInts Tryz.laysSearch g off cap d x w hc hblk hsz hs
end Go.Proofs.YtafofcenphopbaaGreatDoor
