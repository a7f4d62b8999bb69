/- sort.SearchInts, Where. -/
import Derived.Test.YtafofcenphopbaaDoorA18
import Derived.Shelf.SlSorted.Search
namespace Go.Proofs.YtafofcenphopbaaDoor
open Go.RowKit Lx

def Tryd.laysSearch_ren : Go.Shelf.Ren := ⟨fun | 14 => 66 | 16 => 96 | 22 => 97 | n => n, fun | 0 => 0 | 3 => 3 | 4 => 4 | 28 => 92 | 35 => 122 | 38 => 136 | n => n, fun | n => n⟩
theorem Tryd.laysSearch : Go.Proofs.SlLaysO.n14 Tryd.prog Tryd.laysSearch_ren := {
  mixed := by kernel_rfl
  f14 := Tryd.func66.trans (congrArg some (by kernel_rfl))
  f16 := Tryd.func96.trans (congrArg some (by kernel_rfl))
  f22 := Tryd.func97.trans (congrArg some (by kernel_rfl))
  t0 := Tryd.underlying0
  a0 := Tryd.isAgg0
  z0 := Tryd.sizeOf0
  v0 := Tryd.zeroValue0
  t3 := Tryd.underlying3
  a3 := Tryd.isAgg3
  z3 := Tryd.sizeOf3
  v3 := Tryd.zeroValue3
  t4 := Tryd.underlying4
  a4 := Tryd.isAgg4
  z4 := Tryd.sizeOf4
  v4 := Tryd.zeroValue4
  t28 := Tryd.underlying92
  a28 := Tryd.isAgg92
  z28 := Tryd.sizeOf92
  v28 := Tryd.zeroValue92
  t35 := Tryd.underlying122
  a35 := Tryd.isAgg122
  z35 := Tryd.sizeOf122
  v35 := Tryd.zeroValue122
  t38 := Tryd.underlying136
  a38 := Tryd.isAgg136
  z38 := Tryd.sizeOf136
  v38 := Tryd.zeroValue136 }

theorem SearchInts_any (g off cap : Nat) (d : Array Int) (x : Int) (w : World) (hc : ∀ i, i < d.size → w.cell? ⟨g, off + i, none⟩ = some ((Value.int .i64) d[i]!)) (hblk : g < w.heap.size) (hsz : d.size < 4611686018427387904)
    (hs : ∀ a b, a ≤ b → b < d.size → decide (x ≤ d[a]!) = true → decide (x ≤ d[b]!) = true) :
    Calls Tryd.prog 66 #[.slice (some ⟨g, off, none⟩) d.size cap, .int .i64 x] w fun e w' => e = .returned (.int .i64 (d.toList.countP (fun y => !decide (x ≤ y)) : Nat)) ∧ Below w.heap.size w w' :=
  Any.sort_SearchInts Tryd.laysSearch g off cap d x w hc hblk hsz hs
end Go.Proofs.YtafofcenphopbaaDoor
