/- Print at whatever tokens; token; comments side by side; structs that differ. -/
import Derived.Test.YtafofcenphopbaaGreatDoorA31
import Derived.ChangeKeysEq
namespace Go.Proofs.YtafofcenphopbaaGreatDoor
open Go.RowKit Lx

theorem Print_any (v : Value) (l : List T3) (hs : ∀ t ∈ l, t.text.size ≤ 2147483647) (hlen : l.length ≤ 9223372036854775807) (w : World) (hml : ML w) (hrow : TokRow w v l) : Calls Tryz.prog 11 #[v] w (PrintQ (l.map kt3) w) := by
  by_cases hl : l.length ≤ 5000
  · cases hg : (l.map kt3).all okI with
    | false => exact Print_bad v l hs w hrow hl hg
    | true => exact Print_good v l hs w hml hrow hl hg
  · exact Print_long v l w hrow hlen (by omega)
set_option maxHeartbeats 400000 in
theorem token_any (k : Int) (t : ByteArray) (a : Int) (w : World) : Calls Tryz.prog 28 #[.int .i64 k, .string t, .int .i64 a] w fun e w' => e = .returned (.agg #[.int .i64 k, .string t, .int .i64 a]) ∧ Below w.heap.size w w' := by
  go_enter Tryz.func28, Tryz.ntmps28
  go_wp2
  exact bodyPost_ret (v := .agg #[.int .i64 k, .string t, .int .i64 a]) (by simp [results, Tryz.results28, go_sem]) rfl ⟨rfl, by first | exact below_box _ _ | exact below_far3 (below_box _ _) _ _ _⟩

/-- A comment's two ends, as a value. -/
def comv (c : Int × Int) : List Value := [.int .i64 c.1, .int .i64 c.2]
theorem eqComs (x y : Int × Int) (w : World) : (binOp .neq 69 (.agg (comv x).toArray) (.agg (comv y).toArray)).run Tryz.prog w = .ok (.bool (!decide (x = y))) w := by
  have hu : Tryz.prog.underlying 69 = some (.array 2 3) := by kernel_rfl
  obtain ⟨i, hi⟩ : ∃ i, Tryz.prog.info? 3 = some i := by obtain ⟨i, h, _⟩ := info_parts infoI; exact ⟨i, h⟩
  have u3 := Tryz.underlying3
  have a3 := Tryz.isAgg3
  have z3 := Tryz.sizeOf3
  have hc : Tryz.prog.cellsOf 3 = 1 := by kernel_rfl
  obtain ⟨a, b⟩ := x
  obtain ⟨c, d⟩ := y
  rw [run_neq_struct, show (10000 : Nat) = 9999 + 1 from rfl, run_equalIn_array w 9999 _ _ hu hi, hc]
  rw [show List.range 2 = [0, 1] from rfl]
  simp only [Op.eqItems, comv]
  go_simp
  by_cases h1 : a = c <;> by_cases h2 : b = d <;> simp [h1, h2]
end Go.Proofs.YtafofcenphopbaaGreatDoor
