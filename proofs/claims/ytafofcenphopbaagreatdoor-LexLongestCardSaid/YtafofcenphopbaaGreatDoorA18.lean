/- literalType, At. -/
import Derived.Test.YtafofcenphopbaaGreatDoorA17
import Derived.IntWalk
namespace Go.Proofs.YtafofcenphopbaaGreatDoor
open Go.RowKit Lx

theorem int_cells {w : World} {B0 cap : Nat} {ao : Option Addr} {l : List Nat} (h : w.ownsRow B0 3 1 (.slice ao l.length cap) l.length (icells l)) (hne : 0 < l.length) : ∃ g, Value.slice ao l.length cap = .slice (some ⟨g, 0, none⟩) l.length cap ∧
    ∀ k (hk : k < l.length), w.cell? ⟨g, k, none⟩ = some (.int .i64 (l[k]'hk : Nat)) := by
  rcases h.2 with ⟨_, h0⟩ | ⟨g, cap', cur, hv, hB, hg, hnc, hcm, hcs, htake⟩
  · omega
  · injection hv with e1 e2 e3
    subst e1 e3
    refine ⟨g, rfl, fun k hk => ?_⟩
    have := h.cells (g := g) rfl k (.int .i64 (l[k]'hk : Nat)) (by simp [icells, hk])
    have e : ∀ n, (⟨g, 0, none⟩ : Addr).add n = ⟨g, n, none⟩ := fun n => by unfold Addr.add; split <;> simp_all
    rwa [e] at this
theorem nlL_mem (l : Bs) : ∀ (i n : Nat), n ∈ nlL l i → n ≤ i + l.length := by
  induction l with
  | nil => intro i n h; simp [nlL] at h
  | cons c l ih =>
    intro i n h
    unfold nlL at h
    rw [List.length_cons]
    split at h
    · rcases List.mem_cons.1 h with rfl | h
      · omega
      · have := ih _ _ h; omega
    · have := ih _ _ h; omega
theorem linesL_le (s : ByteArray) (j : Nat) (h : j < (linesL s).length) : (linesL s)[j] ≤ s.size := by
  have hm := List.getElem_mem h
  rcases List.mem_cons.1 hm with h0 | h0
  · rw [h0]; exact Nat.zero_le _
  · have := nlL_mem _ _ _ h0; simpa using this
/-- At: what it answers. -/
def atL (s : ByteArray) (ln col : Int) : Int × Int :=
  if 20000 < s.size then (0, 2)
  else if ln < 1 ∨ ((linesL s).length : Int) < ln ∨ col < 1 ∨ (s.size : Int) + 1 < col then (0, 1)
  else
    let i : Int := ((linesL s).getD (ln - 1).toNat 0 : Int) + col - 1
    let e : Int := if ln < (linesL s).length then ((linesL s).getD ln.toNat 0 : Int) - 1 else s.size
    if e < i then (0, 1) else (i, 0)
end Go.Proofs.YtafofcenphopbaaGreatDoor
