/- literalType, At. -/
import Derived.Test.YtafofcenphopbaaDoorA17
import Derived.IntWalk
namespace Go.Proofs.YtafofcenphopbaaDoor
open Go.RowKit Lx

theorem int_cells {w : World} {B0 cap : Nat} {ao : Option Addr} {l : List Nat} (h : w.ownsRow B0 3 1 (.slice ao l.length cap) l.length (icells l)) (hne : 0 < l.length) : ∃ g, Value.slice ao l.length cap = .slice (some ⟨g, 0, none⟩) l.length cap ∧
    ∀ k (hk : k < l.length), w.cell? ⟨g, k, none⟩ = some (.int .i64 (l[k]'hk : Nat)) := by
  rcases h.2 with ⟨_, h0⟩ | ⟨g, cap', cur, hv, hB, hg, hnc, hcm, hcs, htake⟩
  · omega
  · injection hv with e1 e2 e3
    subst e1 e3
    refine ⟨g, rfl, fun k hk => ?_⟩
    have := h.cells (g := g) rfl k (.int .i64 (l[k]'hk : Nat)) (by simp [icells, hk])
    have e : ∀ n, (⟨g, 0, none⟩ : Addr).add n = ⟨g, n, none⟩ := fun n => by unfold Addr.add; split <;> simp_all
    rwa [e] at this
theorem nlL_mem (l : Bs) : ∀ (i n : Nat), n ∈ nlL l i → n ≤ i + l.length := by
  induction l with
  | nil => intro i n h; simp [nlL] at h
  | cons c l ih =>
    intro i n h
    unfold nlL at h
    rw [List.length_cons]
    split at h
    · rcases List.mem_cons.1 h with rfl | h
      · omega
      · have := ih _ _ h; omega
    · have := ih _ _ h; omega
theorem linesL_le (s : ByteArray) (j : Nat) (h : j < (linesL s).length) : (linesL s)[j] ≤ s.size := by
  have hm := List.getElem_mem h
  rcases List.mem_cons.1 hm with h0 | h0
  · rw [h0]; exact Nat.zero_le _
  · have := nlL_mem _ _ _ h0; simpa using this
/-- At: what it answers. -/
def atL (s : ByteArray) (ln col : Int) : Int × Int :=
  if 20000 < s.size then (0, 2)
  else if ln < 1 ∨ ((linesL s).length : Int) < ln ∨ col < 1 ∨ (s.size : Int) + 1 < col then (0, 1)
  else
    let i : Int := ((linesL s).getD (ln - 1).toNat 0 : Int) + col - 1
    let e : Int := if ln < (linesL s).length then ((linesL s).getD ln.toNat 0 : Int) - 1 else s.size
    if e < i then (0, 1) else (i, 0)
set_option maxHeartbeats 1000000 in
set_option maxRecDepth 100000 in
theorem At_any (s : ByteArray) (ln col : Int) (w : World) : Calls Tryd.prog 33 #[.string s, .agg #[.int .i64 ln, .int .i64 col]] w fun e w' =>
    e = .returned (.tuple #[.int .i64 (atL s ln col).1, .int .i64 (atL s ln col).2]) ∧ Below w.heap.size w w' := by
  go_enter Tryd.func33, Tryd.ntmps33
  go_upto_region 1 with fail
  have n1 := heap_alloc_new w (.cells #[.int .i64 ln, .int .i64 col] 45)
  have b1 := below_box w (.cells #[.int .i64 ln, .int .i64 col] 45)
  generalize w.alloc (.cells #[.int .i64 ln, .int .i64 col] 45) = w1 at n1 b1 ⊢
  have l1 := (Array.getElem?_eq_some_iff.1 n1).1
  by_cases h1 : 20000 < s.size
  · have h1' : (20000 : Int) < (s.size : Int) := by omega
    have hat : atL s ln col = (0, 2) := by unfold atL; rw [if_pos h1]
    have HA := Lib.hid hat
    clear hat
    go_wp2_with fail
    go_ret2
    exact ⟨by rw [HA.out]; rfl, b1⟩
  · have h1' : ¬ (20000 : Int) < (s.size : Int) := by omega
    go_wp2_with fail
    refine (lines_any s (by omega) _).mono ?_
    rintro e w2 ⟨lv, rfl, own, hb2⟩
    obtain ⟨ao, cap, rfl⟩ := own_form own
    have p0 : w2.cell? ⟨w.heap.size, 0, none⟩ = some (.int .i64 ln) := by rw [Lib.cell_of_heap ((hb2.block _ l1).trans n1)]; rfl
    have p1 : w2.cell? ⟨w.heap.size, 1, none⟩ = some (.int .i64 col) := by rw [Lib.cell_of_heap ((hb2.block _ l1).trans n1)]; rfl
    have hb : Below w.heap.size w w2 := b1.trans (hb2.mono b1.size)
    by_cases h2 : ln < 1 ∨ ((linesL s).length : Int) < ln ∨ col < 1 ∨ (s.size : Int) + 1 < col
    · have hat : atL s ln col = (0, 1) := by unfold atL; rw [if_neg h1, if_pos h2]
      have HA := Lib.hid hat
      clear hat
      go_wp2_with fail
      all_goals (go_ret2; exact ⟨by rw [HA.out]; rfl, hb⟩)
    · have h3 : 1 ≤ ln ∧ ln ≤ (linesL s).length ∧ 1 ≤ col ∧ col ≤ (s.size : Int) + 1 := by omega
      obtain ⟨h3, h4, h5, h6⟩ := h3
      obtain ⟨k, rfl⟩ : ∃ k : Nat, ln = (k : Int) + 1 := ⟨(ln - 1).toNat, by omega⟩
      have hk : k < (linesL s).length := by omega
      obtain ⟨g, hv, hcell⟩ := int_cells own (by omega)
      injection hv with hv1 hv2 hv3
      subst hv1
      have c0 := hcell k hk
      have hle : ∀ j (h : j < (linesL s).length), (linesL s)[j] ≤ s.size := linesL_le s
      have hle0 := hle k hk
      by_cases h7 : k + 1 < (linesL s).length
      · have c1 := hcell (k + 1) h7
        have hle1 := hle (k + 1) h7
        obtain ⟨a, hx⟩ : ∃ a, a = (linesL s)[k] := ⟨_, rfl⟩
        obtain ⟨b, hy⟩ : ∃ b, b = (linesL s)[k + 1] := ⟨_, rfl⟩
        rw [← hx] at c0 hle0
        rw [← hy] at c1 hle1
        clear hle hcell
        have hat : atL s ((k : Int) + 1) col = if (b : Int) - 1 < (a : Int) + col - 1 then (0, 1) else ((a : Int) + col - 1, 0) := by
          unfold atL
          rw [if_neg h1, if_neg h2]
          have e1 : ((k : Int) + 1 - 1).toNat = k := by omega
          have e2 : ((k : Int) + 1).toNat = k + 1 := by omega
          have d1 : (linesL s).getD k 0 = a := by rw [hx]; simp [List.getD, hk]
          have d2 : (linesL s).getD (k + 1) 0 = b := by rw [hy]; simp [List.getD, h7]
          simp only [e1, e2, d1, d2]
          rw [if_pos (show (k : Int) + 1 < ((linesL s).length : Int) by omega)]
        have HA := Lib.hid hat
        have h7' : (k : Int) + 1 < ((linesL s).length : Int) := by omega
        have hlen : (linesL s).length ≤ 20001 := by have := nlL_len s.data.toList 0; simp [linesL] at *; omega
        go_wp2_with fail
        have e1 : IntKind.i64.wrap ((k : Int) + 1 - 1) = k := by rw [IntWalk.i64_in _ (by omega)]; omega
        have e2 : IntKind.i64.wrap ((a : Int) + col) = (a : Int) + col := IntWalk.i64_in _ (by omega)
        have e3 : IntKind.i64.wrap ((a : Int) + col - 1) = (a : Int) + col - 1 := IntWalk.i64_in _ (by omega)
        have e4 : (0 : Int) ≤ (k : Int) := by omega
        have e5 : ((k : Int)).toNat = k := by omega
        have e6 : (k : Int) < ((linesL s).length : Int) := by omega
        clear hx hy hat
        go_quiet (fail)
        clear e1 e2 e3 e4 e5
        have hb3 := below_drewN hb nq
        have p0' : (w2.drewN nq).cell? ⟨w.heap.size, 0, none⟩ = some (.int .i64 ((k : Int) + 1)) := p0
        have c1' : (w2.drewN nq).cell? ⟨g, k + 1, none⟩ = some (.int .i64 b) := c1
        generalize w2.drewN nq = w3 at hb3 p0' c1' ⊢
        have e7 : IntKind.i64.wrap ((b : Int) - 1) = (b : Int) - 1 := IntWalk.i64_in _ (by omega)
        have e4 : (0 : Int) ≤ (k : Int) + 1 := by omega
        have e5 : ((k : Int) + 1).toNat = k + 1 := by omega
        clear p0 p1 c0 c1 own
        by_cases h8 : (b : Int) - 1 < (a : Int) + col - 1
        · rw [if_pos h8] at HA
          go_wp2_with fail
          go_ret2
          exact ⟨by rw [HA.out]; rfl, hb3⟩
        · rw [if_neg h8] at HA
          go_wp2_with fail
          go_ret2
          exact ⟨by rw [HA.out]; rfl, hb3⟩
      · obtain ⟨a, hx⟩ : ∃ a, a = (linesL s)[k] := ⟨_, rfl⟩
        rw [← hx] at c0 hle0
        clear hle hcell
        have hat : atL s ((k : Int) + 1) col = if (s.size : Int) < (a : Int) + col - 1 then (0, 1) else ((a : Int) + col - 1, 0) := by
          unfold atL
          rw [if_neg h1, if_neg h2]
          have e1 : ((k : Int) + 1 - 1).toNat = k := by omega
          have d1 : (linesL s).getD k 0 = a := by rw [hx]; simp [List.getD, hk]
          simp only [e1, d1]
          rw [if_neg (show ¬ (k : Int) + 1 < ((linesL s).length : Int) by omega)]
        have HA := Lib.hid hat
        have h7' : ¬ (k : Int) + 1 < ((linesL s).length : Int) := by omega
        have hlen : (linesL s).length ≤ 20001 := by have := nlL_len s.data.toList 0; simp [linesL] at *; omega
        go_wp2_with fail
        have e1 : IntKind.i64.wrap ((k : Int) + 1 - 1) = k := by rw [IntWalk.i64_in _ (by omega)]; omega
        have e2 : IntKind.i64.wrap ((a : Int) + col) = (a : Int) + col := IntWalk.i64_in _ (by omega)
        have e3 : IntKind.i64.wrap ((a : Int) + col - 1) = (a : Int) + col - 1 := IntWalk.i64_in _ (by omega)
        have e4 : (0 : Int) ≤ (k : Int) := by omega
        have e5 : ((k : Int)).toNat = k := by omega
        have e6 : (k : Int) < ((linesL s).length : Int) := by omega
        clear hx hat
        go_quiet (fail)
        clear e1 e2 e3 e4 e5
        have hb3 := below_drewN hb nq
        have p0' : (w2.drewN nq).cell? ⟨w.heap.size, 0, none⟩ = some (.int .i64 ((k : Int) + 1)) := p0
        generalize w2.drewN nq = w3 at hb3 p0' ⊢
        clear p0 p1 c0 own
        by_cases h8 : (s.size : Int) < (a : Int) + col - 1
        · rw [if_pos h8] at HA
          go_wp2_with fail
          go_ret2
          exact ⟨by rw [HA.out]; rfl, hb3⟩
        · rw [if_neg h8] at HA
          go_wp2_with fail
          go_ret2
          exact ⟨by rw [HA.out]; rfl, hb3⟩
end Go.Proofs.YtafofcenphopbaaDoor
