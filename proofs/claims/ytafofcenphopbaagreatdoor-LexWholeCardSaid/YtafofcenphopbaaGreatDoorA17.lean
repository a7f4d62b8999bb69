/- lines. -/
import Derived.Test.YtafofcenphopbaaGreatDoorA16
namespace Go.Proofs.YtafofcenphopbaaGreatDoor
open Go.RowKit Lx

/-- Where each further line begins. -/
def nlL : Bs → Nat → List Nat
  | [], _ => []
  | c :: l, i => if c = 10 then (i + 1) :: nlL l (i + 1) else nlL l (i + 1)
def linesL (s : ByteArray) : List Nat := 0 :: nlL s.data.toList 0
def icells (l : List Nat) : List Value := l.map fun (n : Nat) => .int .i64 n
theorem nlL_len (l : Bs) : ∀ i, (nlL l i).length ≤ l.length := by
  induction l with
  | nil => intro i; exact Nat.le_refl _
  | cons c l ih =>
    intro i
    have := ih (i + 1)
    unfold nlL
    split <;> simp <;> omega
theorem undIs : Tryz.prog.underlying 105 = some (.slice 3) := by kernel_rfl
theorem infoI : (Tryz.prog.info? 3).map (fun i => (i.zero, i.size, i.bytes)) = some (some (.int .i64 0), 1, 8) := by kernel_rfl
theorem icells_app (a b : List Nat) : icells (a ++ b) = icells a ++ icells b := by simp [icells]
theorem nlL_drop (s : ByteArray) (k : Nat) (h : k < s.size) : nlL (s.data.toList.drop k) k = if s[k] = 10 then (k + 1) :: nlL (s.data.toList.drop (k + 1)) (k + 1) else nlL (s.data.toList.drop (k + 1)) (k + 1) := by
  have h' : k < s.data.toList.length := by simpa using h
  rw [List.drop_eq_getElem_cons h', nlL]
  have e : s.data.toList[k] = s[k] := by simp [ByteArray.getElem_eq_getElem_data]
  rw [e]
set_option maxHeartbeats 1000000 in
set_option maxRecDepth 100000 in
theorem lines_any (s : ByteArray) (hs : s.size ≤ 1000000) (w : World) : Calls Tryz.prog 70 #[.string s] w fun e w' =>
    ∃ lv, e = .returned lv ∧ w'.ownsRow w.heap.size 3 1 lv (linesL s).length (icells (linesL s)) ∧ Below w.heap.size w w' := by
  obtain ⟨i0, hi0, hz0, hz1, hz2⟩ := info_parts infoI
  go_enter Tryz.func70, Tryz.ntmps70
  go_wp2_with fail
  have own0 : (w.alloc (.cells #[.int .i64 0] 3)).ownsRow w.heap.size 3 1 (.slice (some ⟨w.heap.size, 0, none⟩) 1 1) 1 (icells [0]) := by
    refine ⟨by simp [icells], .inr ⟨w.heap.size, 1, #[.int .i64 0], rfl, Nat.le_refl _, heap_alloc_new w _, Nat.le_refl _, by decide, rfl, rfl⟩⟩
  have b0 := below_box w (.cells #[.int .i64 0] 3)
  generalize w.alloc (.cells #[.int .i64 0] 3) = w1 at own0 b0 ⊢
  generalize (Value.slice (some ⟨w.heap.size, 0, none⟩) 1 1) = v0 at own0 ⊢
  have HS : Aside (w.heap.size ≤ w1.heap.size) := b0.size
  go_loopw [3, 8] (fun v q wr => ∃ (k : Nat) (acc : List Nat), k ≤ s.size ∧ q = .int .i64 k ∧ Aside (linesL s = acc ++ nlL (s.data.toList.drop k) k) ∧ acc.length ≤ k + 1 ∧ wr.ownsRow w.heap.size 3 1 v acc.length (icells acc) ∧ Below w.heap.size w wr) (fun _ q _ => s.size - (intOf q).toNat)
  case atStart => exact ⟨0, [0], Nat.zero_le _, rfl, rfl, Nat.le_refl _, own0, b0⟩
  case round =>
    obtain ⟨k, acc, hk, rfl, HQ, hlen, own, bel⟩ := hrel
    obtain ⟨ao, cap, rfl⟩ := own_form own
    by_cases hlt : k < s.size
    · have hltz : (k : Int) < (s.size : Int) := by omega
      have HN := Lib.hid (nlL_drop s k hlt)
      by_cases hc : s[k] = 10
      · have hx1 : acc.length + 1 ≤ maxLen := by unfold maxLen; omega
        have hx2 : (acc.length + 1) * 8 ≤ 140737488355328 := by omega
        have hone : ∀ u ∈ [Value.int .i64 ((k : Int) + 1)], u.oneCell' = true := by
          intro u hu; simp at hu; subst hu; rfl
        have hp1 : 0 < 1 := by decide
        go_upto_region 6 with fail
        go_wp2_with (at_builtin; refine wpList_append_own _ rfl _ _ 105 rfl w.heap.size 3 i0 (.int .i64 0) 1 8 undIs hi0 hz0 hz1 hz2 rfl hp1 _ _ _ rfl (own.alloc _) ⟨wr.heap.size, 0, none⟩ 1 1 [.int .i64 ((k : Int) + 1)] rfl rfl ?dd1 ?dd2 ?dd3 ?dd4 ?dd5 ?_)
        case dd1 => exact World.news_of_block (heap_alloc_new wr (.cells #[.int .i64 ((k : Int) + 1)] 3))
        case dd2 => exact hone
        case dd3 => exact hx1
        case dd4 => exact hx2
        case dd5 => have := bel.size; simp; omega
        intro v5 w5 own5 hgrow _
        have hb5 := (bel.alloc bel.size (.cells #[.int .i64 ((k : Int) + 1)] 3)).grown hgrow (by have := bel.size; simp; omega) (fun j hj => (own.lt j hj).1)
        clear hgrow hone
        go_wp2_with fail
        go_roundw
        case rel =>
          refine ⟨k + 1, acc ++ [k + 1], hlt, by go_num, ?_, by simp; omega, ?_, hb5⟩
          · show Aside _
            exact HQ.out.trans (by rw [HN.out, if_pos hc]; simp)
          · rw [icells_app, List.length_append]; exact own5
        case measure => simp [intOf]; omega
      · have h10 : ((s[k].toNat : Int) == 10) = false := by
          rw [beq_eq_false_iff_ne]
          intro e
          exact hc (UInt8.toNat_inj.1 (by show s[k].toNat = 10; omega))
        go_wp2_with fail
        go_roundw
        case rel =>
          refine ⟨k + 1, acc, hlt, by go_num, ?_, by omega, own, bel⟩
          show Aside _
          exact HQ.out.trans (by rw [HN.out, if_neg hc])
        case measure => simp [intOf]; omega
    · have hke : k = s.size := by omega
      subst hke
      go_wp2_with fail
      go_ret
      refine ⟨_, rfl, ?_, bel⟩
      have e : linesL s = acc := by rw [HQ.out, List.drop_eq_nil_of_le (by simp)]; simp [nlL]
      rw [e]; exact own
end Go.Proofs.YtafofcenphopbaaGreatDoor
