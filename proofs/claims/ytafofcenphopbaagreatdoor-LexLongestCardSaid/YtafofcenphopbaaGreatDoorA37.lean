/- slices.Clone at tokens, bare, alike. -/
import Derived.Test.YtafofcenphopbaaGreatDoorA36
import Derived.Shelf.SlicesE.Clone
import Derived.Laws.OwnMore
namespace Go.Proofs.YtafofcenphopbaaGreatDoor
open Go.RowKit Lx

def Tryz.laysClone_ren : Go.Shelf.Ren := ⟨fun | 41 => 98 | n => n, fun | 22 => 22 | 23 => 24 | 4 => 4 | n => n, fun | n => n⟩
theorem Tryz.laysClone : Go.Proofs.SlLaysE0.n41 Tryz.prog Tryz.laysClone_ren := {
  mixed := by kernel_rfl
  f41 := ⟨Tryz.f98.name, by decide, Tryz.func98.trans (congrArg some (by kernel_rfl))⟩
  t4 := Tryz.underlying4
  a4 := Tryz.isAgg4
  z4 := Tryz.sizeOf4
  v4 := Tryz.zeroValue4
  t22 := Tryz.underlying22
  a22 := Tryz.isAgg22
  z22 := Tryz.sizeOf22
  v22 := Tryz.zeroValue22 }
theorem rcells_length (ts : List T3) : (rcells ts).length = ts.length * 3 := by
  induction ts with
  | nil => rfl
  | cons t ts ih => unfold rcells at *; rw [List.flatMap_cons, List.length_append, ih]; simp [tokv]; omega
theorem rcells_app (a b : List T3) : rcells (a ++ b) = rcells a ++ rcells b := by simp [rcells]
theorem rcells_one (ts : List T3) : ∀ u ∈ rcells ts, u.oneCell' = true := by
  intro u hu
  unfold rcells at hu
  rw [List.mem_flatMap] at hu
  obtain ⟨t, _, hu⟩ := hu
  simp [tokv] at hu
  rcases hu with rfl | rfl | rfl <;> rfl
theorem rcells_at (ts : List T3) (m : Nat) (u : Value) (h : (rcells ts)[m]? = some u) : ∃ j i, j < ts.length ∧ m = j * 3 + i ∧ (tokv ts[j]!)[i]? = some u := by
  have hm : m < ts.length * 3 := by rw [← rcells_length]; exact (List.getElem?_eq_some_iff.1 h).1
  refine ⟨m / 3, m % 3, by omega, by omega, ?_⟩
  have hj : m / 3 < ts.length := by omega
  have hi : m % 3 < 3 := by omega
  have ht : (tokv ts[m / 3]!)[m % 3]? = some ((tokv ts[m / 3]!)[m % 3]'(by simp [tokv]; omega)) := List.getElem?_eq_getElem _
  have := rcells_get ts (m / 3) hj (m % 3) _ ht
  rw [show m / 3 * 3 + m % 3 = m from by omega, h] at this
  rw [this]; exact ht
set_option maxHeartbeats 1000000 in
set_option maxRecDepth 100000 in
theorem Clone_any (v : Value) (ts : List T3) (w : World) (h : TokRow w v ts) (hn : ts.length ≤ 1000000) : Calls Tryz.prog 98 #[v] w fun e w' =>
    ∃ v', e = .returned v' ∧ w'.ownsRow w.heap.size 24 3 v' ts.length (rcells ts) ∧ Below w.heap.size w w' := by
  obtain ⟨ao, cap, rfl, h⟩ := h
  by_cases h0 : ts = []
  · subst h0
    cases ao with
    | none =>
      refine (AnyE.slices_Clone_nil Tryz.laysClone 0 cap w).mono ?_
      rintro e w' ⟨rfl, rfl⟩
      exact ⟨_, rfl, World.ownsRow_nil _ _ _ _, Below.refl _ _⟩
    | some a =>
      clear h
      obtain ⟨i0, hi0, hz0, hz1, hz2⟩ := info_parts infoT
      have n1 := heap_alloc_new w (.cells #[] 24)
      have own1 : (w.alloc (.cells #[] 24)).ownsRow w.heap.size 24 3 (.slice (some ⟨w.heap.size, 0, none⟩) 0 0) 0 [] :=
        ⟨rfl, .inr ⟨w.heap.size, 0, #[], rfl, Nat.le_refl _, n1, Nat.le_refl _, by unfold maxLen; omega, rfl, rfl⟩⟩
      have b1 := below_box w (.cells #[] 24)
      have hp3 : 0 < 3 := by decide
      have q22 : ∀ (w : World) (a : Option Addr) (n c n' c' : Nat), (binOp .eql 22 (.slice a n c) (.slice none n' c')).run Tryz.prog w = .ok (.bool a.isNone) w := fun w a n c n' c' => Lib.run_eql_slice_nil w _ _ a n c n' c' undTs
      have hno : ∀ u ∈ ([] : List Value), u.oneCell' = true := fun u hu => by cases hu
      have hne : ∀ (j : Nat) (u : Value), ([] : List Value)[j]? = some u → (w.alloc (.cells #[] 24)).cell? (a.add j) = some u := fun j u hu => by simp at hu
      go_enter Tryz.func98, Tryz.ntmps98
      go_wp2_with (at_builtin; refine wpList_append_own _ rfl _ _ 22 rfl w.heap.size 24 i0 (.agg #[.int .i64 0, .string ⟨#[]⟩, .int .i64 0]) 3 32 undTs hi0 hz0 hz1 hz2 rfl hp3 _ _ _ rfl own1 a 0 cap [] rfl rfl hne hno ?dd3 ?dd4 ?dd5 ?_)
      case dd3 => decide
      case dd4 => decide
      case dd5 => simp
      intro v' w' own2 hg _
      go_wp2_with fail
      go_ret
      exact ⟨v', rfl, own2, b1.grown hg (by simp) (fun k hk => by cases hk; exact Nat.le_refl _)⟩
  · obtain ⟨b, off, rfl, hlt, hc⟩ := h h0
    obtain ⟨i0, hi0, hz0, hz1, hz2⟩ := info_parts infoT
    refine (AnyE.slices_Clone Tryz.laysClone i0 _ 3 32 hi0 hz0 hz1 hz2 rfl (by decide) Tryz.sizeOf24 b off ts.length cap (rcells ts) w (rcells_length ts) (by unfold maxLen; omega) (by omega)
      (fun m u hm => by
        obtain ⟨j, i, hj, rfl, hu⟩ := rcells_at ts m u hm
        rw [← Nat.add_assoc]; exact hc j hj i u hu) (rcells_one ts)).mono ?_
    rintro e w' ⟨v', rfl, hown, _, hb⟩
    exact ⟨v', rfl, hown, hb⟩
/-- A token without its place. -/
def T3.z (t : T3) : T3 := ⟨t.kind, t.text, 0⟩
theorem rcells_set (a r : List T3) (t : T3) : (rcells (a ++ t :: r)).set (a.length * 3 + 2) (.int .i64 0) = rcells (a ++ t.z :: r) := by
  rw [rcells_app, rcells_app, List.set_append_right _ _ (by rw [rcells_length]; omega), rcells_length]
  rw [show a.length * 3 + 2 - a.length * 3 = 2 from by omega]
  rfl
set_option maxHeartbeats 1000000 in
set_option maxRecDepth 100000 in
theorem bare_any (v : Value) (ts : List T3) (w : World) (h : TokRow w v ts) (hn : ts.length ≤ 1000000) : Calls Tryz.prog 67 #[v] w fun e w' =>
    ∃ v', e = .returned v' ∧ TokRow w' v' (ts.map T3.z) ∧ Below w.heap.size w w' := by
  have hcl := fun W (hW : TokRow W v ts) => Clone_any v ts W hW hn
  have HCL := Lib.hid hcl
  clear hcl
  go_enter Tryz.func67, Tryz.ntmps67
  go_wp2_with fail
  refine (HCL.out _ h).mono ?_
  rintro e w1 ⟨v', rfl, own, hb⟩
  obtain ⟨ao, cap, rfl⟩ := own_form own
  have hz := hb.size
  clear h HCL
  generalize hnn : ts.length = n at own hn ⊢
  have HN := Lib.hid hnn
  clear hnn
  go_wp2_with fail
  go_loopw [9] (fun q wr => ∃ k : Nat, k ≤ n ∧ q = .int .i64 k ∧ wr.ownsRow w.heap.size 24 3 (.slice ao n cap) n (rcells ((ts.take k).map T3.z ++ ts.drop k)) ∧ Below w.heap.size w wr) (fun q _ => n - (intOf q).toNat)
  case atStart => exact ⟨0, Nat.zero_le _, rfl, by simpa using own, hb⟩
  case round =>
    obtain ⟨k, hk, rfl, ownr, bel⟩ := hrel
    by_cases hlt : k < n
    · have hltz : (k : Int) < (n : Int) := by omega
      have hkl : k < ts.length := by rw [HN.out]; exact hlt
      have hdr : ts.drop k = ts[k] :: ts.drop (k + 1) := List.drop_eq_getElem_cons hkl
      have hrow := ownr
      rcases ownr.2 with ⟨_, h0⟩ | ⟨g, cap', cur, hv, hB, hg, rest⟩
      · omega
      injection hv with e1 e2 e3
      subst e1
      clear rest hg
      have hst := hrow.stored (k * 3 + 2) (.int .i64 0)
      have hln : ((ts.take k).map T3.z).length = k := by rw [List.length_map, List.length_take]; omega
      rw [hdr] at hst
      have hset := rcells_set ((ts.take k).map T3.z) (ts.drop (k + 1)) ts[k]
      rw [hln] at hset
      rw [hset] at hst
      have hx : (ts.take (k + 1)).map T3.z ++ ts.drop (k + 1) = (ts.take k).map T3.z ++ ts[k].z :: ts.drop (k + 1) := by
        rw [List.take_succ_eq_append_getElem hkl, List.map_append, List.append_assoc]; rfl
      rw [← hx] at hst
      have hf := hrow.frozenAt (k * 3 + 2)
      have hcl := hrow.cellAt (k * 3 + 2) (by omega)
      have hcc : wr.cell? ⟨g, k * 3 + 2, none⟩ = some (.int .i64 ts[k].at_) := by
        rw [hcl, hdr, rcells_app, List.getElem?_append_right (by rw [rcells_length, hln]; omega), rcells_length, hln]
        rw [show k * 3 + 2 - k * 3 = 2 from by omega]; rfl
      have HST := Lib.hid hst
      clear hst hset hx hcl hdr hrow own hln ownr
      go_wp2_with fail
      go_roundw
      case rel => exact ⟨k + 1, hlt, by go_num, HST.out.1, bel.setCell (p := ⟨g, k * 3 + 2, none⟩) hB _⟩
      case measure => simp [intOf]; omega
    · have hke : k = n := by omega
      subst hke
      have hltz : ¬ (k : Int) < (k : Int) := by omega
      rw [← HN.out, List.take_length, List.drop_length, List.append_nil] at ownr
      have hr : TokRow wr (.slice ao ts.length cap) (ts.map T3.z) := TokRow.of_own (by rw [List.length_map]; exact ownr)
      rw [HN.out] at hr
      have HR := Lib.hid hr
      clear hr ownr
      go_wp2_with fail
      go_ret
      exact ⟨_, rfl, HR.out, bel⟩
set_option maxHeartbeats 1000000 in
set_option maxRecDepth 100000 in
theorem alike_any (a b : Value) (xs ys : List T3) (w : World) (h1 : TokRow w a xs) (h2 : TokRow w b ys) (hx : xs.length ≤ 1000000) (hy : ys.length ≤ 1000000) :
    Calls Tryz.prog 27 #[a, b] w fun e w' => e = .returned (.bool (decide (xs.map T3.z = ys.map T3.z))) ∧ Below w.heap.size w w' := by
  go_enter Tryz.func27, Tryz.ntmps27
  go_wp2_with fail
  refine (bare_any a xs _ h1 hx).mono ?_
  rintro e w1 ⟨v1, rfl, r1, hb1⟩
  go_wp2_with fail
  refine (bare_any b ys _ (h2.after hb1) hy).mono ?_
  rintro e w2 ⟨v2, rfl, r2, hb2⟩
  go_wp2_with fail
  refine (EqualT_any v1 v2 _ _ _ (r1.after hb2) r2 (by rw [List.length_map]; omega) (by rw [List.length_map]; omega)).mono ?_
  rintro e w3 ⟨rfl, q, rfl⟩
  go_wp2_with fail
  go_ret
  exact ⟨rfl, below_drewN (hb1.trans (hb2.mono hb1.size)) q⟩
end Go.Proofs.YtafofcenphopbaaGreatDoor
