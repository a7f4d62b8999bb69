/- The reference: scan, Tokens, Comments. -/
import Derived.Test.YtafofcenphopbaaGreatDoorC3
import Derived.Test.YtafofcenphopbaaGreatDoorA8
import Derived.Test.YtafofcenphopbaaGreatDoorA12
namespace Go.Proofs.YtafofcenphopbaaGreatDoor
open Go.RowKit Lx

/-- The place of a token that a reader hands back, told on. -/
theorem RQ.on {o : Option Got} {i : Nat} {w W : World} {k : Int} {t : ByteArray} {a m : Int} {ok : Bool} (hb : Below w.heap.size w W)
    (h : match o with
    | some g => ok = true ∧ k = g.kind ∧ t = ⟨g.text.toArray⟩ ∧ a = i ∧ m = ((i + g.len : Nat) : Int)
    | none => ok = false) : RQ o i w (.returned (.tuple #[.agg #[.int .i64 k, .string t, .int .i64 a], .int .i64 m, .bool ok])) W := ⟨hb, k, t, a, m, ok, rfl, h⟩
set_option maxHeartbeats 4000000 in
set_option maxRecDepth 100000 in
theorem rtoken_name (s : ByteArray) (i : Nat) (hi : i < s.size) (hs : s.size ≤ 1000000) (w : World) (h1 : begI (atI s i) = true) : Calls Tryz.prog 130 #[.string s, .int .i64 i] w (RQ (good (nextI signList (s.data.toList.drop i))) i w) := by
  have hn := nextI_name s i h1
  have hg := atI_get s i hi
  obtain ⟨r1, r2⟩ := byte_range s i hi
  obtain ⟨p, hp⟩ : ∃ p, p = i + nameLen (s.data.toList.drop i) := ⟨_, rfl⟩
  have hnl := nameLen_le (s.data.toList.drop i)
  rw [List.length_drop, show s.data.toList.length = s.size from rfl] at hnl
  have hps : p ≤ s.size := by omega
  have hip : i ≤ p := by omega
  have hpi : nameLen (s.data.toList.drop i) = p - i := by omega
  have hW : ∀ W, Calls Tryz.prog 149 #[.string s, .int .i64 i, .bool true] W fun e w' => e = .returned (.int .i64 p) ∧ w' = W := fun W => by
    have := while_names s i (Nat.le_of_lt hi) hs W
    rwa [← hp] at this
  obtain ⟨t, ht⟩ : ∃ t : Bs, t = ((s.data.toList.drop i).take (p - i)).map upC := ⟨_, rfl⟩
  have hup : upS (s.extract i p) = ⟨t.toArray⟩ := by rw [extract_take s i p hip hps, ht]; rfl
  rw [hpi, ← ht] at hn
  have hsz : (⟨t.toArray⟩ : ByteArray).size ≤ 1000000 := by
    rw [ba_size, ht, List.length_map, List.length_take]; omega
  have hC : ∀ W, Calls Tryz.prog 104 #[.string (s.extract i p)] W fun e w' => e = .returned (.string ⟨t.toArray⟩) ∧ Below W.heap.size W w' := fun W => by
    have := capitals_any (s.extract i p) (by rw [ByteArray.size_extract]; omega) W
    rwa [hup] at this
  have HB : Hid (begI ((s[i]'hi).toNat : Int) = true) := Lib.hid (by rw [← hg]; exact h1)
  have HW := Lib.hid hW
  have HC := Lib.hid hC
  have HN := Lib.hid hn
  have HM : Hid (i + (p - i) = p) := Lib.hid (by omega)
  have u0 : (i : Int) < (s.size : Int) := by omega
  have u1 : (0 : Int) ≤ (i : Int) := by omega
  have u2 : (i : Int) ≤ (p : Int) := by omega
  have u3 : (p : Int) ≤ (s.size : Int) := by omega
  clear hW hC hn hup ht hp hpi hnl hg h1
  go_enter Tryz.func130, Tryz.ntmps130
  go_wp2_with (first | (go_at_call 126; refine (rbegins_any _ r1 r2 _).mono ?_; rintro e w' ⟨rfl, hw⟩; rw [hw, HB.out]; clear hw) | (go_at_call 149; refine (HW.out _).mono ?_; rintro e w' ⟨rfl, hw⟩; rw [hw]; clear hw))
  have b0 := below_box w (.cells #[.int .i64 0, .string ⟨#[]⟩, .int .i64 0] 24)
  have n0 := heap_alloc_new w (.cells #[.int .i64 0, .string ⟨#[]⟩, .int .i64 0] 24)
  generalize w.alloc (.cells #[.int .i64 0, .string ⟨#[]⟩, .int .i64 0] 24) = w1 at b0 n0 ⊢
  have l0 := (Array.getElem?_eq_some_iff.1 n0).1
  refine (HC.out _).mono ?_
  rintro e wa ⟨rfl, hba⟩
  have na := (hba.block _ l0).trans n0
  have ba := b0.trans (hba.mono b0.size)
  have la := (Array.getElem?_eq_some_iff.1 na).1
  clear hba n0 b0 l0
  go_upto_region 5 with fail
  have nb := heap_alloc_new wa (.cells #[.int .i64 1, .string ⟨t.toArray⟩, .int .i64 i] 24)
  have bb := ba.trans ((below_box wa (.cells #[.int .i64 1, .string ⟨t.toArray⟩, .int .i64 i] 24)).mono ba.size)
  have nr := ((below_box wa (.cells #[.int .i64 1, .string ⟨t.toArray⟩, .int .i64 i] 24)).block _ la).trans na
  generalize wa.alloc (.cells #[.int .i64 1, .string ⟨t.toArray⟩, .int .i64 i] 24) = w2 at nb bb nr ⊢
  generalize wa.heap.size = T at nb la ⊢
  have st : Stored w w.heap.size T (.cells #[.int .i64 0, .string ⟨#[]⟩, .int .i64 0] 24) (.cells #[.int .i64 1, .string ⟨t.toArray⟩, .int .i64 i] 24) w2 := ⟨nr, nb, bb⟩
  have FF := far3 (B := w.heap.size) (b := T) (by omega)
  clear na ba nb bb nr HC HW
  cases hck : checkI 1 ⟨t.toArray⟩
  · have HCK : Hid (∀ W, Calls Tryz.prog 38 #[.agg #[.int .i64 1, .string ⟨t.toArray⟩, .int .i64 i]] W fun e w' => e = .returned (.int .i64 50) ∧ Below W.heap.size W w') := Lib.hid (fun W => by have := rCheck_any 1 ⟨t.toArray⟩ i hsz W; rwa [hck] at this)
    have HK := Lib.hid hck
    clear hck
    have t0 : w2.cell? ⟨T, 0, none⟩ = some (.int .i64 1) := cell_of_row _ _ 0 _ _ _ st.box
    have t1 : w2.cell? ⟨T, 1, none⟩ = some (.string ⟨t.toArray⟩) := cell_of_row _ _ 1 _ _ _ st.box
    have t2 : w2.cell? ⟨T, 2, none⟩ = some (.int .i64 i) := cell_of_row _ _ 2 _ _ _ st.box
    have q0 : w2.cell? ⟨w.heap.size, 0, none⟩ = some (.int .i64 0) := cell_of_row _ _ 0 _ _ _ st.res
    have q1 : w2.cell? ⟨w.heap.size, 1, none⟩ = some (.string ⟨#[]⟩) := cell_of_row _ _ 1 _ _ _ st.res
    have q2 : w2.cell? ⟨w.heap.size, 2, none⟩ = some (.int .i64 0) := cell_of_row _ _ 2 _ _ _ st.res
    have f0 := Lib.frozen_of_heap st.res 0
    have f1 := Lib.frozen_of_heap st.res 1
    have f2 := Lib.frozen_of_heap st.res 2
    go_region_held3 (fun w' => w'.cell? ⟨T, 0, none⟩ = some (.int .i64 1) ∧ w'.cell? ⟨T, 1, none⟩ = some (.string ⟨t.toArray⟩) ∧ w'.cell? ⟨T, 2, none⟩ = some (.int .i64 i)) (go_keep) (first | (go_at_call 38; refine (HCK.out _).mono ?_; rintro e w' ⟨rfl, hb⟩; have st' := st.call rfl hb; have t0 : w'.cell? ⟨T, 0, none⟩ = some (.int .i64 1) := cell_of_row _ _ 0 _ _ _ st'.box; have t1 : w'.cell? ⟨T, 1, none⟩ = some (.string ⟨t.toArray⟩) := cell_of_row _ _ 1 _ _ _ st'.box; have t2 : w'.cell? ⟨T, 2, none⟩ = some (.int .i64 i) := cell_of_row _ _ 2 _ _ _ st'.box; have q0 : w'.cell? ⟨w.heap.size, 0, none⟩ = some (.int .i64 0) := cell_of_row _ _ 0 _ _ _ st'.res; have q1 : w'.cell? ⟨w.heap.size, 1, none⟩ = some (.string ⟨#[]⟩) := cell_of_row _ _ 1 _ _ _ st'.res; have q2 : w'.cell? ⟨w.heap.size, 2, none⟩ = some (.int .i64 0) := cell_of_row _ _ 2 _ _ _ st'.res; have f0 := Lib.frozen_of_heap st'.res 0; have f1 := Lib.frozen_of_heap st'.res 1; have f2 := Lib.frozen_of_heap st'.res 2; clear hb) | (go_at_call 38; refine (HCK.out _).mono ?_; rintro e w' ⟨rfl, hb⟩; have st' := (st.put (Nat.le_refl _) (by omega) (.int .i64 1) (.string ⟨t.toArray⟩) (.int .i64 i)).call rfl hb; have t0 : w'.cell? ⟨T, 0, none⟩ = some (.int .i64 1) := cell_of_row _ _ 0 _ _ _ st'.box; have t1 : w'.cell? ⟨T, 1, none⟩ = some (.string ⟨t.toArray⟩) := cell_of_row _ _ 1 _ _ _ st'.box; have t2 : w'.cell? ⟨T, 2, none⟩ = some (.int .i64 i) := cell_of_row _ _ 2 _ _ _ st'.box; have q0 : w'.cell? ⟨w.heap.size, 0, none⟩ = some (.int .i64 1) := cell_of_row _ _ 0 _ _ _ st'.res; have q1 : w'.cell? ⟨w.heap.size, 1, none⟩ = some (.string ⟨t.toArray⟩) := cell_of_row _ _ 1 _ _ _ st'.res; have q2 : w'.cell? ⟨w.heap.size, 2, none⟩ = some (.int .i64 i) := cell_of_row _ _ 2 _ _ _ st'.res; have f0 := Lib.frozen_of_heap st'.res 0; have f1 := Lib.frozen_of_heap st'.res 1; have f2 := Lib.frozen_of_heap st'.res 2; clear hb))
    all_goals (
      go_wp2_with fail
      first | (have stf := st'.put (Nat.le_refl _) (by omega) (.int .i64 1) (.string ⟨t.toArray⟩) (.int .i64 i); refine bodyPost_ret (v := .tuple #[.agg #[.int .i64 1, .string ⟨t.toArray⟩, .int .i64 i], .int .i64 (p : Int), .bool false]) (by simp [results, Tryz.results130, go_sem, q0, q1, q2]) rfl ?_; rw [HN.out]; exact (show RQ (good (some ⟨1, t, p - i, true⟩)) i w _ _ from RQ.got rfl rfl rfl (by have := HM.out; first | rfl | (push_cast; omega) | omega) (by rw [HK.out]; rfl) (below_to stf.below rfl))) | (have stf := st'; refine bodyPost_ret (v := .tuple #[.agg #[.int .i64 1, .string ⟨t.toArray⟩, .int .i64 i], .int .i64 (p : Int), .bool false]) (by simp [results, Tryz.results130, go_sem, q0, q1, q2]) rfl ?_; rw [HN.out]; exact (show RQ (good (some ⟨1, t, p - i, true⟩)) i w _ _ from RQ.got rfl rfl rfl (by have := HM.out; first | rfl | (push_cast; omega) | omega) (by rw [HK.out]; rfl) (below_to stf.below rfl))))
  · have HCK : Hid (∀ W, Calls Tryz.prog 38 #[.agg #[.int .i64 1, .string ⟨t.toArray⟩, .int .i64 i]] W fun e w' => e = .returned (.int .i64 0) ∧ Below W.heap.size W w') := Lib.hid (fun W => by have := rCheck_any 1 ⟨t.toArray⟩ i hsz W; rwa [hck] at this)
    have HK := Lib.hid hck
    clear hck
    have t0 : w2.cell? ⟨T, 0, none⟩ = some (.int .i64 1) := cell_of_row _ _ 0 _ _ _ st.box
    have t1 : w2.cell? ⟨T, 1, none⟩ = some (.string ⟨t.toArray⟩) := cell_of_row _ _ 1 _ _ _ st.box
    have t2 : w2.cell? ⟨T, 2, none⟩ = some (.int .i64 i) := cell_of_row _ _ 2 _ _ _ st.box
    have q0 : w2.cell? ⟨w.heap.size, 0, none⟩ = some (.int .i64 0) := cell_of_row _ _ 0 _ _ _ st.res
    have q1 : w2.cell? ⟨w.heap.size, 1, none⟩ = some (.string ⟨#[]⟩) := cell_of_row _ _ 1 _ _ _ st.res
    have q2 : w2.cell? ⟨w.heap.size, 2, none⟩ = some (.int .i64 0) := cell_of_row _ _ 2 _ _ _ st.res
    have f0 := Lib.frozen_of_heap st.res 0
    have f1 := Lib.frozen_of_heap st.res 1
    have f2 := Lib.frozen_of_heap st.res 2
    go_region_held3 (fun w' => w'.cell? ⟨T, 0, none⟩ = some (.int .i64 1) ∧ w'.cell? ⟨T, 1, none⟩ = some (.string ⟨t.toArray⟩) ∧ w'.cell? ⟨T, 2, none⟩ = some (.int .i64 i)) (go_keep) (first | (go_at_call 38; refine (HCK.out _).mono ?_; rintro e w' ⟨rfl, hb⟩; have st' := st.call rfl hb; have t0 : w'.cell? ⟨T, 0, none⟩ = some (.int .i64 1) := cell_of_row _ _ 0 _ _ _ st'.box; have t1 : w'.cell? ⟨T, 1, none⟩ = some (.string ⟨t.toArray⟩) := cell_of_row _ _ 1 _ _ _ st'.box; have t2 : w'.cell? ⟨T, 2, none⟩ = some (.int .i64 i) := cell_of_row _ _ 2 _ _ _ st'.box; have q0 : w'.cell? ⟨w.heap.size, 0, none⟩ = some (.int .i64 0) := cell_of_row _ _ 0 _ _ _ st'.res; have q1 : w'.cell? ⟨w.heap.size, 1, none⟩ = some (.string ⟨#[]⟩) := cell_of_row _ _ 1 _ _ _ st'.res; have q2 : w'.cell? ⟨w.heap.size, 2, none⟩ = some (.int .i64 0) := cell_of_row _ _ 2 _ _ _ st'.res; have f0 := Lib.frozen_of_heap st'.res 0; have f1 := Lib.frozen_of_heap st'.res 1; have f2 := Lib.frozen_of_heap st'.res 2; clear hb) | (go_at_call 38; refine (HCK.out _).mono ?_; rintro e w' ⟨rfl, hb⟩; have st' := (st.put (Nat.le_refl _) (by omega) (.int .i64 1) (.string ⟨t.toArray⟩) (.int .i64 i)).call rfl hb; have t0 : w'.cell? ⟨T, 0, none⟩ = some (.int .i64 1) := cell_of_row _ _ 0 _ _ _ st'.box; have t1 : w'.cell? ⟨T, 1, none⟩ = some (.string ⟨t.toArray⟩) := cell_of_row _ _ 1 _ _ _ st'.box; have t2 : w'.cell? ⟨T, 2, none⟩ = some (.int .i64 i) := cell_of_row _ _ 2 _ _ _ st'.box; have q0 : w'.cell? ⟨w.heap.size, 0, none⟩ = some (.int .i64 1) := cell_of_row _ _ 0 _ _ _ st'.res; have q1 : w'.cell? ⟨w.heap.size, 1, none⟩ = some (.string ⟨t.toArray⟩) := cell_of_row _ _ 1 _ _ _ st'.res; have q2 : w'.cell? ⟨w.heap.size, 2, none⟩ = some (.int .i64 i) := cell_of_row _ _ 2 _ _ _ st'.res; have f0 := Lib.frozen_of_heap st'.res 0; have f1 := Lib.frozen_of_heap st'.res 1; have f2 := Lib.frozen_of_heap st'.res 2; clear hb))
    all_goals (
      go_wp2_with fail
      first | (have stf := st'.put (Nat.le_refl _) (by omega) (.int .i64 1) (.string ⟨t.toArray⟩) (.int .i64 i); refine bodyPost_ret (v := .tuple #[.agg #[.int .i64 1, .string ⟨t.toArray⟩, .int .i64 i], .int .i64 (p : Int), .bool true]) (by simp [results, Tryz.results130, go_sem, q0, q1, q2]) rfl ?_; rw [HN.out]; exact (show RQ (good (some ⟨1, t, p - i, true⟩)) i w _ _ from RQ.got rfl rfl rfl (by have := HM.out; first | rfl | (push_cast; omega) | omega) (by rw [HK.out]; rfl) (below_to stf.below rfl))) | (have stf := st'; refine bodyPost_ret (v := .tuple #[.agg #[.int .i64 1, .string ⟨t.toArray⟩, .int .i64 i], .int .i64 (p : Int), .bool true]) (by simp [results, Tryz.results130, go_sem, q0, q1, q2]) rfl ?_; rw [HN.out]; exact (show RQ (good (some ⟨1, t, p - i, true⟩)) i w _ _ from RQ.got rfl rfl rfl (by have := HM.out; first | rfl | (push_cast; omega) | omega) (by rw [HK.out]; rfl) (below_to stf.below rfl))))
set_option maxHeartbeats 4000000 in
set_option maxRecDepth 100000 in
theorem rtoken_digit (s : ByteArray) (i : Nat) (hi : i < s.size) (hs : s.size ≤ 1000000) (w : World) (h1 : begI (atI s i) = false) (h3 : digI (atI s i) = true) : Calls Tryz.prog 130 #[.string s, .int .i64 i] w (RQ (good (nextI signList (s.data.toList.drop i))) i w) := by
  have hg := atI_get s i hi
  obtain ⟨r1, r2⟩ := byte_range s i hi
  have HB : Hid (begI ((s[i]'hi).toNat : Int) = false) := Lib.hid (by rw [← hg]; exact h1)
  have u0 : (i : Int) < (s.size : Int) := by omega
  have u1 : (0 : Int) ≤ (i : Int) := by omega
  have h2 : ¬ atI s i = 39 := fun h => by rw [h] at h3; exact absurd h3 (by decide)
  have HN := Lib.hid (nextI_num s i h1 h2 (.inl h3))
  have HD : Hid (digI ((s[i]'hi).toNat : Int) = true) := Lib.hid (by rw [← hg]; exact h3)
  clear hg h1 h2 h3
  go_enter Tryz.func130, Tryz.ntmps130
  go_wp2_with (first | (go_at_call 126; refine (rbegins_any _ r1 r2 _).mono ?_; rintro e w' ⟨rfl, hw⟩; rw [hw, HB.out]; clear hw) | (go_at_call 88; refine (rdigit_any _ r1 r2 _).mono ?_; rintro e w' ⟨rfl, hw⟩; rw [hw, HD.out]; clear hw))
  have b0 := below_box w (.cells #[.int .i64 0, .string ⟨#[]⟩, .int .i64 0] 24)
  have n0 := heap_alloc_new w (.cells #[.int .i64 0, .string ⟨#[]⟩, .int .i64 0] 24)
  generalize w.alloc (.cells #[.int .i64 0, .string ⟨#[]⟩, .int .i64 0] 24) = w1 at b0 n0 ⊢
  have l0 := (Array.getElem?_eq_some_iff.1 n0).1
  refine (rnumber_any s i hi hs _).mono ?_
  rintro e wa ⟨hba, k, t, a, m, ok, rfl, hm⟩
  have na := (hba.block _ l0).trans n0
  have ba := b0.trans (hba.mono b0.size)
  have q0 : wa.cell? ⟨w.heap.size, 0, none⟩ = some (.int .i64 0) := cell_of_row _ _ 0 _ _ _ na
  have q1 : wa.cell? ⟨w.heap.size, 1, none⟩ = some (.string ⟨#[]⟩) := cell_of_row _ _ 1 _ _ _ na
  have q2 : wa.cell? ⟨w.heap.size, 2, none⟩ = some (.int .i64 0) := cell_of_row _ _ 2 _ _ _ na
  have f0 := Lib.frozen_of_heap na 0
  have f1 := Lib.frozen_of_heap na 1
  have f2 := Lib.frozen_of_heap na 2
  have HMM := Lib.hid hm
  clear hba na n0 b0 l0 hm
  go_wp2_with fail
  refine bodyPost_ret (v := .tuple #[.agg #[.int .i64 k, .string t, .int .i64 a], .int .i64 m, .bool ok]) (by simp [results, Tryz.results130, go_sem, q0, q1, q2]) rfl ?_
  rw [HN.out]
  exact RQ.on (below_far3 ba _ _ _) HMM.out
set_option maxHeartbeats 4000000 in
set_option maxRecDepth 100000 in
theorem rtoken_point (s : ByteArray) (i : Nat) (hi : i < s.size) (hs : s.size ≤ 1000000) (w : World) (h1 : begI (atI s i) = false) (h4 : atI s i = 46) (h5 : digI (atI s (i + 1)) = true) : Calls Tryz.prog 130 #[.string s, .int .i64 i] w (RQ (good (nextI signList (s.data.toList.drop i))) i w) := by
  have hg := atI_get s i hi
  obtain ⟨r1, r2⟩ := byte_range s i hi
  have HB : Hid (begI ((s[i]'hi).toNat : Int) = false) := Lib.hid (by rw [← hg]; exact h1)
  have u0 : (i : Int) < (s.size : Int) := by omega
  have u1 : (0 : Int) ≤ (i : Int) := by omega
  have h2 : ¬ atI s i = 39 := fun h => by rw [h] at h4; exact absurd h4 (by decide)
  have HN := Lib.hid (nextI_num s i h1 h2 (.inr ⟨h4, h5⟩))
  have HD : Hid (digI ((s[i]'hi).toNat : Int) = false) := Lib.hid (by rw [← hg, h4]; rfl)
  have e46 : (((s[i]'hi).toNat : Int) == 46) = true := by rw [← hg, h4]; rfl
  have hlt2 : i + 1 < s.size := atI_lt s (i + 1) (by
    rw [show ((i + 1 : Nat) : Int) = (i : Int) + 1 from by omega]
    have : digI (atI s ((i : Int) + 1)) = true := h5
    unfold digI at this; simp at this; omega)
  have hg2 := atI_get s (i + 1) hlt2
  obtain ⟨x1, x2⟩ := byte_range s (i + 1) hlt2
  have HD2 : Hid (digI ((s[i + 1]'hlt2).toNat : Int) = true) := Lib.hid (by rw [← hg2]; exact h5)
  have u2 : (i : Int) + 1 < (s.size : Int) := by omega
  clear hg hg2 h1 h2 h4 h5
  go_enter Tryz.func130, Tryz.ntmps130
  go_wp2_with (first | (go_at_call 126; refine (rbegins_any _ r1 r2 _).mono ?_; rintro e w' ⟨rfl, hw⟩; rw [hw, HB.out]; clear hw) | (go_at_call 88; refine (rdigit_any _ r1 r2 _).mono ?_; rintro e w' ⟨rfl, hw⟩; rw [hw, HD.out]; clear hw) | (go_at_call 88; refine (rdigit_any _ x1 x2 _).mono ?_; rintro e w' ⟨rfl, hw⟩; rw [hw, HD2.out]; clear hw))
  have b0 := below_box w (.cells #[.int .i64 0, .string ⟨#[]⟩, .int .i64 0] 24)
  have n0 := heap_alloc_new w (.cells #[.int .i64 0, .string ⟨#[]⟩, .int .i64 0] 24)
  generalize w.alloc (.cells #[.int .i64 0, .string ⟨#[]⟩, .int .i64 0] 24) = w1 at b0 n0 ⊢
  have l0 := (Array.getElem?_eq_some_iff.1 n0).1
  refine (rnumber_any s i hi hs _).mono ?_
  rintro e wa ⟨hba, k, t, a, m, ok, rfl, hm⟩
  have na := (hba.block _ l0).trans n0
  have ba := b0.trans (hba.mono b0.size)
  have q0 : wa.cell? ⟨w.heap.size, 0, none⟩ = some (.int .i64 0) := cell_of_row _ _ 0 _ _ _ na
  have q1 : wa.cell? ⟨w.heap.size, 1, none⟩ = some (.string ⟨#[]⟩) := cell_of_row _ _ 1 _ _ _ na
  have q2 : wa.cell? ⟨w.heap.size, 2, none⟩ = some (.int .i64 0) := cell_of_row _ _ 2 _ _ _ na
  have f0 := Lib.frozen_of_heap na 0
  have f1 := Lib.frozen_of_heap na 1
  have f2 := Lib.frozen_of_heap na 2
  have HMM := Lib.hid hm
  clear hba na n0 b0 l0 hm
  go_wp2_with fail
  refine bodyPost_ret (v := .tuple #[.agg #[.int .i64 k, .string t, .int .i64 a], .int .i64 m, .bool ok]) (by simp [results, Tryz.results130, go_sem, q0, q1, q2]) rfl ?_
  rw [HN.out]
  exact RQ.on (below_far3 ba _ _ _) HMM.out
set_option maxHeartbeats 4000000 in
set_option maxRecDepth 100000 in
theorem rtoken_quote (s : ByteArray) (i : Nat) (hi : i < s.size) (hs : s.size ≤ 1000000) (w : World) (h1 : begI (atI s i) = false) (h2 : atI s i = 39) : Calls Tryz.prog 130 #[.string s, .int .i64 i] w (RQ (good (nextI signList (s.data.toList.drop i))) i w) := by
  have hg := atI_get s i hi
  obtain ⟨r1, r2⟩ := byte_range s i hi
  have HB : Hid (begI ((s[i]'hi).toNat : Int) = false) := Lib.hid (by rw [← hg]; exact h1)
  have u0 : (i : Int) < (s.size : Int) := by omega
  have u1 : (0 : Int) ≤ (i : Int) := by omega
  have HN := Lib.hid (nextI_quote s i h1 h2)
  have HD : Hid (digI ((s[i]'hi).toNat : Int) = false) := Lib.hid (by rw [← hg, h2]; rfl)
  have e46 : (((s[i]'hi).toNat : Int) == 46) = false := by rw [← hg, h2]; rfl
  have e39 : (((s[i]'hi).toNat : Int) == 39) = true := by rw [← hg, h2]; rfl
  clear hg h1 h2
  go_enter Tryz.func130, Tryz.ntmps130
  go_wp2_with (first | (go_at_call 126; refine (rbegins_any _ r1 r2 _).mono ?_; rintro e w' ⟨rfl, hw⟩; rw [hw, HB.out]; clear hw) | (go_at_call 88; refine (rdigit_any _ r1 r2 _).mono ?_; rintro e w' ⟨rfl, hw⟩; rw [hw, HD.out]; clear hw))
  have b0 := below_box w (.cells #[.int .i64 0, .string ⟨#[]⟩, .int .i64 0] 24)
  have n0 := heap_alloc_new w (.cells #[.int .i64 0, .string ⟨#[]⟩, .int .i64 0] 24)
  generalize w.alloc (.cells #[.int .i64 0, .string ⟨#[]⟩, .int .i64 0] 24) = w1 at b0 n0 ⊢
  have l0 := (Array.getElem?_eq_some_iff.1 n0).1
  refine (rquoted_any s i hi hs _).mono ?_
  rintro e wa ⟨hba, k, t, a, m, ok, rfl, hm⟩
  have na := (hba.block _ l0).trans n0
  have ba := b0.trans (hba.mono b0.size)
  have q0 : wa.cell? ⟨w.heap.size, 0, none⟩ = some (.int .i64 0) := cell_of_row _ _ 0 _ _ _ na
  have q1 : wa.cell? ⟨w.heap.size, 1, none⟩ = some (.string ⟨#[]⟩) := cell_of_row _ _ 1 _ _ _ na
  have q2 : wa.cell? ⟨w.heap.size, 2, none⟩ = some (.int .i64 0) := cell_of_row _ _ 2 _ _ _ na
  have f0 := Lib.frozen_of_heap na 0
  have f1 := Lib.frozen_of_heap na 1
  have f2 := Lib.frozen_of_heap na 2
  have HMM := Lib.hid hm
  clear hba na n0 b0 l0 hm
  go_wp2_with fail
  refine bodyPost_ret (v := .tuple #[.agg #[.int .i64 k, .string t, .int .i64 a], .int .i64 m, .bool ok]) (by simp [results, Tryz.results130, go_sem, q0, q1, q2]) rfl ?_
  rw [HN.out]
  exact RQ.on (below_far3 ba _ _ _) HMM.out
theorem opFirst_drop (l : Bs) (k : Nat) (h : k < opList.length) : opFirst l (opList.drop k) = if (opList[k]'h).data.toList = l.take (opList[k]'h).size then some (opList[k]'h) else opFirst l (opList.drop (k + 1)) := by
  rw [List.drop_eq_getElem_cons h]; rfl
theorem op_sizes : ∀ o ∈ opList, 1 ≤ o.size ∧ o.size ≤ 2 := by decide
theorem op_there (s : ByteArray) (i : Nat) (x : ByteArray) (h : i + x.size ≤ s.size) : ((s.extract i (i + x.size)).toList == x.toList) = decide (x.data.toList = (s.data.toList.drop i).take x.size) := by
  rw [beq_toList, extract_take s i (i + x.size) (by omega) h, show i + x.size - i = x.size by omega]
  apply decide_eq_decide.2
  constructor
  · intro h; exact (congrArg (fun b : ByteArray => b.data.toList) h).symm
  · intro h; exact ba_ext (by rw [h])
theorem op_far (s : ByteArray) (i : Nat) (hi : i < s.size) (x : ByteArray) (h : ¬ i + x.size ≤ s.size) : ¬ x.data.toList = (s.data.toList.drop i).take x.size := by
  intro he
  have := congrArg List.length he
  rw [List.length_take, drop_len] at this
  have e : x.data.toList.length = x.size := rfl
  omega
set_option maxHeartbeats 4000000 in
set_option maxRecDepth 100000 in
theorem rtoken_op (s : ByteArray) (i : Nat) (hi : i < s.size) (hs : s.size ≤ 1000000) (w : World) (ho : OpAt s i) : Calls Tryz.prog 130 #[.string s, .int .i64 i] w (RQ (good (nextI signList (s.data.toList.drop i))) i w) := by
  have hn : nextI signList (s.data.toList.drop i) = opTok (s.data.toList.drop i) := by rw [nextI_op s i ho, opTok_eq _ (by rw [drop_len]; omega)]
  obtain ⟨h1, h2, h3, h4⟩ := ho
  have hg := atI_get s i hi
  obtain ⟨r1, r2⟩ := byte_range s i hi
  have HB : Hid (begI ((s[i]'hi).toNat : Int) = false) := Lib.hid (by rw [← hg]; exact h1)
  have u0 : (i : Int) < (s.size : Int) := by omega
  have u1 : (0 : Int) ≤ (i : Int) := by omega
  have HN : Hid (good (nextI signList (s.data.toList.drop i)) = opTok (s.data.toList.drop i)) := Lib.hid (by rw [hn, op_good])
  have HD : Hid (digI ((s[i]'hi).toNat : Int) = false) := Lib.hid (by rw [← hg]; exact h3)
  have e39 : (((s[i]'hi).toNat : Int) == 39) = false := by rw [← hg, beq_eq_false_iff_ne]; exact h2
  have hcase : (((s[i]'hi).toNat : Int) == 46) = false ∨ ((((s[i]'hi).toNat : Int) == 46) = true ∧ ¬ (i : Int) + 1 < (s.size : Int)) ∨ ((((s[i]'hi).toNat : Int) == 46) = true ∧ ∃ hlt2 : i + 1 < s.size, digI ((s[i + 1]'hlt2).toNat : Int) = false) := by
    by_cases e : atI s i = 46
    · right
      rcases Nat.lt_or_ge (i + 1) s.size with h | h
      · right
        refine ⟨by rw [← hg, e]; rfl, h, ?_⟩
        rw [← atI_get s (i + 1) h]
        cases hk : digI (atI s ((i + 1 : Nat) : Int)) with
        | false => rfl
        | true => exact absurd ⟨e, by rw [show (i : Int) + 1 = ((i + 1 : Nat) : Int) from by omega]; exact hk⟩ h4
      · left; exact ⟨by rw [← hg, e]; rfl, by omega⟩
    · left; rw [← hg, beq_eq_false_iff_ne]; exact e
  have HCA := Lib.hid hcase
  clear hg h1 h2 h3 h4 hn hcase
  go_enter Tryz.func130, Tryz.ntmps130
  go_upto_region 6 with (go_at_call 126; refine (rbegins_any _ r1 r2 _).mono ?_; rintro e w' ⟨rfl, hw⟩; rw [hw, HB.out]; clear hw)
  have b0 := below_box w (.cells #[.int .i64 0, .string ⟨#[]⟩, .int .i64 0] 24)
  have n0 := heap_alloc_new w (.cells #[.int .i64 0, .string ⟨#[]⟩, .int .i64 0] 24)
  generalize w.alloc (.cells #[.int .i64 0, .string ⟨#[]⟩, .int .i64 0] 24) = w1 at b0 n0 ⊢
  have l0 := (Array.getElem?_eq_some_iff.1 n0).1
  go_cut [52] (fun c wx => w1 = wx ∧ c = .bool false)
  case first =>
    rcases HCA.out with c1 | ⟨c1, c2⟩ | ⟨c1, hlt2, c2⟩
    · go_wp2_with (go_at_call 88; refine (rdigit_any _ r1 r2 _).mono ?_; rintro e w' ⟨rfl, hw⟩; rw [hw, HD.out]; clear hw)
      go_meet
      case rel => exact ⟨rfl, rfl⟩
    · go_wp2_with (go_at_call 88; refine (rdigit_any _ r1 r2 _).mono ?_; rintro e w' ⟨rfl, hw⟩; rw [hw, HD.out]; clear hw)
      go_meet
      case rel => exact ⟨rfl, rfl⟩
    · obtain ⟨x1, x2⟩ := byte_range s (i + 1) hlt2
      have HD2 := Lib.hid c2
      have u2 : (i : Int) + 1 < (s.size : Int) := by omega
      clear c2
      go_wp2_with (first | (go_at_call 88; refine (rdigit_any _ r1 r2 _).mono ?_; rintro e w' ⟨rfl, hw⟩; rw [hw, HD.out]; clear hw) | (go_at_call 88; refine (rdigit_any _ x1 x2 _).mono ?_; rintro e w' ⟨rfl, hw⟩; rw [hw, HD2.out]; clear hw))
      go_meet
      case rel => exact ⟨rfl, rfl⟩
  case rest =>
    obtain ⟨rfl, rfl⟩ := hcut
    go_wp2_with (go_at_call 80; refine (roperators_any _).mono ?_; rintro e w' ⟨rfl, hw2⟩; have HW2 := Lib.hid hw2; clear hw2)
    have hw2 := HW2.out
    clear HW2
    have C2 := Lib.hid (fun (k : Nat) (h : k < opList.length) => (show w'.cell? ⟨w1.heap.size, k, none⟩ = some (.string (opList[k]'h)) from by
      rw [hw2]
      have := cell_box w1 (opList.map Value.string).toArray 9 k
      rw [this]; simp [h]))
    have b2 := below_box w1 (.cells (opList.map Value.string).toArray 9)
    rw [← hw2] at b2
    have n2 := (b2.block _ l0).trans n0
    have bb := b0.trans (b2.mono b0.size)
    clear hw2 b2 n0 b0
    generalize w1.heap.size = B at C2 l0 ⊢
    have hol : opList.length = 24 := rfl
    go_loopw [11] (fun q wr => ∃ k : Nat, k ≤ 24 ∧ q = .int .i64 k ∧ opFirst (s.data.toList.drop i) opList = opFirst (s.data.toList.drop i) (opList.drop k) ∧ ∃ q, wr = w'.drewN q) (fun q _ => 24 - (intOf q).toNat)
    case atStart => exact ⟨0, Nat.zero_le _, rfl, rfl, 0, rfl⟩
    case round =>
      obtain ⟨k, hk, rfl, hq, q, rfl⟩ := hrel
      have nr := n2
      have q0 : w'.cell? ⟨w.heap.size, 0, none⟩ = some (.int .i64 0) := cell_of_row _ _ 0 _ _ _ nr
      have q1 : w'.cell? ⟨w.heap.size, 1, none⟩ = some (.string ⟨#[]⟩) := cell_of_row _ _ 1 _ _ _ nr
      have q2 : w'.cell? ⟨w.heap.size, 2, none⟩ = some (.int .i64 0) := cell_of_row _ _ 2 _ _ _ nr
      have f0 := Lib.frozen_of_heap nr 0
      have f1 := Lib.frozen_of_heap nr 1
      have f2 := Lib.frozen_of_heap nr 2
      have hbq := below_drewN bb q
      clear nr
      by_cases hlt : k < 24
      · have hl : k < opList.length := by omega
        rw [opFirst_drop _ k hl] at hq
        have hcell := C2.out k hl
        have hsz := op_sizes _ (List.getElem_mem hl)
        generalize opList[k] = x at hq hcell hsz
        obtain ⟨z1, z2⟩ := hsz
        have g1 : (k : Int) < 24 := by omega
        have g2 : (0 : Int) ≤ (k : Int) := by omega
        by_cases hfit : i + x.size ≤ s.size
        · have y1 : decide ((i : Int) + (x.size : Int) ≤ (s.size : Int)) = true := decide_eq_true (by omega)
          have y2 : (i : Int) + (x.size : Int) ≤ (s.size : Int) := by omega
          have y3 : (i : Int) ≤ (i : Int) + (x.size : Int) := by omega
          have y4 : ((i : Int) + (x.size : Int)).toNat = i + x.size := by omega
          have y5 : IntKind.i64.wrap ((i : Int) + (x.size : Int)) = (i : Int) + (x.size : Int) := IntWalk.i64_in _ (by omega)
          have hthere := op_there s i x hfit
          by_cases heq : x.data.toList = (s.data.toList.drop i).take x.size
          · rw [if_pos heq] at hq
            rw [decide_eq_true heq] at hthere
            have HF : Hid (opTok (s.data.toList.drop i) = some ⟨6, x.data.toList, x.size, true⟩) := Lib.hid (by unfold opTok; rw [hq]; rfl)
            clear hq heq hfit
            go_wp2_with fail
            go_quiet (fail)
            go_wp2_with fail
            refine bodyPost_ret (v := .tuple #[.agg #[.int .i64 6, .string x, .int .i64 i], .int .i64 ((i : Int) + (x.size : Int)), .bool true]) (by simp [results, Tryz.results130, go_sem, q0, q1, q2]) rfl ?_
            rw [HN.out, HF.out]
            exact RQ.on (below_far3 (below_drewN bb _) _ _ _) ⟨rfl, rfl, ba_ext (by simp), rfl, by push_cast; rfl⟩
          · rw [if_neg heq] at hq
            rw [decide_eq_false heq] at hthere
            have HQ := Lib.hid hq
            clear hq heq hfit
            go_wp2_with fail
            go_quiet (fail)
            go_wp2_with fail
            go_roundw
            case rel => exact ⟨k + 1, hlt, by go_num, HQ.out, _, rfl⟩
            case measure => simp [intOf]; omega
        · rw [if_neg (op_far s i hi x hfit)] at hq
          have y1 : decide ((i : Int) + (x.size : Int) ≤ (s.size : Int)) = false := decide_eq_false (by omega)
          have y5 : IntKind.i64.wrap ((i : Int) + (x.size : Int)) = (i : Int) + (x.size : Int) := IntWalk.i64_in _ (by omega)
          have HQ := Lib.hid hq
          clear hq hfit
          go_wp2_with fail
          go_quiet (fail)
          go_wp2_with fail
          go_roundw
          case rel => exact ⟨k + 1, hlt, by go_num, HQ.out, _, rfl⟩
          case measure => simp [intOf]; omega
      · obtain rfl : k = 24 := by omega
        have HF : Hid (opTok (s.data.toList.drop i) = none) := Lib.hid (by unfold opTok; rw [hq]; rfl)
        clear hq hlt hk
        go_wp2_with fail
        refine bodyPost_ret (v := .tuple #[.agg #[.int .i64 0, .string ⟨#[]⟩, .int .i64 0], .int .i64 0, .bool false]) (by simp [results, Tryz.results130, go_sem, q0, q1, q2]) rfl ?_
        rw [HN.out, HF.out]
        exact RQ.on (below_far3 hbq _ _ _) rfl
theorem rtoken_any (s : ByteArray) (i : Nat) (hi : i < s.size) (hs : s.size ≤ 1000000) (w : World) : Calls Tryz.prog 130 #[.string s, .int .i64 i] w (RQ (good (nextI signList (s.data.toList.drop i))) i w) := by
  cases h1 : begI (atI s i) with
  | true => exact rtoken_name s i hi hs w h1
  | false =>
    by_cases h2 : atI s i = 39
    · exact rtoken_quote s i hi hs w h1 h2
    · cases h3 : digI (atI s i) with
      | true => exact rtoken_digit s i hi hs w h1 h3
      | false =>
        by_cases h4 : atI s i = 46 ∧ digI (atI s (i + 1)) = true
        · exact rtoken_point s i hi hs w h1 h4.1 h4.2
        · exact rtoken_op s i hi hs w ⟨h1, h2, h3, h4⟩
end Go.Proofs.YtafofcenphopbaaGreatDoor
namespace Go.Proofs.YtafofcenphopbaaGreatDoor
open Go.RowKit Lx

theorem com_none (s : ByteArray) (i : Nat) (h : atI s i = 47 ∧ atI s (i + 1) = 42) (hc : cmt (s.data.toList.drop i) = none) : comR s i = -1 := by
  rw [show (i : Int) + 1 = ((i + 1 : Nat) : Int) from by omega, atI_nat, atI_nat] at h
  unfold comR; rw [if_pos h, hc]
theorem com_some (s : ByteArray) (i n : Nat) (h : atI s i = 47 ∧ atI s (i + 1) = 42) (hc : cmt (s.data.toList.drop i) = some n) : comR s i = ((i + n : Nat) : Int) := by
  rw [show (i : Int) + 1 = ((i + 1 : Nat) : Int) from by omega, atI_nat, atI_nat] at h
  unfold comR; rw [if_pos h, hc]
theorem com_zero (s : ByteArray) (i : Nat) (h : ¬ (atI s i = 47 ∧ atI s (i + 1) = 42)) : comR s i = 0 := by
  refine comR_no s i ?_
  rw [show (i : Int) + 1 = ((i + 1 : Nat) : Int) from by omega, atI_nat, atI_nat] at h
  exact h
set_option maxHeartbeats 4000000 in
set_option maxRecDepth 100000 in
theorem rscan_any (s : ByteArray) (hs : s.size ≤ 140737488351232) (w : World) : Calls Tryz.prog 105 #[.string s] w (ScanQ s w) := by
  by_cases hbig : 20000 < s.size
  · have hr : scanR s = ⟨[], [], 0, 2⟩ := by unfold scanR; rw [if_pos hbig]
    have HR := Lib.hid hr
    clear hr
    go_enter Tryz.func105, Tryz.ntmps105
    go_wp2_with fail
    refine bodyPost_ret (results_four rfl _ _ _) rfl ?_
    exact scanQ_err HR.out (by decide) (Below.refl _ _)
  · obtain ⟨i0, hi0, hz0, hz1, hz2⟩ := info_parts infoT
    obtain ⟨j0, hj0, hy0, hy1, hy2⟩ := info_parts infoP
    have hsz : s.size ≤ 20000 := by omega
    have hp3 : 0 < 3 := by decide
    have hp2 : 0 < 2 := by decide
    go_enter Tryz.func105, Tryz.ntmps105
    go_wp2_with fail
    go_loopw [6, 7, 8] (fun lv cv q wr => ∃ (i : Nat) (ts : List Tok) (cs : List (Nat × Nat)), i ≤ s.size ∧ q = .int .i64 i ∧ ts.length ≤ i ∧ ts.length ≤ 5000 ∧ cs.length ≤ i ∧ scanR s = (scn s i ts.length).pre ts cs ∧
      wr.ownsRow w.heap.size 24 3 lv ts.length (tcells ts) ∧ wr.ownsRow w.heap.size 69 2 cv cs.length (ccells cs) ∧ Below w.heap.size w wr) (fun _ _ q _ => s.size - (intOf q).toNat)
    case atStart => exact ⟨0, [], [], Nat.zero_le _, rfl, Nat.le_refl _, by simp, Nat.le_refl _, by rw [scanR_eq s hsz]; simp [Res.pre], World.ownsRow_nil _ _ _ _, World.ownsRow_nil _ _ _ _, Below.refl _ _⟩
    case round =>
      obtain ⟨i, ts, cs, hi, rfl, hti, ht5, hci, hq, ownT, ownC, hb⟩ := hrel
      obtain ⟨ao, cap, rfl⟩ := own_form ownT
      obtain ⟨co, cap2, rfl⟩ := own_form ownC
      have HQ := Lib.hid hq
      clear hq
      by_cases hlt : i < s.size
      · have hg := atI_get s i hlt
        obtain ⟨r1, r2⟩ := byte_range s i hlt
        have u0 : (i : Int) < (s.size : Int) := by omega
        have u1 : (0 : Int) ≤ (i : Int) := by omega
        by_cases hbl : atI s (i : Int) = 32 ∨ atI s (i : Int) = 10
        · have hst : scanR s = (scn s (i + 1) ts.length).pre ts cs := by rw [HQ.out, scn_unfold s i _ hlt, if_pos hbl]
          have HST := Lib.hid hst
          have hc : (((s[i]'hlt).toNat : Int) == 32) = true ∨ ((((s[i]'hlt).toNat : Int) == 32) = false ∧ (((s[i]'hlt).toNat : Int) == 10) = true) := by
            rw [← hg]
            rcases hbl with h | h
            · left; rw [h]; rfl
            · right; rw [h]; exact ⟨rfl, rfl⟩
          clear hst hbl hg
          rcases hc with c1 | ⟨c1, c2⟩
          all_goals
            go_wp2_with fail
            go_roundw
            case rel => exact ⟨i + 1, ts, cs, hlt, by go_num, by omega, ht5, by omega, HST.out, ownT, ownC, hb⟩
            case measure => simp [intOf]; omega
        · have n32 : (((s[i]'hlt).toNat : Int) == 32) = false := by rw [← hg, beq_eq_false_iff_ne]; omega
          have n10 : (((s[i]'hlt).toNat : Int) == 10) = false := by rw [← hg, beq_eq_false_iff_ne]; omega
          have hcom := fun W => comment_any s i hlt (by omega) W
          by_cases hco : atI s (i : Int) = 47 ∧ atI s ((i : Int) + 1) = 42
          · cases hm : cmt (s.data.toList.drop i) with
            | none =>
              rw [com_none s i hco hm] at hcom
              have hres : scanR s = ⟨ts, cs, i, 50⟩ := by rw [HQ.out, scn_unfold s i _ hlt, if_neg hbl, if_pos hco, hm]; simp [Res.pre]
              have HR := Lib.hid hres
              have HC := Lib.hid hcom
              clear hres hcom hm hco hbl hg
              go_wp2_with (go_at_call 129; refine (HC.out _).mono ?_; rintro e w' ⟨rfl, hw⟩; rw [hw]; clear hw)
              refine bodyPost_ret (results_four rfl _ _ _) rfl ?_
              exact scanQ_err HR.out (by decide) hb
            | some n =>
              have hpos := cmt_pos hm
              have hle := cmt_le hm
              rw [com_some s i n hco hm] at hcom
              have hst : scanR s = (scn s (i + n) ts.length).pre ts (cs ++ [(i, i + n)]) := by
                rw [HQ.out, scn_unfold s i _ hlt, if_neg hbl, if_pos hco, hm]
                simp only
                rw [addC_pre, pre_pre, List.append_nil]
              obtain ⟨p, hp⟩ : ∃ p, p = i + n := ⟨_, rfl⟩
              rw [← hp] at hcom hst hle
              have hip : i < p := by omega
              have HST := Lib.hid hst
              have HC := Lib.hid hcom
              have u2 : ¬ (p : Int) < 0 := by omega
              have u3 : (0 : Int) < (p : Int) := by omega
              have u4 : (0 : Int) ≤ (p : Int) := by omega
              have u5 : 0 < p := by omega
              clear hst hcom hm hco hbl hg hp hpos
              have hone : ∀ u ∈ [Value.int .i64 (i : Int), Value.int .i64 (p : Int)], u.oneCell' = true := by
                intro u hu; simp at hu; rcases hu with rfl | rfl <;> rfl
              go_wp2_with (first | (go_at_call 129; refine (HC.out _).mono ?_; rintro e w' ⟨rfl, hw⟩; rw [hw]; clear hw) | (at_builtin; refine wpList_append_own _ rfl _ _ 63 rfl w.heap.size 69 j0 (.agg #[.int .i64 0, .int .i64 0]) 2 16 undPs hj0 hy0 hy1 hy2 rfl hp2 _ _ _ rfl (ownC.alloc _) ⟨wr.heap.size, 0, none⟩ 1 1 [.int .i64 i, .int .i64 p] rfl rfl ?kk1 ?kk2 ?kk3 ?kk4 ?kk5 ?_))
              case kk1 => exact World.news_of_block (heap_alloc_new wr (.cells #[.int .i64 i, .int .i64 p] 69))
              case kk2 => exact hone
              case kk3 => unfold maxLen; omega
              case kk4 => omega
              case kk5 => have := hb.size; simp; omega
              intro v5 w5 ownC5 hgrow _
              have ownT5 := (ownT.alloc (.cells #[.int .i64 i, .int .i64 p] 69)).kept hgrow (rows_ne ownT ownC (by decide))
              have hb5 := (hb.alloc hb.size (.cells #[.int .i64 i, .int .i64 p] 69)).grown hgrow (by have := hb.size; simp; omega) (fun k hk => (ownC.lt k hk).1)
              clear ownT ownC hb hgrow hone
              go_wp2_with fail
              go_roundw
              case rel =>
                refine ⟨p, ts, cs ++ [(i, p)], hle, rfl, by omega, ht5, by rw [List.length_append]; show cs.length + 1 ≤ _; omega, HST.out, ownT5, ?_, hb5⟩
                rw [ccells_app, List.length_append]
                exact ownC5
              case measure => simp [intOf]; omega
          · rw [com_zero s i hco] at hcom
            have htok := scn_good s i ts.length hlt hbl hco
            have HC := Lib.hid hcom
            have hTK := fun W => rtoken_any s i hlt (by omega) W
            have hgo : ∀ g, good (nextI signList (s.data.toList.drop i)) = some g → i + g.len ≤ s.size ∧ 1 ≤ g.len := by
              intro g h
              cases hx : nextI signList (s.data.toList.drop i) with
              | none => rw [hx] at h; cases h
              | some g2 =>
                rw [hx] at h
                by_cases hk : g2.ok = true ∧ checkI g2.kind ⟨g2.text.toArray⟩ = true
                · rw [good_ok hk.1 hk.2] at h; cases h
                  exact ⟨nextI_len _ s i _ hx hk.1 hlt, nextI_pos _ _ _ hx⟩
                · rw [show good (some g2) = none from if_neg hk] at h; cases h
            generalize good (nextI signList (s.data.toList.drop i)) = o at htok hTK hgo
            have HTK := Lib.hid hTK
            clear hcom hco hbl hg hTK
            cases o with
            | none =>
              have hres : scanR s = ⟨ts, cs, i, 50⟩ := by rw [HQ.out, htok]; simp [Res.pre]
              have HR := Lib.hid hres
              clear hres htok hgo
              go_wp2_with (go_at_call 129; refine (HC.out _).mono ?_; rintro e w' ⟨rfl, hw⟩; rw [hw]; clear hw)
              refine (HTK.out _).mono ?_
              rintro e w2 ⟨hb2, k, t, a, m, ok, rfl, rfl⟩
              have bb := hb.trans (hb2.mono hb.size)
              have hbz := hb2.size
              clear hb2
              go_wp2_with fail
              refine bodyPost_ret (results_four rfl _ _ _) rfl ?_
              exact scanQ_err HR.out (by decide) (bb.alloc bb.size _)
            | some g =>
              obtain ⟨hfar, hpos⟩ := hgo g rfl
              simp only at htok
              obtain ⟨p, hp⟩ : ∃ p, p = i + g.len := ⟨_, rfl⟩
              rw [← hp] at htok hfar
              have hip : i < p := by omega
              by_cases h5 : ts.length = 5000
              · have hres : scanR s = ⟨ts, cs, i, 2⟩ := by rw [HQ.out, htok, if_pos h5]; simp [Res.pre]
                have HR := Lib.hid hres
                have e5 : (((ts.length : Nat) : Int) == 5000) = true := by rw [h5]; rfl
                clear hres htok hgo h5 hpos
                go_wp2_with (go_at_call 129; refine (HC.out _).mono ?_; rintro e w' ⟨rfl, hw⟩; rw [hw]; clear hw)
                refine (HTK.out _).mono ?_
                rintro e w2 ⟨hb2, k, t, a, m, ok, rfl, rfl, rfl, rfl, rfl, hm⟩
                have bb := hb.trans (hb2.mono hb.size)
                have HM := Lib.hid hm
                clear hb2 hm
                go_wp2_with fail
                refine bodyPost_ret (results_four rfl _ _ _) rfl ?_
                exact scanQ_err HR.out (by decide) (bb.alloc bb.size _)
              · have hst : scanR s = (scn s p (ts ++ [(⟨g.kind, ⟨g.text.toArray⟩, i⟩ : Tok)]).length).pre (ts ++ [(⟨g.kind, ⟨g.text.toArray⟩, i⟩ : Tok)]) cs := by
                  rw [HQ.out, htok, if_neg h5, addT_pre, pre_pre, List.append_nil, List.length_append]; rfl
                have HST := Lib.hid hst
                have e5 : (((ts.length : Nat) : Int) == 5000) = false := by rw [beq_eq_false_iff_ne]; omega
                have ht5' : ts.length + 1 ≤ 5000 := by omega
                have HP := Lib.hid hp
                clear hst htok hgo h5 hpos hp
                go_wp2_with (go_at_call 129; refine (HC.out _).mono ?_; rintro e w' ⟨rfl, hw⟩; rw [hw]; clear hw)
                refine (HTK.out _).mono ?_
                rintro e w2 ⟨hb2, k, t, a, m, ok, rfl, rfl, rfl, rfl, rfl, hm⟩
                have bb := hb.trans (hb2.mono hb.size)
                rw [← HP.out] at hm
                subst hm
                have ownT2 := own_below ownT hb2
                have ownC2 := own_below ownC hb2
                clear hb2 ownT ownC hb
                go_upto_region 20 with fail
                have n3 := heap_alloc_new w2 (.cells #[.int .i64 g.kind, .string ⟨g.text.toArray⟩, .int .i64 i] 24)
                have b3 := bb.alloc bb.size (.cells #[.int .i64 g.kind, .string ⟨g.text.toArray⟩, .int .i64 i] 24)
                have ownT3 := ownT2.alloc (.cells #[.int .i64 g.kind, .string ⟨g.text.toArray⟩, .int .i64 i] 24)
                have ownC3 := ownC2.alloc (.cells #[.int .i64 g.kind, .string ⟨g.text.toArray⟩, .int .i64 i] 24)
                generalize w2.alloc (.cells #[.int .i64 g.kind, .string ⟨g.text.toArray⟩, .int .i64 i] 24) = w3 at n3 b3 ownT3 ownC3 ⊢
                generalize w2.heap.size = TB at n3 ⊢
                have t0 : w3.cell? ⟨TB, 0, none⟩ = some (.int .i64 g.kind) := cell_of_row _ _ 0 _ _ _ n3
                have t1 : w3.cell? ⟨TB, 1, none⟩ = some (.string ⟨g.text.toArray⟩) := cell_of_row _ _ 1 _ _ _ n3
                have t2 : w3.cell? ⟨TB, 2, none⟩ = some (.int .i64 i) := cell_of_row _ _ 2 _ _ _ n3
                have hone : ∀ u ∈ [Value.int .i64 g.kind, Value.string ⟨g.text.toArray⟩, Value.int .i64 (i : Int)], u.oneCell' = true := by
                  intro u hu; simp at hu; rcases hu with rfl | rfl | rfl <;> rfl
                clear n3 ownT2 ownC2 bb
                go_wp2_with (at_builtin; refine wpList_append_own _ rfl _ _ 22 rfl w.heap.size 24 i0 (.agg #[.int .i64 0, .string ⟨#[]⟩, .int .i64 0]) 3 32 undTs hi0 hz0 hz1 hz2 rfl hp3 _ _ _ rfl (ownT3.alloc _) ⟨w3.heap.size, 0, none⟩ 1 1 [.int .i64 g.kind, .string ⟨g.text.toArray⟩, .int .i64 i] rfl rfl ?dd1 ?dd2 ?dd3 ?dd4 ?dd5 ?_)
                case dd1 => exact World.news_of_block (heap_alloc_new w3 (.cells #[.int .i64 g.kind, .string ⟨g.text.toArray⟩, .int .i64 i] 24))
                case dd2 => exact hone
                case dd3 => unfold maxLen; omega
                case dd4 => omega
                case dd5 => have := b3.size; simp; omega
                intro v5 w5 ownT5 hgrow _
                have ownC5 := (ownC3.alloc (.cells #[.int .i64 g.kind, .string ⟨g.text.toArray⟩, .int .i64 i] 24)).kept hgrow (rows_ne ownC3 ownT3 (by decide))
                have hb5 := (b3.alloc b3.size (.cells #[.int .i64 g.kind, .string ⟨g.text.toArray⟩, .int .i64 i] 24)).grown hgrow (by have := b3.size; simp; omega) (fun k hk => (ownT3.lt k hk).1)
                clear ownT3 ownC3 b3 hgrow hone t0 t1 t2
                go_wp2_with fail
                go_roundw
                case rel =>
                  refine ⟨p, ts ++ [(⟨g.kind, ⟨g.text.toArray⟩, i⟩ : Tok)], cs, hfar, rfl, ?_, ?_, by omega, HST.out, ?_, ownC5, hb5⟩
                  · rw [List.length_append]; show ts.length + 1 ≤ _; omega
                  · rw [List.length_append]; exact ht5'
                  · rw [tcells_app, List.length_append]; exact ownT5
                case measure => simp [intOf]; omega
      · obtain rfl : i = s.size := by omega
        have hres : scanR s = ⟨ts, cs, 0, 0⟩ := by rw [HQ.out, scn_end]; simp [Res.pre]
        have HR := Lib.hid hres
        clear hres
        go_wp2_with fail
        refine bodyPost_ret (results_four rfl _ _ _) rfl ?_
        exact scanQ_ok HR.out ownT ownC hb
set_option maxHeartbeats 1000000 in
theorem rTokens_any (s : ByteArray) (hs : s.size ≤ 140737488351232) (w : World) : Calls Tryz.prog 81 #[.string s] w (TokensQ s w) := by
  go_enter Tryz.func81, Tryz.ntmps81
  go_wp2_with (go_at_call 105; refine (rscan_any s hs _).mono ?_; rintro e w' ⟨lv, cv, rfl, h1, h2, hb⟩)
  go_ret3
  exact ⟨lv, rfl, h1, hb⟩
end Go.Proofs.YtafofcenphopbaaGreatDoor
