/- Walks: the scanner's next: operators; all ways. -/
import Derived.Test.YtafofcenphopbaaGreatDoorA8
namespace Go.Proofs.YtafofcenphopbaaGreatDoor
open Go.RowKit Lx

set_option maxHeartbeats 2000000 in
set_option maxRecDepth 100000 in
theorem next_op (b r : Nat) (s : ByteArray) (i : Nat) (v : Value) (hi : i < s.size) (hs : s.size ≤ 2147483647) (w : World) (hsc : Scn w b s i r v) (hm : SignMap w r signList) (ho : OpAt s i) :
    Calls Tryz.prog 91 #[.pointer (some ⟨b, 0, none⟩)] w fun e w' => e = .returned (gotV (nextI signList (s.data.toList.drop i)) i) ∧ Below w.heap.size w w' := by
  have hblt := hsc.lt
  have ra := atI_range s (i : Int)
  have h1 := ho.h1
  have e39 : (atI s (i : Int) == 39) = false := by rw [beq_eq_false_iff_ne]; exact ho.h2
  have h3 := ho.h3
  have HN := Lib.hid (nextI_op s i ho)
  have hnp : (atI s (i : Int) == 46) = false ∨ ((atI s (i : Int) == 46) = true ∧ digI (atI s ((i : Int) + 1)) = false) := by
    by_cases h : atI s (i : Int) = 46
    · right; exact ⟨by rw [h]; rfl, by rw [Bool.eq_false_iff]; exact fun h' => ho.h4 ⟨h, h'⟩⟩
    · left; rw [beq_eq_false_iff_ne]; exact h
  clear ho
  go_enter Tryz.func91, Tryz.ntmps91
  go_upto_region 1 with fail
  have b1 := below_box w (.cells #[.int .i64 0, .string ⟨#[]⟩, .int .i64 0] 24)
  have n1 := heap_alloc_new w (.cells #[.int .i64 0, .string ⟨#[]⟩, .int .i64 0] 24)
  generalize w.alloc (.cells #[.int .i64 0, .string ⟨#[]⟩, .int .i64 0] 24) = w1 at b1 n1 ⊢
  have sc1 := hsc.below b1
  have hm1 := hm.below b1 hm.lt
  obtain ⟨k0, k1, k2, k3⟩ := sc1.cell
  have N1 := Lib.hid n1
  have hBlt := (Array.getElem?_eq_some_iff.1 n1).1
  clear n1
  go_wp2_with fail
  go_quiet ((go_at_call 86; exact Calls.quiet_of_same (at_any _ _ _)))
  have b2 := below_drewN b1 nq
  have n2 : (w1.drewN nq).heap[w.heap.size]? = _ := N1.out
  have sc2 : Scn (w1.drewN nq) b s i r v := sc1
  have hm2 : SignMap (w1.drewN nq) r signList := hm1
  have hB2 : w.heap.size < (w1.drewN nq).heap.size := hBlt
  generalize w1.drewN nq = w2 at b2 n2 sc2 hm2 hB2 ⊢
  clear k0 k1 k2 k3 N1 sc1 b1 hm1 hBlt
  have N2 := Lib.hid n2
  have HM := Lib.hid hm2
  clear n2 hm2
  obtain ⟨k0, k1, k2, k3⟩ := sc2.cell
  go_upto_region 10 with (first | (go_at_call 99; refine (begins_any _ ra.1 ra.2 _).mono ?_; rintro e w' ⟨rfl, n, rfl⟩) | (go_at_call 86; refine (at_any _ _ _).mono ?_; rintro e w' ⟨rfl, hw⟩; rw [hw]; clear hw) | (go_at_call 87; refine (digit_any _ _).mono ?_; rintro e w' ⟨rfl, hw⟩; rw [hw]; clear hw))
  have sc3 : Scn (w2.drewN n) b s i r v := sc2
  have n3 : (w2.drewN n).heap[w.heap.size]? = _ := N2.out
  have hm3 : SignMap (w2.drewN n) r signList := HM.out
  have b3 := below_drewN b2 n
  have hB3 : w.heap.size < (w2.drewN n).heap.size := hB2
  generalize w2.drewN n = w3 at b3 n3 sc3 hm3 hB3 ⊢
  clear k0 k1 k2 k3 N2 HM sc2 b2 hB2
  have N3 := Lib.hid n3
  clear n3
  obtain ⟨k0, k1, k2, k3⟩ := sc3.cell
  go_cut [58] (fun c wx => c = .bool false ∧ ∃ n, wx = w3.drewN n)
  case first =>
    rcases hnp with h4 | ⟨h4, h5⟩
    · go_quiet ((first | (go_at_call 86; exact Calls.quiet_of_same (at_any _ _ _)) | (go_at_call 87; exact Calls.quiet_of_same (digit_any _ _))))
      go_wp2_with fail
      go_meet
      case rel => exact ⟨rfl, _, rfl⟩
    · go_quiet ((first | (go_at_call 86; exact Calls.quiet_of_same (at_any _ _ _)) | (go_at_call 87; exact Calls.quiet_of_same (digit_any _ _))))
      go_wp2_with fail
      go_meet
      case rel => exact ⟨rfl, _, rfl⟩
  case rest =>
    obtain ⟨rfl, m, rfl⟩ := hcut
    have sc4 : Scn (w3.drewN m) b s i r v := sc3
    have n4 : (w3.drewN m).heap[w.heap.size]? = _ := N3.out
    have b4 := below_drewN b3 m
    have hm4 : SignMap (w3.drewN m) r signList := hm3
    have hB4 : w.heap.size < (w3.drewN m).heap.size := hB3
    generalize w3.drewN m = w4 at b4 n4 sc4 hm4 hB4 ⊢
    clear k0 k1 k2 k3 N3 sc3 b3 hm3 hB3
    obtain ⟨k0, k1, k2, k3⟩ := sc4.cell
    have l2 : ∀ n, (Instr.lookup 110 (.map (some r)) (.string (s.extract i (i + 2))) false).run Tryz.prog (w4.drewN n) = .ok (.bool (memB (s.extract i (i + 2)) signList)) (w4.drewN n) :=
      fun n => run_lookup_sign (w4.drewN n) _ _ _ undT undS zeroB _ _ hm4 _
    have l1 : ∀ n, (Instr.lookup 110 (.map (some r)) (.string (s.extract i (i + 1))) false).run Tryz.prog (w4.drewN n) = .ok (.bool (memB (s.extract i (i + 1)) signList)) (w4.drewN n) :=
      fun n => run_lookup_sign (w4.drewN n) _ _ _ undT undS zeroB _ _ hm4 _
    have HN4 := Lib.hid n4
    have HM4 := Lib.hid hm4
    clear n4 hm4
    go_wp2_with fail
    refine wp_loop_rounds 3 ?_
    rw [rounds_succ]
    have ex2 : i + 2 ≤ s.size → memB (s.extract i (i + 2)) signList = isSign ((s.data.toList.drop i).take 2) signList := fun h => by
      rw [extract_take s i (i + 2) (by omega) h]; simp [memB, isSign]
    have ex1 : memB (s.extract i (i + 1)) signList = isSign ((s.data.toList.drop i).take 1) signList := by
      rw [extract_take s i (i + 1) (by omega) (by omega)]; simp [memB, isSign]
    have hlen : (s.data.toList.drop i).length = s.size - i := by
      have : s.data.toList.length = s.size := rfl
      rw [List.length_drop, this]
    have F1 := far3 (B := w.heap.size) (b := b) (by omega)
    have q0 : w4.cell? ⟨w.heap.size, 0, none⟩ = some (.int .i64 0) := cell_of_row _ _ 0 _ _ _ HN4.out
    have q1 : w4.cell? ⟨w.heap.size, 1, none⟩ = some (.string ⟨#[]⟩) := cell_of_row _ _ 1 _ _ _ HN4.out
    have q2 : w4.cell? ⟨w.heap.size, 2, none⟩ = some (.int .i64 0) := cell_of_row _ _ 2 _ _ _ HN4.out
    have f0 := Lib.frozen_of_heap HN4.out 0
    have f1 := Lib.frozen_of_heap HN4.out 1
    have f2 := Lib.frozen_of_heap HN4.out 2
    have d3 : decide (((i : Int) + 1) ≤ (s.size : Int)) = true := by simp; omega
    have d4 : (i : Int) + 1 ≤ (s.size : Int) := by omega
    by_cases hA : i + 2 ≤ s.size
    · have d1 : decide (((i : Int) + 2) ≤ (s.size : Int)) = true := by simp; omega
      have d2 : (i : Int) + 2 ≤ (s.size : Int) := by omega
      by_cases hM : memB (s.extract i (i + 2)) signList = true
      · have hres : (if 2 ≤ (s.data.toList.drop i).length ∧ isSign ((s.data.toList.drop i).take 2) signList = true then some (⟨6, (s.data.toList.drop i).take 2, 2, true⟩ : Got)
            else if 1 ≤ (s.data.toList.drop i).length ∧ isSign ((s.data.toList.drop i).take 1) signList = true then some ⟨6, (s.data.toList.drop i).take 1, 1, true⟩
            else none) = some ⟨6, (s.data.toList.drop i).take 2, 2, true⟩ := if_pos ⟨by omega, by rw [← ex2 hA]; exact hM⟩
        have HR := Lib.hid hres
        clear ex2 ex1 hlen hres
        go_upto_region 15 with fail
        go_quiet (fail)
        go_upto_region 16 with fail
        have z1 : (i : Int) ≤ (i : Int) + 2 := by omega
        have z2 : (0 : Int) ≤ (i : Int) + 2 := by omega
        have z3 : IntKind.i64.wrap ((i : Int) + 2) = (i : Int) + 2 := IntWalk.i64_in _ (by omega)
        have z4 : ((i : Int) + 2).toNat = i + 2 := by omega
        go_region_held3 (fun w' => w'.cell? ⟨b, 0, none⟩ = some (.string s) ∧ w'.cell? ⟨b, 1, none⟩ = some (.int .i64 i)) (go_keep) (first | fail)
        clear z3 z4
        go_wp2_with fail
        refine bodyPost_ret (v := .tuple #[.agg #[.int .i64 6, .string (s.extract i (i + 2)), .int .i64 i], .int .i64 ((i : Int) + 2), .bool true]) (by simp [results, Tryz.results91, go_sem, q0, q1, q2]) rfl ⟨?_, below_far3 (below_drewN b4 _) _ _ _⟩
        rw [HN.out, HR.out]
        exact gotV_ret (by rw [extract_take s i (i + 2) (by omega) (by omega)]; simp) (by omega) rfl
      · have hM0 : memB (s.extract i (i + 2)) signList = false := by simpa using hM
        by_cases hM1 : memB (s.extract i (i + 1)) signList = true
        · have hres : (if 2 ≤ (s.data.toList.drop i).length ∧ isSign ((s.data.toList.drop i).take 2) signList = true then some (⟨6, (s.data.toList.drop i).take 2, 2, true⟩ : Got)
              else if 1 ≤ (s.data.toList.drop i).length ∧ isSign ((s.data.toList.drop i).take 1) signList = true then some ⟨6, (s.data.toList.drop i).take 1, 1, true⟩
              else none) = some ⟨6, (s.data.toList.drop i).take 1, 1, true⟩ := by
            rw [if_neg (by rintro ⟨_, h⟩; rw [← ex2 hA] at h; exact hM h), if_pos ⟨by omega, by rw [← ex1]; exact hM1⟩]
          have HR := Lib.hid hres
          clear ex2 ex1 hlen hres hM
          go_upto_region 15 with fail
          go_quiet (fail)
          go_upto_region 13 with fail
          rw [rounds_succ]
          go_upto_region 15 with fail
          go_quiet (fail)
          go_upto_region 16 with fail
          have z1 : (i : Int) ≤ (i : Int) + 1 := by omega
          have z2 : (0 : Int) ≤ (i : Int) + 1 := by omega
          have z3 : IntKind.i64.wrap ((i : Int) + 1) = (i : Int) + 1 := IntWalk.i64_in _ (by omega)
          have z4 : ((i : Int) + 1).toNat = i + 1 := by omega
          go_region_held3 (fun w' => w'.cell? ⟨b, 0, none⟩ = some (.string s) ∧ w'.cell? ⟨b, 1, none⟩ = some (.int .i64 i)) (go_keep) (first | fail)
          clear z3 z4
          go_wp2_with fail
          refine bodyPost_ret (v := .tuple #[.agg #[.int .i64 6, .string (s.extract i (i + 1)), .int .i64 i], .int .i64 ((i : Int) + 1), .bool true]) (by simp [results, Tryz.results91, go_sem, q0, q1, q2]) rfl ⟨?_, below_far3 (below_drewN b4 _) _ _ _⟩
          rw [HN.out, HR.out]
          exact gotV_ret (by rw [extract_take s i (i + 1) (by omega) (by omega)]; simp) (by omega) rfl
        · have hM2 : memB (s.extract i (i + 1)) signList = false := by simpa using hM1
          have hres : (if 2 ≤ (s.data.toList.drop i).length ∧ isSign ((s.data.toList.drop i).take 2) signList = true then some (⟨6, (s.data.toList.drop i).take 2, 2, true⟩ : Got)
              else if 1 ≤ (s.data.toList.drop i).length ∧ isSign ((s.data.toList.drop i).take 1) signList = true then some ⟨6, (s.data.toList.drop i).take 1, 1, true⟩
              else none) = none := by
            rw [if_neg (by rintro ⟨_, h⟩; rw [← ex2 hA] at h; exact hM h), if_neg (by rintro ⟨_, h⟩; rw [← ex1] at h; exact hM1 h)]
          have HR := Lib.hid hres
          clear ex2 ex1 hlen hres hM hM1
          go_upto_region 15 with fail
          go_quiet (fail)
          go_upto_region 13 with fail
          rw [rounds_succ]
          go_upto_region 15 with fail
          go_quiet (fail)
          go_upto_region 13 with fail
          rw [rounds_succ]
          go_wp2_with fail
          refine bodyPost_ret (v := .tuple #[.agg #[.int .i64 0, .string ⟨#[]⟩, .int .i64 0], .int .i64 0, .bool false]) (by simp [results, Tryz.results91, go_sem, q0, q1, q2]) rfl ⟨by rw [HN.out, HR.out]; rfl, below_far3 (below_drewN b4 _) _ _ _⟩
    · have d1 : decide (((i : Int) + 2) ≤ (s.size : Int)) = false := by simp; omega
      have d2 : ¬ (i : Int) + 2 ≤ (s.size : Int) := by omega
      by_cases hM1 : memB (s.extract i (i + 1)) signList = true
      · have hres : (if 2 ≤ (s.data.toList.drop i).length ∧ isSign ((s.data.toList.drop i).take 2) signList = true then some (⟨6, (s.data.toList.drop i).take 2, 2, true⟩ : Got)
            else if 1 ≤ (s.data.toList.drop i).length ∧ isSign ((s.data.toList.drop i).take 1) signList = true then some ⟨6, (s.data.toList.drop i).take 1, 1, true⟩
            else none) = some ⟨6, (s.data.toList.drop i).take 1, 1, true⟩ := by
          rw [if_neg (by rintro ⟨h, _⟩; omega), if_pos ⟨by omega, by rw [← ex1]; exact hM1⟩]
        have HR := Lib.hid hres
        clear ex2 ex1 hlen hres
        go_upto_region 15 with fail
        go_quiet (fail)
        go_upto_region 13 with fail
        rw [rounds_succ]
        go_upto_region 15 with fail
        go_quiet (fail)
        go_upto_region 16 with fail
        have z1 : (i : Int) ≤ (i : Int) + 1 := by omega
        have z2 : (0 : Int) ≤ (i : Int) + 1 := by omega
        have z3 : IntKind.i64.wrap ((i : Int) + 1) = (i : Int) + 1 := IntWalk.i64_in _ (by omega)
        have z4 : ((i : Int) + 1).toNat = i + 1 := by omega
        go_region_held3 (fun w' => w'.cell? ⟨b, 0, none⟩ = some (.string s) ∧ w'.cell? ⟨b, 1, none⟩ = some (.int .i64 i)) (go_keep) (first | fail)
        clear z3 z4
        go_wp2_with fail
        refine bodyPost_ret (v := .tuple #[.agg #[.int .i64 6, .string (s.extract i (i + 1)), .int .i64 i], .int .i64 ((i : Int) + 1), .bool true]) (by simp [results, Tryz.results91, go_sem, q0, q1, q2]) rfl ⟨?_, below_far3 (below_drewN b4 _) _ _ _⟩
        rw [HN.out, HR.out]
        exact gotV_ret (by rw [extract_take s i (i + 1) (by omega) (by omega)]; simp) (by omega) rfl
      · have hM2 : memB (s.extract i (i + 1)) signList = false := by simpa using hM1
        have hres : (if 2 ≤ (s.data.toList.drop i).length ∧ isSign ((s.data.toList.drop i).take 2) signList = true then some (⟨6, (s.data.toList.drop i).take 2, 2, true⟩ : Got)
            else if 1 ≤ (s.data.toList.drop i).length ∧ isSign ((s.data.toList.drop i).take 1) signList = true then some ⟨6, (s.data.toList.drop i).take 1, 1, true⟩
            else none) = none := by
          rw [if_neg (by rintro ⟨h, _⟩; omega), if_neg (by rintro ⟨_, h⟩; rw [← ex1] at h; exact hM1 h)]
        have HR := Lib.hid hres
        clear ex2 ex1 hlen hres hM1
        go_upto_region 15 with fail
        go_quiet (fail)
        go_upto_region 13 with fail
        rw [rounds_succ]
        go_upto_region 15 with fail
        go_quiet (fail)
        go_upto_region 13 with fail
        rw [rounds_succ]
        go_wp2_with fail
        refine bodyPost_ret (v := .tuple #[.agg #[.int .i64 0, .string ⟨#[]⟩, .int .i64 0], .int .i64 0, .bool false]) (by simp [results, Tryz.results91, go_sem, q0, q1, q2]) rfl ⟨by rw [HN.out, HR.out]; rfl, below_far3 (below_drewN b4 _) _ _ _⟩

/-- The next token, whatever stands there. -/
theorem next_any (b r : Nat) (s : ByteArray) (i : Nat) (v : Value) (hi : i < s.size) (hs : s.size ≤ 2147483647) (w : World) (hsc : Scn w b s i r v) (hm : SignMap w r signList) :
    Calls Tryz.prog 91 #[.pointer (some ⟨b, 0, none⟩)] w fun e w' => e = .returned (gotV (nextI signList (s.data.toList.drop i)) i) ∧ Below w.heap.size w w' := by
  by_cases h1 : begI (atI s i) = true
  · exact next_name b r s i v hi hs w hsc hm h1
  · have h1' : begI (atI s i) = false := by simpa using h1
    by_cases h2 : atI s i = 39
    · exact next_quote b r s i v hi hs w hsc hm h1' h2
    · by_cases h3 : digI (atI s i) = true
      · exact next_digit b r s i v hi hs w hsc hm h1' h2 h3
      · have h3' : digI (atI s i) = false := by simpa using h3
        by_cases h4 : atI s i = 46 ∧ digI (atI s (i + 1)) = true
        · exact next_point b r s i v hi hs w hsc hm h1' h2 h3' h4.1 h4.2
        · exact next_op b r s i v hi hs w hsc hm ⟨h1', h2, h3', h4⟩
end Go.Proofs.YtafofcenphopbaaGreatDoor
