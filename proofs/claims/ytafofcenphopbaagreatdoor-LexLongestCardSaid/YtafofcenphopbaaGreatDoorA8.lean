/- Walks: the scanner's next. -/
import Derived.Test.YtafofcenphopbaaGreatDoorA7
namespace Go.Proofs.YtafofcenphopbaaGreatDoor
open Go.RowKit Lx

/-- What next hands back, written out. -/
theorem gotV_form (g : Option Got) (i : Nat) : ∃ (k : Int) (t : ByteArray) (a m : Int) (ok : Bool), gotV g i = .tuple #[.agg #[.int .i64 k, .string t, .int .i64 a], .int .i64 m, .bool ok] := by
  cases g with
  | none => exact ⟨_, _, _, _, _, rfl⟩
  | some g => exact ⟨_, _, _, _, _, rfl⟩
theorem nextI_quote (s : ByteArray) (i : Nat) (h1 : begI (atI s i) = false) (h2 : atI s i = 39) : nextI signList (s.data.toList.drop i) = quoTok (s.data.toList.drop i) := by
  unfold nextI; rw [← atI_nat, if_neg (by rw [h1]; decide), if_pos h2]
theorem nextI_num (s : ByteArray) (i : Nat) (h1 : begI (atI s i) = false) (h2 : ¬ atI s i = 39) (h3 : digI (atI s i) = true ∨ (atI s i = 46 ∧ digI (atI s (i + 1)) = true)) :
    nextI signList (s.data.toList.drop i) = some (numTok (s.data.toList.drop i)) := by
  have e : (i : Int) + 1 = ((i + 1 : Nat) : Int) := by omega
  rw [e, atI_nat s (i + 1)] at h3
  unfold nextI
  rw [List.drop_drop, ← atI_nat s i, if_neg (by rw [h1]; decide), if_neg h2, if_pos h3]
theorem nextI_name (s : ByteArray) (i : Nat) (h1 : begI (atI s i) = true) : nextI signList (s.data.toList.drop i) = some ⟨1, ((s.data.toList.drop i).take (nameLen (s.data.toList.drop i))).map upC, nameLen (s.data.toList.drop i), true⟩ := by
  unfold nextI; rw [← atI_nat, if_pos h1]

set_option maxHeartbeats 2000000 in
set_option maxRecDepth 100000 in
theorem next_quote (b r : Nat) (s : ByteArray) (i : Nat) (v : Value) (hi : i < s.size) (hs : s.size ≤ 2147483647) (w : World) (hsc : Scn w b s i r v) (hm : SignMap w r signList) (h1 : begI (atI s i) = false) (h2 : atI s i = 39) :
    Calls Tryz.prog 91 #[.pointer (some ⟨b, 0, none⟩)] w fun e w' => e = .returned (gotV (nextI signList (s.data.toList.drop i)) i) ∧ Below w.heap.size w w' := by
  have hblt := hsc.lt
  have ra := atI_range s (i : Int)
  have e39 : (atI s (i : Int) == 39) = true := by rw [h2]; rfl
  have HN := Lib.hid (nextI_quote s i h1 h2)
  clear h2
  go_enter Tryz.func91, Tryz.ntmps91
  go_upto_region 1 with fail
  have b1 := below_box w (.cells #[.int .i64 0, .string ⟨#[]⟩, .int .i64 0] 24)
  have n1 := heap_alloc_new w (.cells #[.int .i64 0, .string ⟨#[]⟩, .int .i64 0] 24)
  generalize w.alloc (.cells #[.int .i64 0, .string ⟨#[]⟩, .int .i64 0] 24) = w1 at b1 n1 ⊢
  have sc1 := hsc.below b1
  have hm1 := hm.below b1 hm.lt
  obtain ⟨k0, k1, k2, k3⟩ := sc1.cell
  have N1 := Lib.hid n1
  have hBlt := (Array.getElem?_eq_some_iff.1 n1).1
  clear n1
  go_wp2_with fail
  go_quiet ((go_at_call 86; exact Calls.quiet_of_same (at_any _ _ _)))
  have b2 := below_drewN b1 nq
  have n2 : (w1.drewN nq).heap[w.heap.size]? = _ := N1.out
  have sc2 : Scn (w1.drewN nq) b s i r v := sc1
  have hm2 : SignMap (w1.drewN nq) r signList := hm1
  have hB2 : w.heap.size < (w1.drewN nq).heap.size := hBlt
  generalize w1.drewN nq = w2 at b2 n2 sc2 hm2 hB2 ⊢
  clear k0 k1 k2 k3 N1 sc1 b1 hm1 hBlt
  have N2 := Lib.hid n2
  have HM := Lib.hid hm2
  clear n2 hm2
  obtain ⟨k0, k1, k2, k3⟩ := sc2.cell
  obtain ⟨kk, t, a, m, ok, hg⟩ := gotV_form (quoTok (s.data.toList.drop i)) i
  have hcon : ∀ n, Calls Tryz.prog 110 #[.pointer (some ⟨b, 0, none⟩)] (w2.drewN n) fun e w' => e = .returned (.tuple #[.agg #[.int .i64 kk, .string t, .int .i64 a], .int .i64 m, .bool ok]) ∧ Below (w2.drewN n).heap.size (w2.drewN n) w' := by
    intro n; rw [← hg]; exact scanQuoted_any b r s i v hi hs (w2.drewN n) sc2
  have HC := Lib.hid hcon
  have HG := Lib.hid hg
  clear hcon hg
  go_wp2_with (first | (go_at_call 99; refine (begins_any _ ra.1 ra.2 _).mono ?_; rintro e w' ⟨rfl, n, rfl⟩) | (go_at_call 86; refine (at_any _ _ _).mono ?_; rintro e w' ⟨rfl, hw⟩; rw [hw]; clear hw) | (go_at_call 87; refine (digit_any _ _).mono ?_; rintro e w' ⟨rfl, hw⟩; rw [hw]; clear hw) | (go_at_call 110; refine (HC.out _).mono ?_; rintro e w' ⟨rfl, hb⟩; have rr := (hb.block _ hB2).trans N2.out; have q0 : w'.cell? ⟨w.heap.size, 0, none⟩ = some (.int .i64 0) := cell_of_row _ _ 0 _ _ _ rr; have q1 : w'.cell? ⟨w.heap.size, 1, none⟩ = some (.string ⟨#[]⟩) := cell_of_row _ _ 1 _ _ _ rr; have q2 : w'.cell? ⟨w.heap.size, 2, none⟩ = some (.int .i64 0) := cell_of_row _ _ 2 _ _ _ rr; have f0 := Lib.frozen_of_heap rr 0; have f1 := Lib.frozen_of_heap rr 1; have f2 := Lib.frozen_of_heap rr 2; clear rr))
  refine bodyPost_ret (v := .tuple #[.agg #[.int .i64 kk, .string t, .int .i64 a], .int .i64 m, .bool ok]) (by simp [results, Tryz.results91, go_sem, q0, q1, q2]) rfl ⟨by rw [HN.out, HG.out], below_far3 (b2.trans ((below_drewN (Below.refl _ _) _).trans (hb.mono (Nat.le_of_lt hB2)))) _ _ _⟩

set_option maxHeartbeats 2000000 in
set_option maxRecDepth 100000 in
theorem next_digit (b r : Nat) (s : ByteArray) (i : Nat) (v : Value) (hi : i < s.size) (hs : s.size ≤ 2147483647) (w : World) (hsc : Scn w b s i r v) (hm : SignMap w r signList) (h1 : begI (atI s i) = false) (h2 : ¬ atI s i = 39) (h3 : digI (atI s i) = true) :
    Calls Tryz.prog 91 #[.pointer (some ⟨b, 0, none⟩)] w fun e w' => e = .returned (gotV (nextI signList (s.data.toList.drop i)) i) ∧ Below w.heap.size w w' := by
  have hblt := hsc.lt
  have ra := atI_range s (i : Int)
  have e39 : (atI s (i : Int) == 39) = false := by rw [beq_eq_false_iff_ne]; exact h2
  have HN := Lib.hid (nextI_num s i h1 h2 (.inl h3))
  clear h2
  go_enter Tryz.func91, Tryz.ntmps91
  go_upto_region 1 with fail
  have b1 := below_box w (.cells #[.int .i64 0, .string ⟨#[]⟩, .int .i64 0] 24)
  have n1 := heap_alloc_new w (.cells #[.int .i64 0, .string ⟨#[]⟩, .int .i64 0] 24)
  generalize w.alloc (.cells #[.int .i64 0, .string ⟨#[]⟩, .int .i64 0] 24) = w1 at b1 n1 ⊢
  have sc1 := hsc.below b1
  have hm1 := hm.below b1 hm.lt
  obtain ⟨k0, k1, k2, k3⟩ := sc1.cell
  have N1 := Lib.hid n1
  have hBlt := (Array.getElem?_eq_some_iff.1 n1).1
  clear n1
  go_wp2_with fail
  go_quiet ((go_at_call 86; exact Calls.quiet_of_same (at_any _ _ _)))
  have b2 := below_drewN b1 nq
  have n2 : (w1.drewN nq).heap[w.heap.size]? = _ := N1.out
  have sc2 : Scn (w1.drewN nq) b s i r v := sc1
  have hm2 : SignMap (w1.drewN nq) r signList := hm1
  have hB2 : w.heap.size < (w1.drewN nq).heap.size := hBlt
  generalize w1.drewN nq = w2 at b2 n2 sc2 hm2 hB2 ⊢
  clear k0 k1 k2 k3 N1 sc1 b1 hm1 hBlt
  have N2 := Lib.hid n2
  have HM := Lib.hid hm2
  clear n2 hm2
  obtain ⟨k0, k1, k2, k3⟩ := sc2.cell
  obtain ⟨kk, t, a, m, ok, hg⟩ := gotV_form (some (numTok (s.data.toList.drop i))) i
  have hcon : ∀ n, Calls Tryz.prog 111 #[.pointer (some ⟨b, 0, none⟩)] (w2.drewN n) fun e w' => e = .returned (.tuple #[.agg #[.int .i64 kk, .string t, .int .i64 a], .int .i64 m, .bool ok]) ∧ Below (w2.drewN n).heap.size (w2.drewN n) w' := by
    intro n; rw [← hg]; exact scanNumber_any b r s i v hi hs (w2.drewN n) sc2
  have HC := Lib.hid hcon
  have HG := Lib.hid hg
  clear hcon hg
  go_wp2_with (first | (go_at_call 99; refine (begins_any _ ra.1 ra.2 _).mono ?_; rintro e w' ⟨rfl, n, rfl⟩) | (go_at_call 86; refine (at_any _ _ _).mono ?_; rintro e w' ⟨rfl, hw⟩; rw [hw]; clear hw) | (go_at_call 87; refine (digit_any _ _).mono ?_; rintro e w' ⟨rfl, hw⟩; rw [hw]; clear hw) | (go_at_call 111; refine (HC.out _).mono ?_; rintro e w' ⟨rfl, hb⟩; have rr := (hb.block _ hB2).trans N2.out; have q0 : w'.cell? ⟨w.heap.size, 0, none⟩ = some (.int .i64 0) := cell_of_row _ _ 0 _ _ _ rr; have q1 : w'.cell? ⟨w.heap.size, 1, none⟩ = some (.string ⟨#[]⟩) := cell_of_row _ _ 1 _ _ _ rr; have q2 : w'.cell? ⟨w.heap.size, 2, none⟩ = some (.int .i64 0) := cell_of_row _ _ 2 _ _ _ rr; have f0 := Lib.frozen_of_heap rr 0; have f1 := Lib.frozen_of_heap rr 1; have f2 := Lib.frozen_of_heap rr 2; clear rr))
  refine bodyPost_ret (v := .tuple #[.agg #[.int .i64 kk, .string t, .int .i64 a], .int .i64 m, .bool ok]) (by simp [results, Tryz.results91, go_sem, q0, q1, q2]) rfl ⟨by rw [HN.out, HG.out], below_far3 (b2.trans ((below_drewN (Below.refl _ _) _).trans (hb.mono (Nat.le_of_lt hB2)))) _ _ _⟩

set_option maxHeartbeats 2000000 in
set_option maxRecDepth 100000 in
theorem next_point (b r : Nat) (s : ByteArray) (i : Nat) (v : Value) (hi : i < s.size) (hs : s.size ≤ 2147483647) (w : World) (hsc : Scn w b s i r v) (hm : SignMap w r signList) (h1 : begI (atI s i) = false) (h2 : ¬ atI s i = 39) (h3 : digI (atI s i) = false) (h4 : atI s i = 46) (h5 : digI (atI s (i + 1)) = true) :
    Calls Tryz.prog 91 #[.pointer (some ⟨b, 0, none⟩)] w fun e w' => e = .returned (gotV (nextI signList (s.data.toList.drop i)) i) ∧ Below w.heap.size w w' := by
  have hblt := hsc.lt
  have ra := atI_range s (i : Int)
  have e39 : (atI s (i : Int) == 39) = false := by rw [beq_eq_false_iff_ne]; exact h2
  have e46 : (atI s (i : Int) == 46) = true := by rw [h4]; rfl
  have HN := Lib.hid (nextI_num s i h1 h2 (.inr ⟨h4, h5⟩))
  clear h2 h4
  go_enter Tryz.func91, Tryz.ntmps91
  go_upto_region 1 with fail
  have b1 := below_box w (.cells #[.int .i64 0, .string ⟨#[]⟩, .int .i64 0] 24)
  have n1 := heap_alloc_new w (.cells #[.int .i64 0, .string ⟨#[]⟩, .int .i64 0] 24)
  generalize w.alloc (.cells #[.int .i64 0, .string ⟨#[]⟩, .int .i64 0] 24) = w1 at b1 n1 ⊢
  have sc1 := hsc.below b1
  have hm1 := hm.below b1 hm.lt
  obtain ⟨k0, k1, k2, k3⟩ := sc1.cell
  have N1 := Lib.hid n1
  have hBlt := (Array.getElem?_eq_some_iff.1 n1).1
  clear n1
  go_wp2_with fail
  go_quiet ((go_at_call 86; exact Calls.quiet_of_same (at_any _ _ _)))
  have b2 := below_drewN b1 nq
  have n2 : (w1.drewN nq).heap[w.heap.size]? = _ := N1.out
  have sc2 : Scn (w1.drewN nq) b s i r v := sc1
  have hm2 : SignMap (w1.drewN nq) r signList := hm1
  have hB2 : w.heap.size < (w1.drewN nq).heap.size := hBlt
  generalize w1.drewN nq = w2 at b2 n2 sc2 hm2 hB2 ⊢
  clear k0 k1 k2 k3 N1 sc1 b1 hm1 hBlt
  have N2 := Lib.hid n2
  have HM := Lib.hid hm2
  clear n2 hm2
  obtain ⟨k0, k1, k2, k3⟩ := sc2.cell
  obtain ⟨kk, t, a, m, ok, hg⟩ := gotV_form (some (numTok (s.data.toList.drop i))) i
  have hcon : ∀ n, Calls Tryz.prog 111 #[.pointer (some ⟨b, 0, none⟩)] (w2.drewN n) fun e w' => e = .returned (.tuple #[.agg #[.int .i64 kk, .string t, .int .i64 a], .int .i64 m, .bool ok]) ∧ Below (w2.drewN n).heap.size (w2.drewN n) w' := by
    intro n; rw [← hg]; exact scanNumber_any b r s i v hi hs (w2.drewN n) sc2
  have HC := Lib.hid hcon
  have HG := Lib.hid hg
  clear hcon hg
  go_upto_region 10 with (first | (go_at_call 99; refine (begins_any _ ra.1 ra.2 _).mono ?_; rintro e w' ⟨rfl, n, rfl⟩) | (go_at_call 86; refine (at_any _ _ _).mono ?_; rintro e w' ⟨rfl, hw⟩; rw [hw]; clear hw) | (go_at_call 87; refine (digit_any _ _).mono ?_; rintro e w' ⟨rfl, hw⟩; rw [hw]; clear hw))
  go_quiet ((first | (go_at_call 86; exact quiet_add_same (at_any _ _ _)) | (go_at_call 87; exact quiet_add_same (digit_any _ _))))
  go_wp2_with (go_at_call 111; refine (HC.out _).mono ?_; rintro e w' ⟨rfl, hb⟩; have rr := (hb.block _ hB2).trans N2.out; have q0 : w'.cell? ⟨w.heap.size, 0, none⟩ = some (.int .i64 0) := cell_of_row _ _ 0 _ _ _ rr; have q1 : w'.cell? ⟨w.heap.size, 1, none⟩ = some (.string ⟨#[]⟩) := cell_of_row _ _ 1 _ _ _ rr; have q2 : w'.cell? ⟨w.heap.size, 2, none⟩ = some (.int .i64 0) := cell_of_row _ _ 2 _ _ _ rr; have f0 := Lib.frozen_of_heap rr 0; have f1 := Lib.frozen_of_heap rr 1; have f2 := Lib.frozen_of_heap rr 2; clear rr)
  refine bodyPost_ret (v := .tuple #[.agg #[.int .i64 kk, .string t, .int .i64 a], .int .i64 m, .bool ok]) (by simp [results, Tryz.results91, go_sem, q0, q1, q2]) rfl ⟨by rw [HN.out, HG.out], below_far3 (b2.trans ((below_drewN (Below.refl _ _) _).trans (hb.mono (Nat.le_of_lt hB2)))) _ _ _⟩

set_option maxHeartbeats 2000000 in
set_option maxRecDepth 100000 in
theorem next_name (b r : Nat) (s : ByteArray) (i : Nat) (v : Value) (hi : i < s.size) (hs : s.size ≤ 2147483647) (w : World) (hsc : Scn w b s i r v) (hm : SignMap w r signList) (h1 : begI (atI s i) = true) :
    Calls Tryz.prog 91 #[.pointer (some ⟨b, 0, none⟩)] w fun e w' => e = .returned (gotV (nextI signList (s.data.toList.drop i)) i) ∧ Below w.heap.size w w' := by
  have hblt := hsc.lt
  have ra := atI_range s (i : Int)
  have HN := Lib.hid (nextI_name s i h1)
  go_enter Tryz.func91, Tryz.ntmps91
  go_upto_region 1 with fail
  have b1 := below_box w (.cells #[.int .i64 0, .string ⟨#[]⟩, .int .i64 0] 24)
  have n1 := heap_alloc_new w (.cells #[.int .i64 0, .string ⟨#[]⟩, .int .i64 0] 24)
  generalize w.alloc (.cells #[.int .i64 0, .string ⟨#[]⟩, .int .i64 0] 24) = w1 at b1 n1 ⊢
  have sc1 := hsc.below b1
  have hm1 := hm.below b1 hm.lt
  obtain ⟨k0, k1, k2, k3⟩ := sc1.cell
  have N1 := Lib.hid n1
  have hBlt := (Array.getElem?_eq_some_iff.1 n1).1
  clear n1
  go_wp2_with fail
  go_quiet ((go_at_call 86; exact Calls.quiet_of_same (at_any _ _ _)))
  have b2 := below_drewN b1 nq
  have n2 : (w1.drewN nq).heap[w.heap.size]? = _ := N1.out
  have sc2 : Scn (w1.drewN nq) b s i r v := sc1
  have hm2 : SignMap (w1.drewN nq) r signList := hm1
  have hB2 : w.heap.size < (w1.drewN nq).heap.size := hBlt
  generalize w1.drewN nq = w2 at b2 n2 sc2 hm2 hB2 ⊢
  clear k0 k1 k2 k3 N1 sc1 b1 hm1 hBlt
  have N2 := Lib.hid n2
  have HM := Lib.hid hm2
  clear n2 hm2
  obtain ⟨k0, k1, k2, k3⟩ := sc2.cell
  go_upto_region 3 with (go_at_call 99; refine (begins_any _ ra.1 ra.2 _).mono ?_; rintro e w' ⟨rfl, n, rfl⟩)
  go_wp2_with fail
  have sc3 : Scn (w2.drewN n) b s i r v := sc2
  have n3 : (w2.drewN n).heap[w.heap.size]? = _ := N2.out
  have b3 := below_drewN b2 n
  have hB3 : w.heap.size < (w2.drewN n).heap.size := hB2
  generalize w2.drewN n = w3 at b3 n3 sc3 hB3 ⊢
  clear k0 k1 k2 k3 N2 HM sc2 b2 hB2
  have N3 := Lib.hid n3
  clear n3
  obtain ⟨k0, k1, k2, k3⟩ := sc3.cell
  go_loopw [6] (fun q wr => ∃ (j m : Nat), i ≤ j ∧ j ≤ s.size ∧ q = .int .i64 j ∧ nameLen (s.data.toList.drop i) = nameLen (s.data.toList.drop j) + (j - i) ∧ wr = w3.drewN m) (fun q _ => s.size - (intOf q).toNat)
  case atStart => exact ⟨i, 0, Nat.le_refl _, by omega, rfl, by simp, rfl⟩
  case round =>
    obtain ⟨j, m, hij, hj, rfl, hq, rfl⟩ := hrel
    have HQ := Lib.hid hq
    clear hq
    have hr := atI_range s (j : Int)
    by_cases hp : partI (atI s (j : Int)) = true
    · have hlt := part_lt s j hp
      have hst := Lib.hid (nameLen_step s j hp hlt)
      go_wp2_with (first | (go_at_call 86; refine (at_any _ _ _).mono ?_; rintro e w' ⟨rfl, hw⟩; rw [hw]; clear hw) | (go_at_call 100; refine (part_any _ hr.1 hr.2 _).mono ?_; rintro e w' ⟨rfl, n, rfl⟩))
      go_roundw
      case rel => exact ⟨j + 1, _, by omega, by omega, by go_num, by rw [HQ.out, hst.out]; omega, rfl⟩
      case measure => simp [intOf]; omega
    · have hp0 : partI (atI s (j : Int)) = false := by simpa using hp
      have hlen : nameLen (s.data.toList.drop i) = j - i := by rw [HQ.out, nameLen_end s j hp0]; omega
      have HL := Lib.hid hlen
      clear hp HQ hlen
      have hx : (i : Int) ≤ j := by omega
      have hx2 : (j : Int) ≤ s.size := by omega
      have hsz : (s.extract i j).size ≤ 140737488351232 := by rw [ByteArray.size_extract]; omega
      go_upto_region 6 with (first | (go_at_call 86; refine (at_any _ _ _).mono ?_; rintro e w' ⟨rfl, hw⟩; rw [hw]; clear hw) | (go_at_call 100; refine (part_any _ hr.1 hr.2 _).mono ?_; rintro e w' ⟨rfl, n, rfl⟩))
      have F1 := far3 (B := w.heap.size) (b := b) (by omega)
      have hb3lt := sc3.lt
      have q0 : w3.cell? ⟨w.heap.size, 0, none⟩ = some (.int .i64 0) := cell_of_row _ _ 0 _ _ _ N3.out
      have q1 : w3.cell? ⟨w.heap.size, 1, none⟩ = some (.string ⟨#[]⟩) := cell_of_row _ _ 1 _ _ _ N3.out
      have q2 : w3.cell? ⟨w.heap.size, 2, none⟩ = some (.int .i64 0) := cell_of_row _ _ 2 _ _ _ N3.out
      have f0 := Lib.frozen_of_heap N3.out 0
      have f1 := Lib.frozen_of_heap N3.out 1
      have f2 := Lib.frozen_of_heap N3.out 2
      go_region_held3 (fun w' => w'.cell? ⟨b, 0, none⟩ = some (.string s) ∧ w'.cell? ⟨b, 1, none⟩ = some (.int .i64 i)) (go_keep) (first | (go_at_call 69; refine (upper_any _ hsz _).mono ?_; rintro e w' ⟨rfl, hb⟩; have g0 := (hb.cell (p := ⟨b, 0, none⟩) hb3lt).trans k0; have g1 := (hb.cell (p := ⟨b, 1, none⟩) hb3lt).trans k1; have rr := (hb.block _ hB3).trans N3.out; clear q0 q1 q2 f0 f1 f2; have q0 : w'.cell? ⟨w.heap.size, 0, none⟩ = some (.int .i64 0) := cell_of_row _ _ 0 _ _ _ rr; have q1 : w'.cell? ⟨w.heap.size, 1, none⟩ = some (.string ⟨#[]⟩) := cell_of_row _ _ 1 _ _ _ rr; have q2 : w'.cell? ⟨w.heap.size, 2, none⟩ = some (.int .i64 0) := cell_of_row _ _ 2 _ _ _ rr; have f0 := Lib.frozen_of_heap rr 0; have f1 := Lib.frozen_of_heap rr 1; have f2 := Lib.frozen_of_heap rr 2; clear rr))
      go_wp2_with fail
      refine bodyPost_ret (v := .tuple #[.agg #[.int .i64 1, .string (upS (s.extract i j)), .int .i64 i], .int .i64 j, .bool true]) (by simp [results, Tryz.results91, go_sem, q0, q1, q2]) rfl ⟨?_, below_far3 (b3.trans ((below_drewN (Below.refl _ _) _).trans (hb.mono (Nat.le_of_lt hB3)))) _ _ _⟩
      rw [HN.out, HL.out]
      exact gotV_ret (by rw [extract_take s i j hij hj]; rfl) (by omega) rfl

/-- No name, no constant: an operator, or nothing. -/
structure OpAt (s : ByteArray) (i : Nat) : Prop where
  h1 : begI (atI s i) = false
  h2 : ¬ atI s i = 39
  h3 : digI (atI s i) = false
  h4 : ¬ (atI s i = 46 ∧ digI (atI s (i + 1)) = true)
theorem nextI_op (s : ByteArray) (i : Nat) (h : OpAt s i) : nextI signList (s.data.toList.drop i) =
    if 2 ≤ (s.data.toList.drop i).length ∧ isSign ((s.data.toList.drop i).take 2) signList = true then some ⟨6, (s.data.toList.drop i).take 2, 2, true⟩
    else if 1 ≤ (s.data.toList.drop i).length ∧ isSign ((s.data.toList.drop i).take 1) signList = true then some ⟨6, (s.data.toList.drop i).take 1, 1, true⟩
    else none := by
  obtain ⟨h1, h2, h3, h4⟩ := h
  have e : (i : Int) + 1 = ((i + 1 : Nat) : Int) := by omega
  rw [e, atI_nat s (i + 1)] at h4
  unfold nextI
  rw [List.drop_drop, ← atI_nat s i, if_neg (by rw [h1]; decide), if_neg h2, if_neg (by rintro (h | h); exact absurd h (by rw [h3]; decide); exact h4 h)]

end Go.Proofs.YtafofcenphopbaaGreatDoor
