/- The reference: Literal, at whatever arguments. -/
import Derived.Test.YtafofcenphopbaaGreatDoorA28
import Derived.Test.YtafofcenphopbaaGreatDoorC5
import Derived.Test.YtafofcenphopbaaGreatDoorD6
import Derived.Test.YtafofcenphopbaaGreatDoorB7
namespace Go.Proofs.YtafofcenphopbaaGreatDoor
open Go.RowKit Lx

set_option maxHeartbeats 2000000 in
set_option maxRecDepth 100000 in
theorem rConstant_bad (k : Int) (t : ByteArray) (a : Int) (hs : t.size ≤ 1000000) (hc : checkI k t = false) (w : World) : Calls Tryz.prog 15 #[.agg #[.int .i64 k, .string t, .int .i64 a]] w (ConQ k t w) := by
  have hf : conI k t = ⟨0, 0, 0, 0, ⟨#[]⟩, 50⟩ := by unfold conI; rw [if_pos hc]
  have HF := Lib.hid hf
  have HC := Lib.hid hc
  clear hf hc
  go_enter Tryz.func15, Tryz.ntmps15
  go_upto_region 1 with fail
  obtain ⟨b1, n1, n2, n3⟩ := box3 w (.cells #[.int .i64 k, .string t, .int .i64 a] 24) (.cells #[.int .i64 0, .int .i64 0, .int .i64 0, .bool false, .string ⟨#[]⟩] 34) (.cells #[.int .i64 0, .string ⟨#[]⟩] 36)
  generalize ((w.alloc (.cells #[.int .i64 k, .string t, .int .i64 a] 24)).alloc (.cells #[.int .i64 0, .int .i64 0, .int .i64 0, .bool false, .string ⟨#[]⟩] 34)).alloc (.cells #[.int .i64 0, .string ⟨#[]⟩] 36) = w1 at b1 n1 n2 n3 ⊢
  have l1 := (Array.getElem?_eq_some_iff.1 n1).1
  have l2 := (Array.getElem?_eq_some_iff.1 n2).1
  have l3 := (Array.getElem?_eq_some_iff.1 n3).1
  have k0 : w1.cell? ⟨w.heap.size, 0, none⟩ = some (.int .i64 k) := cell_of_row _ _ 0 _ _ _ n1
  have k1 : w1.cell? ⟨w.heap.size, 1, none⟩ = some (.string t) := cell_of_row _ _ 1 _ _ _ n1
  have k2 : w1.cell? ⟨w.heap.size, 2, none⟩ = some (.int .i64 a) := cell_of_row _ _ 2 _ _ _ n1
  have hck : ∀ W, Calls Tryz.prog 38 #[.agg #[.int .i64 k, .string t, .int .i64 a]] W fun e w' => e = .returned (.int .i64 (errIf (checkI k t))) ∧ Below W.heap.size W w' :=
    fun W => rCheck_any k t a hs W
  rw [HC.out] at hck
  have HCK := Lib.hid hck
  clear hck
  go_wp2_with fail
  refine (HCK.out _).mono ?_
  rintro e w2 ⟨rfl, hb2⟩
  have n1 := (hb2.block _ l1).trans n1
  have n2 := (hb2.block _ l2).trans n2
  have n3 := (hb2.block _ l3).trans n3
  have b2 := b1.trans (hb2.mono b1.size)
  clear hb2 b1 l1 l2 l3 k0 k1 k2 HCK
  have l1 := (Array.getElem?_eq_some_iff.1 n1).1
  have l2 := (Array.getElem?_eq_some_iff.1 n2).1
  have l3 := (Array.getElem?_eq_some_iff.1 n3).1
  have k0 : w2.cell? ⟨w.heap.size, 0, none⟩ = some (.int .i64 k) := cell_of_row _ _ 0 _ _ _ n1
  have k1 : w2.cell? ⟨w.heap.size, 1, none⟩ = some (.string t) := cell_of_row _ _ 1 _ _ _ n1
  have N2 := Lib.hid n2
  have N3 := Lib.hid n3
  clear n1 n2 n3
  have q0 : w2.cell? ⟨w.heap.size + 1, 0, none⟩ = some (.int .i64 0) := cell_of_row _ _ 0 _ _ _ N2.out
  have q1 : w2.cell? ⟨w.heap.size + 1, 1, none⟩ = some (.int .i64 0) := cell_of_row _ _ 1 _ _ _ N2.out
  have q2 : w2.cell? ⟨w.heap.size + 1, 2, none⟩ = some (.int .i64 0) := cell_of_row _ _ 2 _ _ _ N2.out
  have q3 : w2.cell? ⟨w.heap.size + 1, 3, none⟩ = some (.bool false) := cell_of_row _ _ 3 _ _ _ N2.out
  have q4 : w2.cell? ⟨w.heap.size + 1, 4, none⟩ = some (.string ⟨#[]⟩) := cell_of_row _ _ 4 _ _ _ N2.out
  have r0 : w2.cell? ⟨w.heap.size + 1 + 1, 0, none⟩ = some (.int .i64 0) := cell_of_row _ _ 0 _ _ _ N3.out
  have r1 : w2.cell? ⟨w.heap.size + 1 + 1, 1, none⟩ = some (.string ⟨#[]⟩) := cell_of_row _ _ 1 _ _ _ N3.out
  have f0 := Lib.frozen_of_heap N2.out 0
  have f1 := Lib.frozen_of_heap N2.out 1
  have f2 := Lib.frozen_of_heap N2.out 2
  have f3 := Lib.frozen_of_heap N2.out 3
  have f4 := Lib.frozen_of_heap N2.out 4
  have g0 := Lib.frozen_of_heap N3.out 0
  have g1 := Lib.frozen_of_heap N3.out 1
  go_wp2_with fail
  refine bodyPost_ret (v := conV ⟨0, 0, 0, 0, ⟨#[]⟩, 50⟩) (by simp [conV, errIf, results, Tryz.results15, go_sem, q0, q1, q2, q3, q4, r0, r1]) rfl ⟨by rw [HF.out], con_below b2 _ _ _ _ _ _ _⟩
set_option maxHeartbeats 2000000 in
set_option maxRecDepth 100000 in
theorem rConstant_none (k : Int) (t : ByteArray) (a : Int) (hs : t.size ≤ 1000000) (hc : checkI k t = true) (h2 : ¬ k = 2) (h3 : ¬ k = 3) (h4 : ¬ k = 4) (h5 : ¬ k = 5) (w : World) : Calls Tryz.prog 15 #[.agg #[.int .i64 k, .string t, .int .i64 a]] w (ConQ k t w) := by
  have hf : conI k t = ⟨0, 0, 0, 0, ⟨#[]⟩, 5⟩ := by unfold conI; rw [if_neg (by rw [hc]; decide), if_neg h2, if_neg h3, if_neg h4, if_neg h5]
  have HF := Lib.hid hf
  have HC := Lib.hid hc
  clear hf hc
  have e2 : (k == 2) = false := by rw [beq_eq_false_iff_ne]; exact h2
  have e3 : (k == 3) = false := by rw [beq_eq_false_iff_ne]; exact h3
  have e4 : (k == 4) = false := by rw [beq_eq_false_iff_ne]; exact h4
  have e5 : (k == 5) = false := by rw [beq_eq_false_iff_ne]; exact h5
  clear h2 h3 h4 h5
  go_enter Tryz.func15, Tryz.ntmps15
  go_upto_region 1 with fail
  obtain ⟨b1, n1, n2, n3⟩ := box3 w (.cells #[.int .i64 k, .string t, .int .i64 a] 24) (.cells #[.int .i64 0, .int .i64 0, .int .i64 0, .bool false, .string ⟨#[]⟩] 34) (.cells #[.int .i64 0, .string ⟨#[]⟩] 36)
  generalize ((w.alloc (.cells #[.int .i64 k, .string t, .int .i64 a] 24)).alloc (.cells #[.int .i64 0, .int .i64 0, .int .i64 0, .bool false, .string ⟨#[]⟩] 34)).alloc (.cells #[.int .i64 0, .string ⟨#[]⟩] 36) = w1 at b1 n1 n2 n3 ⊢
  have l1 := (Array.getElem?_eq_some_iff.1 n1).1
  have l2 := (Array.getElem?_eq_some_iff.1 n2).1
  have l3 := (Array.getElem?_eq_some_iff.1 n3).1
  have k0 : w1.cell? ⟨w.heap.size, 0, none⟩ = some (.int .i64 k) := cell_of_row _ _ 0 _ _ _ n1
  have k1 : w1.cell? ⟨w.heap.size, 1, none⟩ = some (.string t) := cell_of_row _ _ 1 _ _ _ n1
  have k2 : w1.cell? ⟨w.heap.size, 2, none⟩ = some (.int .i64 a) := cell_of_row _ _ 2 _ _ _ n1
  have hck : ∀ W, Calls Tryz.prog 38 #[.agg #[.int .i64 k, .string t, .int .i64 a]] W fun e w' => e = .returned (.int .i64 (errIf (checkI k t))) ∧ Below W.heap.size W w' :=
    fun W => rCheck_any k t a hs W
  rw [HC.out] at hck
  have HCK := Lib.hid hck
  clear hck
  go_wp2_with fail
  refine (HCK.out _).mono ?_
  rintro e w2 ⟨rfl, hb2⟩
  have n1 := (hb2.block _ l1).trans n1
  have n2 := (hb2.block _ l2).trans n2
  have n3 := (hb2.block _ l3).trans n3
  have b2 := b1.trans (hb2.mono b1.size)
  clear hb2 b1 l1 l2 l3 k0 k1 k2 HCK
  have l1 := (Array.getElem?_eq_some_iff.1 n1).1
  have l2 := (Array.getElem?_eq_some_iff.1 n2).1
  have l3 := (Array.getElem?_eq_some_iff.1 n3).1
  have k0 : w2.cell? ⟨w.heap.size, 0, none⟩ = some (.int .i64 k) := cell_of_row _ _ 0 _ _ _ n1
  have k1 : w2.cell? ⟨w.heap.size, 1, none⟩ = some (.string t) := cell_of_row _ _ 1 _ _ _ n1
  have N2 := Lib.hid n2
  have N3 := Lib.hid n3
  clear n1 n2 n3
  have q0 : w2.cell? ⟨w.heap.size + 1, 0, none⟩ = some (.int .i64 0) := cell_of_row _ _ 0 _ _ _ N2.out
  have q1 : w2.cell? ⟨w.heap.size + 1, 1, none⟩ = some (.int .i64 0) := cell_of_row _ _ 1 _ _ _ N2.out
  have q2 : w2.cell? ⟨w.heap.size + 1, 2, none⟩ = some (.int .i64 0) := cell_of_row _ _ 2 _ _ _ N2.out
  have q3 : w2.cell? ⟨w.heap.size + 1, 3, none⟩ = some (.bool false) := cell_of_row _ _ 3 _ _ _ N2.out
  have q4 : w2.cell? ⟨w.heap.size + 1, 4, none⟩ = some (.string ⟨#[]⟩) := cell_of_row _ _ 4 _ _ _ N2.out
  have r0 : w2.cell? ⟨w.heap.size + 1 + 1, 0, none⟩ = some (.int .i64 0) := cell_of_row _ _ 0 _ _ _ N3.out
  have r1 : w2.cell? ⟨w.heap.size + 1 + 1, 1, none⟩ = some (.string ⟨#[]⟩) := cell_of_row _ _ 1 _ _ _ N3.out
  have f0 := Lib.frozen_of_heap N2.out 0
  have f1 := Lib.frozen_of_heap N2.out 1
  have f2 := Lib.frozen_of_heap N2.out 2
  have f3 := Lib.frozen_of_heap N2.out 3
  have f4 := Lib.frozen_of_heap N2.out 4
  have g0 := Lib.frozen_of_heap N3.out 0
  have g1 := Lib.frozen_of_heap N3.out 1
  go_wp2_with fail
  refine bodyPost_ret (v := conV ⟨0, 0, 0, 0, ⟨#[]⟩, 5⟩) (by simp [conV, results, Tryz.results15, go_sem, q0, q1, q2, q3, q4, r0, r1]) rfl ⟨by rw [HF.out], con_below b2 _ _ _ _ _ _ _⟩
set_option maxHeartbeats 2000000 in
set_option maxRecDepth 100000 in
theorem rConstant_4 (t : ByteArray) (a : Int) (hs : t.size ≤ 1000000) (hc : checkI 4 t = true) (w : World) : Calls Tryz.prog 15 #[.agg #[.int .i64 4, .string t, .int .i64 a]] w (ConQ 4 t w) := by
  have hf : conI 4 t = ⟨3, t.size, 0, 0, t, 0⟩ := by unfold conI; rw [if_neg (by rw [hc]; decide)]; rfl
  have HF := Lib.hid hf
  have HC := Lib.hid hc
  clear hf hc
  go_enter Tryz.func15, Tryz.ntmps15
  go_upto_region 1 with fail
  obtain ⟨b1, n1, n2, n3⟩ := box3 w (.cells #[.int .i64 4, .string t, .int .i64 a] 24) (.cells #[.int .i64 0, .int .i64 0, .int .i64 0, .bool false, .string ⟨#[]⟩] 34) (.cells #[.int .i64 0, .string ⟨#[]⟩] 36)
  generalize ((w.alloc (.cells #[.int .i64 4, .string t, .int .i64 a] 24)).alloc (.cells #[.int .i64 0, .int .i64 0, .int .i64 0, .bool false, .string ⟨#[]⟩] 34)).alloc (.cells #[.int .i64 0, .string ⟨#[]⟩] 36) = w1 at b1 n1 n2 n3 ⊢
  have l1 := (Array.getElem?_eq_some_iff.1 n1).1
  have l2 := (Array.getElem?_eq_some_iff.1 n2).1
  have l3 := (Array.getElem?_eq_some_iff.1 n3).1
  have k0 : w1.cell? ⟨w.heap.size, 0, none⟩ = some (.int .i64 4) := cell_of_row _ _ 0 _ _ _ n1
  have k1 : w1.cell? ⟨w.heap.size, 1, none⟩ = some (.string t) := cell_of_row _ _ 1 _ _ _ n1
  have k2 : w1.cell? ⟨w.heap.size, 2, none⟩ = some (.int .i64 a) := cell_of_row _ _ 2 _ _ _ n1
  have hck : ∀ W, Calls Tryz.prog 38 #[.agg #[.int .i64 4, .string t, .int .i64 a]] W fun e w' => e = .returned (.int .i64 (errIf (checkI 4 t))) ∧ Below W.heap.size W w' :=
    fun W => rCheck_any 4 t a hs W
  rw [HC.out] at hck
  have HCK := Lib.hid hck
  clear hck
  go_wp2_with fail
  refine (HCK.out _).mono ?_
  rintro e w2 ⟨rfl, hb2⟩
  have n1 := (hb2.block _ l1).trans n1
  have n2 := (hb2.block _ l2).trans n2
  have n3 := (hb2.block _ l3).trans n3
  have b2 := b1.trans (hb2.mono b1.size)
  clear hb2 b1 l1 l2 l3 k0 k1 k2 HCK
  have l1 := (Array.getElem?_eq_some_iff.1 n1).1
  have l2 := (Array.getElem?_eq_some_iff.1 n2).1
  have l3 := (Array.getElem?_eq_some_iff.1 n3).1
  have k0 : w2.cell? ⟨w.heap.size, 0, none⟩ = some (.int .i64 4) := cell_of_row _ _ 0 _ _ _ n1
  have k1 : w2.cell? ⟨w.heap.size, 1, none⟩ = some (.string t) := cell_of_row _ _ 1 _ _ _ n1
  have N2 := Lib.hid n2
  have N3 := Lib.hid n3
  clear n1 n2 n3
  have q0 : w2.cell? ⟨w.heap.size + 1, 0, none⟩ = some (.int .i64 0) := cell_of_row _ _ 0 _ _ _ N2.out
  have q1 : w2.cell? ⟨w.heap.size + 1, 1, none⟩ = some (.int .i64 0) := cell_of_row _ _ 1 _ _ _ N2.out
  have q2 : w2.cell? ⟨w.heap.size + 1, 2, none⟩ = some (.int .i64 0) := cell_of_row _ _ 2 _ _ _ N2.out
  have q3 : w2.cell? ⟨w.heap.size + 1, 3, none⟩ = some (.bool false) := cell_of_row _ _ 3 _ _ _ N2.out
  have q4 : w2.cell? ⟨w.heap.size + 1, 4, none⟩ = some (.string ⟨#[]⟩) := cell_of_row _ _ 4 _ _ _ N2.out
  have r0 : w2.cell? ⟨w.heap.size + 1 + 1, 0, none⟩ = some (.int .i64 0) := cell_of_row _ _ 0 _ _ _ N3.out
  have r1 : w2.cell? ⟨w.heap.size + 1 + 1, 1, none⟩ = some (.string ⟨#[]⟩) := cell_of_row _ _ 1 _ _ _ N3.out
  have f0 := Lib.frozen_of_heap N2.out 0
  have f1 := Lib.frozen_of_heap N2.out 1
  have f2 := Lib.frozen_of_heap N2.out 2
  have f3 := Lib.frozen_of_heap N2.out 3
  have f4 := Lib.frozen_of_heap N2.out 4
  have g0 := Lib.frozen_of_heap N3.out 0
  have g1 := Lib.frozen_of_heap N3.out 1
  go_upto_region 21 with fail
  have F1 := far7 (B := w.heap.size) (b := w.heap.size) (by omega) (by omega)
  go_region_held3 (fun w' => w'.cell? ⟨w.heap.size, 1, none⟩ = some (.string t)) (go_keep) (first | fail)
  go_wp2_with fail
  refine bodyPost_ret (v := conV ⟨3, t.size, 0, 0, t, 0⟩) (by simp [conV, results, Tryz.results15, go_sem, q0, q1, q2, q3, q4, r0, r1]) rfl ⟨by rw [HF.out], (con_below b2 _ _ _ _ _ _ _).drew⟩
set_option maxHeartbeats 2000000 in
set_option maxRecDepth 100000 in
theorem rConstant_5 (t : ByteArray) (a : Int) (hs : t.size ≤ 1000000) (hc : checkI 5 t = true) (w : World) : Calls Tryz.prog 15 #[.agg #[.int .i64 5, .string t, .int .i64 a]] w (ConQ 5 t w) := by
  have hf : conI 5 t = ⟨4, t.size, 0, 0, t, 0⟩ := by unfold conI; rw [if_neg (by rw [hc]; decide)]; rfl
  have HF := Lib.hid hf
  have HC := Lib.hid hc
  clear hf hc
  go_enter Tryz.func15, Tryz.ntmps15
  go_upto_region 1 with fail
  obtain ⟨b1, n1, n2, n3⟩ := box3 w (.cells #[.int .i64 5, .string t, .int .i64 a] 24) (.cells #[.int .i64 0, .int .i64 0, .int .i64 0, .bool false, .string ⟨#[]⟩] 34) (.cells #[.int .i64 0, .string ⟨#[]⟩] 36)
  generalize ((w.alloc (.cells #[.int .i64 5, .string t, .int .i64 a] 24)).alloc (.cells #[.int .i64 0, .int .i64 0, .int .i64 0, .bool false, .string ⟨#[]⟩] 34)).alloc (.cells #[.int .i64 0, .string ⟨#[]⟩] 36) = w1 at b1 n1 n2 n3 ⊢
  have l1 := (Array.getElem?_eq_some_iff.1 n1).1
  have l2 := (Array.getElem?_eq_some_iff.1 n2).1
  have l3 := (Array.getElem?_eq_some_iff.1 n3).1
  have k0 : w1.cell? ⟨w.heap.size, 0, none⟩ = some (.int .i64 5) := cell_of_row _ _ 0 _ _ _ n1
  have k1 : w1.cell? ⟨w.heap.size, 1, none⟩ = some (.string t) := cell_of_row _ _ 1 _ _ _ n1
  have k2 : w1.cell? ⟨w.heap.size, 2, none⟩ = some (.int .i64 a) := cell_of_row _ _ 2 _ _ _ n1
  have hck : ∀ W, Calls Tryz.prog 38 #[.agg #[.int .i64 5, .string t, .int .i64 a]] W fun e w' => e = .returned (.int .i64 (errIf (checkI 5 t))) ∧ Below W.heap.size W w' :=
    fun W => rCheck_any 5 t a hs W
  rw [HC.out] at hck
  have HCK := Lib.hid hck
  clear hck
  go_wp2_with fail
  refine (HCK.out _).mono ?_
  rintro e w2 ⟨rfl, hb2⟩
  have n1 := (hb2.block _ l1).trans n1
  have n2 := (hb2.block _ l2).trans n2
  have n3 := (hb2.block _ l3).trans n3
  have b2 := b1.trans (hb2.mono b1.size)
  clear hb2 b1 l1 l2 l3 k0 k1 k2 HCK
  have l1 := (Array.getElem?_eq_some_iff.1 n1).1
  have l2 := (Array.getElem?_eq_some_iff.1 n2).1
  have l3 := (Array.getElem?_eq_some_iff.1 n3).1
  have k0 : w2.cell? ⟨w.heap.size, 0, none⟩ = some (.int .i64 5) := cell_of_row _ _ 0 _ _ _ n1
  have k1 : w2.cell? ⟨w.heap.size, 1, none⟩ = some (.string t) := cell_of_row _ _ 1 _ _ _ n1
  have N2 := Lib.hid n2
  have N3 := Lib.hid n3
  clear n1 n2 n3
  have q0 : w2.cell? ⟨w.heap.size + 1, 0, none⟩ = some (.int .i64 0) := cell_of_row _ _ 0 _ _ _ N2.out
  have q1 : w2.cell? ⟨w.heap.size + 1, 1, none⟩ = some (.int .i64 0) := cell_of_row _ _ 1 _ _ _ N2.out
  have q2 : w2.cell? ⟨w.heap.size + 1, 2, none⟩ = some (.int .i64 0) := cell_of_row _ _ 2 _ _ _ N2.out
  have q3 : w2.cell? ⟨w.heap.size + 1, 3, none⟩ = some (.bool false) := cell_of_row _ _ 3 _ _ _ N2.out
  have q4 : w2.cell? ⟨w.heap.size + 1, 4, none⟩ = some (.string ⟨#[]⟩) := cell_of_row _ _ 4 _ _ _ N2.out
  have r0 : w2.cell? ⟨w.heap.size + 1 + 1, 0, none⟩ = some (.int .i64 0) := cell_of_row _ _ 0 _ _ _ N3.out
  have r1 : w2.cell? ⟨w.heap.size + 1 + 1, 1, none⟩ = some (.string ⟨#[]⟩) := cell_of_row _ _ 1 _ _ _ N3.out
  have f0 := Lib.frozen_of_heap N2.out 0
  have f1 := Lib.frozen_of_heap N2.out 1
  have f2 := Lib.frozen_of_heap N2.out 2
  have f3 := Lib.frozen_of_heap N2.out 3
  have f4 := Lib.frozen_of_heap N2.out 4
  have g0 := Lib.frozen_of_heap N3.out 0
  have g1 := Lib.frozen_of_heap N3.out 1
  go_upto_region 23 with fail
  have F1 := far7 (B := w.heap.size) (b := w.heap.size) (by omega) (by omega)
  go_region_held3 (fun w' => w'.cell? ⟨w.heap.size, 1, none⟩ = some (.string t)) (go_keep) (first | fail)
  go_wp2_with fail
  refine bodyPost_ret (v := conV ⟨4, t.size, 0, 0, t, 0⟩) (by simp [conV, results, Tryz.results15, go_sem, q0, q1, q2, q3, q4, r0, r1]) rfl ⟨by rw [HF.out], (con_below b2 _ _ _ _ _ _ _).drew⟩
theorem valL_step (base : Nat) (s : ByteArray) (pos m : Nat) (hp : pos < s.size) : valL base (s.data.toList.drop pos) m = valL base (s.data.toList.drop (pos + 1)) (if s[pos] = 46 then m else m * base + (s[pos].toNat - 48)) := by rw [drop_cons s pos hp]; rfl
theorem valL_end (base : Nat) (s : ByteArray) (m : Nat) : valL base (s.data.toList.drop s.size) m = m := by rw [drop_end s s.size (Nat.le_refl _)]; rfl
set_option maxHeartbeats 2000000 in
set_option maxRecDepth 100000 in
theorem rConstant_3 (t : ByteArray) (a : Int) (hs : t.size ≤ 1000000) (hc : checkI 3 t = true) (hs31 : t.size ≤ 31) (hb : allI bitI t = true) (w : World) : Calls Tryz.prog 15 #[.agg #[.int .i64 3, .string t, .int .i64 a]] w (ConQ 3 t w) := by
  have hn := bits_chars t hb
  have hf : conI 3 t = ⟨2, t.size, 0, valL 2 t.data.toList 0, ⟨#[]⟩, 0⟩ := by unfold conI; rw [if_neg (by rw [hc]; decide)]; rfl
  have HF := Lib.hid hf
  have HC := Lib.hid hc
  clear hf hc
  have HBC := Lib.hid (bits_chars t hb)
  have h46 : ∀ c ∈ t.data.toList, c ≠ 46 := fun c hc e => by
    have := List.all_eq_true.1 hb c hc
    rw [e] at this; exact absurd this (by decide)
  have H46 := Lib.hid h46
  have HP : Hid (2 ^ t.size ≤ 10000000000) := Lib.hid (Nat.le_trans (Nat.pow_le_pow_right (by decide) hs31) (by decide))
  clear hn hb h46 hs31
  go_enter Tryz.func15, Tryz.ntmps15
  go_upto_region 1 with fail
  obtain ⟨b1, n1, n2, n3⟩ := box3 w (.cells #[.int .i64 3, .string t, .int .i64 a] 24) (.cells #[.int .i64 0, .int .i64 0, .int .i64 0, .bool false, .string ⟨#[]⟩] 34) (.cells #[.int .i64 0, .string ⟨#[]⟩] 36)
  generalize ((w.alloc (.cells #[.int .i64 3, .string t, .int .i64 a] 24)).alloc (.cells #[.int .i64 0, .int .i64 0, .int .i64 0, .bool false, .string ⟨#[]⟩] 34)).alloc (.cells #[.int .i64 0, .string ⟨#[]⟩] 36) = w1 at b1 n1 n2 n3 ⊢
  have l1 := (Array.getElem?_eq_some_iff.1 n1).1
  have l2 := (Array.getElem?_eq_some_iff.1 n2).1
  have l3 := (Array.getElem?_eq_some_iff.1 n3).1
  have k0 : w1.cell? ⟨w.heap.size, 0, none⟩ = some (.int .i64 3) := cell_of_row _ _ 0 _ _ _ n1
  have k1 : w1.cell? ⟨w.heap.size, 1, none⟩ = some (.string t) := cell_of_row _ _ 1 _ _ _ n1
  have k2 : w1.cell? ⟨w.heap.size, 2, none⟩ = some (.int .i64 a) := cell_of_row _ _ 2 _ _ _ n1
  have hck : ∀ W, Calls Tryz.prog 38 #[.agg #[.int .i64 3, .string t, .int .i64 a]] W fun e w' => e = .returned (.int .i64 (errIf (checkI 3 t))) ∧ Below W.heap.size W w' :=
    fun W => rCheck_any 3 t a hs W
  rw [HC.out] at hck
  have HCK := Lib.hid hck
  clear hck
  go_wp2_with fail
  refine (HCK.out _).mono ?_
  rintro e w2 ⟨rfl, hb2⟩
  have n1 := (hb2.block _ l1).trans n1
  have n2 := (hb2.block _ l2).trans n2
  have n3 := (hb2.block _ l3).trans n3
  have b2 := b1.trans (hb2.mono b1.size)
  clear hb2 b1 l1 l2 l3 k0 k1 k2 HCK
  have l1 := (Array.getElem?_eq_some_iff.1 n1).1
  have l2 := (Array.getElem?_eq_some_iff.1 n2).1
  have l3 := (Array.getElem?_eq_some_iff.1 n3).1
  have k0 : w2.cell? ⟨w.heap.size, 0, none⟩ = some (.int .i64 3) := cell_of_row _ _ 0 _ _ _ n1
  have k1 : w2.cell? ⟨w.heap.size, 1, none⟩ = some (.string t) := cell_of_row _ _ 1 _ _ _ n1
  have N2 := Lib.hid n2
  have N3 := Lib.hid n3
  clear n1 n2 n3
  have q0 : w2.cell? ⟨w.heap.size + 1, 0, none⟩ = some (.int .i64 0) := cell_of_row _ _ 0 _ _ _ N2.out
  have q1 : w2.cell? ⟨w.heap.size + 1, 1, none⟩ = some (.int .i64 0) := cell_of_row _ _ 1 _ _ _ N2.out
  have q2 : w2.cell? ⟨w.heap.size + 1, 2, none⟩ = some (.int .i64 0) := cell_of_row _ _ 2 _ _ _ N2.out
  have q3 : w2.cell? ⟨w.heap.size + 1, 3, none⟩ = some (.bool false) := cell_of_row _ _ 3 _ _ _ N2.out
  have q4 : w2.cell? ⟨w.heap.size + 1, 4, none⟩ = some (.string ⟨#[]⟩) := cell_of_row _ _ 4 _ _ _ N2.out
  have r0 : w2.cell? ⟨w.heap.size + 1 + 1, 0, none⟩ = some (.int .i64 0) := cell_of_row _ _ 0 _ _ _ N3.out
  have r1 : w2.cell? ⟨w.heap.size + 1 + 1, 1, none⟩ = some (.string ⟨#[]⟩) := cell_of_row _ _ 1 _ _ _ N3.out
  have f0 := Lib.frozen_of_heap N2.out 0
  have f1 := Lib.frozen_of_heap N2.out 1
  have f2 := Lib.frozen_of_heap N2.out 2
  have f3 := Lib.frozen_of_heap N2.out 3
  have f4 := Lib.frozen_of_heap N2.out 4
  have g0 := Lib.frozen_of_heap N3.out 0
  have g1 := Lib.frozen_of_heap N3.out 1
  go_wp2_with fail
  go_loop [11, 12] (fun n i => ∃ pos m : Nat, pos ≤ t.size ∧ i = .int .i64 pos ∧ n = .int .i64 m ∧ m < 2 ^ pos ∧ valL 2 t.data.toList 0 = valL 2 (t.data.toList.drop pos) m) (fun _ i => t.size - (intOf i).toNat)
  case atStart => exact ⟨0, 0, Nat.zero_le _, rfl, rfl, by simp, rfl⟩
  case round =>
    obtain ⟨pos, m, hpos, rfl, rfl, hm, hv⟩ := hrel
    by_cases hp : pos < t.size
    · have hin : t[pos] ∈ t.data.toList := by simp [ByteArray.getElem_eq_getElem_data]
      have hmem := HBC.out t[pos] hin
      have hne := H46.out t[pos] hin
      rw [valL_step 2 t pos m hp, if_neg hne] at hv
      have hmem' : 48 ≤ (t[pos]'hp).toNat ∧ (t[pos]'hp).toNat < 48 + 2 := by
        rcases hmem with h | h
        · exact absurd h hne
        · exact h
      obtain ⟨c1, c2⟩ := hmem'
      obtain ⟨y1, y2, y3, y4⟩ := valL_bound 2 m ((t[pos]'hp).toNat - 48) pos t.size (by decide) hm (by omega) hp HP.out
      have HV := Lib.hid hv
      have x1 : (pos : Int) < (t.size : Int) := by omega
      have x2 : (0 : Int) ≤ (pos : Int) := by omega
      clear hv hmem hne hin hm
      go_wp2_with fail
      go_round
      case rel => exact ⟨pos + 1, m * 2 + ((t[pos]'hp).toNat - 48), hp, by go_num, by first | go_num | (congr 1; omega) | (simp; omega), y1, HV.out⟩
      case measure => simp [intOf]; omega
    · obtain rfl : pos = t.size := by omega
      rw [valL_end] at hv
      have HV := Lib.hid hv
      clear hv hm
      go_wp2_with fail
      refine bodyPost_ret (v := conV ⟨2, t.size, 0, valL 2 t.data.toList 0, ⟨#[]⟩, 0⟩) (by rw [HV.out]; simp [conV, results, Tryz.results15, go_sem, q0, q1, q2, q3, q4, r0, r1]) rfl ⟨by rw [HF.out], con_below b2 _ _ _ _ _ _ _⟩
set_option maxHeartbeats 2000000 in
set_option maxRecDepth 100000 in
theorem rConstant_2 (t : ByteArray) (a : Int) (hs : t.size ≤ 1000000) (hc : checkI 2 t = true) (hc0 : (numR t).2.2 = true) (w : World) : Calls Tryz.prog 15 #[.agg #[.int .i64 2, .string t, .int .i64 a]] w (ConQ 2 t w) := by
  have hn := numR_chars t hc0
  have hf : conI 2 t = ⟨1, (numR t).1, (numR t).2.1, valL 10 t.data.toList 0, ⟨#[]⟩, 0⟩ := by unfold conI; rw [if_neg (by rw [hc]; decide)]; rfl
  have HF := Lib.hid hf
  have HC := Lib.hid hc
  clear hf hc
  obtain ⟨hz10, hch⟩ := numR_chars t hc0
  have HBC := Lib.hid hch
  have HP : Hid (10 ^ t.size ≤ 10000000000) := Lib.hid (Nat.le_trans (Nat.pow_le_pow_right (by decide) hz10) (by decide))
  have hnum : ∀ W, Calls Tryz.prog 50 #[.string t] W fun e w' => e = .returned (.tuple #[.int .i64 (numR t).1, .int .i64 (numR t).2.1, .bool (numR t).2.2]) ∧ w' = W := fun W => rNumber_any t hs W
  have HN := Lib.hid hnum
  clear hch hnum hn hz10
  go_enter Tryz.func15, Tryz.ntmps15
  go_upto_region 1 with fail
  obtain ⟨b1, n1, n2, n3⟩ := box3 w (.cells #[.int .i64 2, .string t, .int .i64 a] 24) (.cells #[.int .i64 0, .int .i64 0, .int .i64 0, .bool false, .string ⟨#[]⟩] 34) (.cells #[.int .i64 0, .string ⟨#[]⟩] 36)
  generalize ((w.alloc (.cells #[.int .i64 2, .string t, .int .i64 a] 24)).alloc (.cells #[.int .i64 0, .int .i64 0, .int .i64 0, .bool false, .string ⟨#[]⟩] 34)).alloc (.cells #[.int .i64 0, .string ⟨#[]⟩] 36) = w1 at b1 n1 n2 n3 ⊢
  have l1 := (Array.getElem?_eq_some_iff.1 n1).1
  have l2 := (Array.getElem?_eq_some_iff.1 n2).1
  have l3 := (Array.getElem?_eq_some_iff.1 n3).1
  have k0 : w1.cell? ⟨w.heap.size, 0, none⟩ = some (.int .i64 2) := cell_of_row _ _ 0 _ _ _ n1
  have k1 : w1.cell? ⟨w.heap.size, 1, none⟩ = some (.string t) := cell_of_row _ _ 1 _ _ _ n1
  have k2 : w1.cell? ⟨w.heap.size, 2, none⟩ = some (.int .i64 a) := cell_of_row _ _ 2 _ _ _ n1
  have hck : ∀ W, Calls Tryz.prog 38 #[.agg #[.int .i64 2, .string t, .int .i64 a]] W fun e w' => e = .returned (.int .i64 (errIf (checkI 2 t))) ∧ Below W.heap.size W w' :=
    fun W => rCheck_any 2 t a hs W
  rw [HC.out] at hck
  have HCK := Lib.hid hck
  clear hck
  go_wp2_with fail
  refine (HCK.out _).mono ?_
  rintro e w2 ⟨rfl, hb2⟩
  have n1 := (hb2.block _ l1).trans n1
  have n2 := (hb2.block _ l2).trans n2
  have n3 := (hb2.block _ l3).trans n3
  have b2 := b1.trans (hb2.mono b1.size)
  clear hb2 b1 l1 l2 l3 k0 k1 k2 HCK
  have l1 := (Array.getElem?_eq_some_iff.1 n1).1
  have l2 := (Array.getElem?_eq_some_iff.1 n2).1
  have l3 := (Array.getElem?_eq_some_iff.1 n3).1
  have k0 : w2.cell? ⟨w.heap.size, 0, none⟩ = some (.int .i64 2) := cell_of_row _ _ 0 _ _ _ n1
  have k1 : w2.cell? ⟨w.heap.size, 1, none⟩ = some (.string t) := cell_of_row _ _ 1 _ _ _ n1
  have N2 := Lib.hid n2
  have N3 := Lib.hid n3
  clear n1 n2 n3
  have q0 : w2.cell? ⟨w.heap.size + 1, 0, none⟩ = some (.int .i64 0) := cell_of_row _ _ 0 _ _ _ N2.out
  have q1 : w2.cell? ⟨w.heap.size + 1, 1, none⟩ = some (.int .i64 0) := cell_of_row _ _ 1 _ _ _ N2.out
  have q2 : w2.cell? ⟨w.heap.size + 1, 2, none⟩ = some (.int .i64 0) := cell_of_row _ _ 2 _ _ _ N2.out
  have q3 : w2.cell? ⟨w.heap.size + 1, 3, none⟩ = some (.bool false) := cell_of_row _ _ 3 _ _ _ N2.out
  have q4 : w2.cell? ⟨w.heap.size + 1, 4, none⟩ = some (.string ⟨#[]⟩) := cell_of_row _ _ 4 _ _ _ N2.out
  have r0 : w2.cell? ⟨w.heap.size + 1 + 1, 0, none⟩ = some (.int .i64 0) := cell_of_row _ _ 0 _ _ _ N3.out
  have r1 : w2.cell? ⟨w.heap.size + 1 + 1, 1, none⟩ = some (.string ⟨#[]⟩) := cell_of_row _ _ 1 _ _ _ N3.out
  have f0 := Lib.frozen_of_heap N2.out 0
  have f1 := Lib.frozen_of_heap N2.out 1
  have f2 := Lib.frozen_of_heap N2.out 2
  have f3 := Lib.frozen_of_heap N2.out 3
  have f4 := Lib.frozen_of_heap N2.out 4
  have g0 := Lib.frozen_of_heap N3.out 0
  have g1 := Lib.frozen_of_heap N3.out 1
  go_wp2_with (go_at_call 50; refine (HN.out _).mono ?_; rintro e w' ⟨rfl, hw⟩; rw [hw]; clear hw)
  go_loop [9, 10] (fun n i => ∃ pos m : Nat, pos ≤ t.size ∧ i = .int .i64 pos ∧ n = .int .i64 m ∧ m < 10 ^ pos ∧ valL 10 t.data.toList 0 = valL 10 (t.data.toList.drop pos) m) (fun _ i => t.size - (intOf i).toNat)
  case atStart => exact ⟨0, 0, Nat.zero_le _, rfl, rfl, by simp, rfl⟩
  case round =>
    obtain ⟨pos, m, hpos, rfl, rfl, hm, hv⟩ := hrel
    by_cases hp : pos < t.size
    · have hin : t[pos] ∈ t.data.toList := by simp [ByteArray.getElem_eq_getElem_data]
      have hmem := HBC.out t[pos] hin
      have h46 : t[pos] = 46 ↔ ((t[pos].toNat : Nat) : Int) = 46 := byte_eq t[pos] 46 (by decide)
      have x1 : (pos : Int) < (t.size : Int) := by omega
      have x2 : (0 : Int) ≤ (pos : Int) := by omega
      rw [valL_step 10 t pos m hp] at hv
      by_cases hc : t[pos] = 46
      · rw [if_pos hc] at hv
        have e46 : ((((t[pos]'hp).toNat : Nat) : Int) != 46) = false := by rw [h46.1 hc]; rfl
        obtain ⟨_, y2, _, _⟩ := valL_bound 10 m 0 pos t.size (by decide) hm (by decide) hp HP.out
        have HV := Lib.hid hv
        clear hv hmem h46 hin hm hc
        go_wp2_with fail
        go_round
        case rel => exact ⟨pos + 1, m, hp, by go_num, rfl, y2, HV.out⟩
        case measure => simp [intOf]; omega
      · rw [if_neg hc] at hv
        have hmem' : 48 ≤ (t[pos]'hp).toNat ∧ (t[pos]'hp).toNat < 48 + 10 := by
          rcases hmem with h | h
          · exact absurd h hc
          · exact h
        obtain ⟨c1, c2⟩ := hmem'
        have e46 : ((((t[pos]'hp).toNat : Nat) : Int) != 46) = true := by rw [bne_iff_ne]; exact fun h => hc (h46.2 h)
        obtain ⟨y1, y2, y3, y4⟩ := valL_bound 10 m ((t[pos]'hp).toNat - 48) pos t.size (by decide) hm (by omega) hp HP.out
        have HV := Lib.hid hv
        clear hv hmem h46 hin hm hc
        go_wp2_with fail
        go_round
        case rel => exact ⟨pos + 1, m * 10 + ((t[pos]'hp).toNat - 48), hp, by go_num, by first | go_num | (congr 1; omega) | (simp; omega), y1, HV.out⟩
        case measure => simp [intOf]; omega
    · obtain rfl : pos = t.size := by omega
      rw [valL_end] at hv
      have HV := Lib.hid hv
      clear hv hm
      go_wp2_with fail
      refine bodyPost_ret (v := conV ⟨1, (numR t).1, (numR t).2.1, valL 10 t.data.toList 0, ⟨#[]⟩, 0⟩) (by rw [HV.out]; simp [conV, results, Tryz.results15, go_sem, q0, q1, q2, q3, q4, r0, r1]) rfl ⟨by rw [HF.out], con_below b2 _ _ _ _ _ _ _⟩
theorem rConstant_any (k : Int) (t : ByteArray) (a : Int) (hs : t.size ≤ 1000000) (w : World) : Calls Tryz.prog 15 #[.agg #[.int .i64 k, .string t, .int .i64 a]] w (ConQ k t w) := by
  cases hc : checkI k t with
  | false => exact rConstant_bad k t a hs hc w
  | true =>
    by_cases h2 : k = 2
    · subst h2; exact rConstant_2 t a hs hc hc w
    by_cases h3 : k = 3
    · subst h3
      have h : checkI 3 t = (decide (1 ≤ t.size) && decide (t.size ≤ 31) && allI bitI t) := rfl
      have hc' := hc
      rw [h, Bool.and_eq_true, Bool.and_eq_true] at hc'
      exact rConstant_3 t a hs hc (of_decide_eq_true hc'.1.2) hc'.2 w
    by_cases h4 : k = 4
    · subst h4; exact rConstant_4 t a hs hc w
    by_cases h5 : k = 5
    · subst h5; exact rConstant_5 t a hs hc w
    · exact rConstant_none k t a hs hc h2 h3 h4 h5 w
end Go.Proofs.YtafofcenphopbaaGreatDoor
namespace Go.Proofs.YtafofcenphopbaaGreatDoor
open Go.RowKit Lx

theorem var?_belowD {P : Program} {B g : Nat} {W W' : World} {n : String} {cs : Array Value} (h : Below B W W') (hg : P.globalNamed n = some g) (hgB : g < B) (hv : W.var? P n = some cs) : W'.var? P n = some cs := by
  unfold World.var? at hv ⊢
  rw [hg] at hv ⊢
  simp only [Option.bind_some] at hv ⊢
  rw [h.block _ hgB]; exact hv
theorem NT.below {w w' : World} (h : NT w) (hb : Below w.heap.size w w') : NT w' := by
  obtain ⟨h1, h2, h3⟩ := h
  have hg : Tryz.prog.globalNamed "internal/strconv.uint64pow10" = some 2 := by kernel_rfl
  refine ⟨Nat.lt_of_lt_of_le h1 hb.size, (hb.cell (p := ⟨5, 1, none⟩) h1).trans h2, ?_⟩
  have hlt : 2 < w.heap.size := by
    rcases Nat.lt_or_ge 2 w.heap.size with h | h
    · exact h
    · exfalso
      have := h3.cell hg 0 (by decide)
      simp [World.cell?, Array.getElem?_eq_none h] at this
  exact var?_belowD hb hg hlt h3
theorem s_empty {s : ByteArray} (h : s.toList = []) : s = ⟨#[]⟩ := by
  rw [ByteArray.toList_eq] at h
  obtain ⟨⟨l⟩⟩ := s
  simp at h; rw [h]
set_option maxHeartbeats 1000000 in
set_option maxRecDepth 100000 in
theorem rLit_2p0 (P m : Nat) (vary : Bool) (pic s t : ByteArray) (ht : litT 2 (P : Int) 0 vary pic = true) (hv : litV 2 (P : Int) (m : Int) s = true) (hdt : t = ⟨(digL 2 m (P) []).toArray⟩) (hm : m ≤ 4294967296) (h1 : 1 ≤ P) (h9 : P ≤ 31) (w : World) (hNT : NT w) : Calls Tryz.prog 17 #[.agg #[.int .i64 2, .int .i64 (P : Int), .int .i64 0, .bool vary, .string pic], .agg #[.int .i64 (m : Int), .string s]] w (LitQ [(3, t)] 0 w) := by
  have hsz : t.size = P := by rw [hdt]; exact digL_size _ _ _
  have hp : 1 ≤ (P : Int) ∧ (P : Int) ≤ 31 := by omega
  have hTT : ∀ W, Calls Tryz.prog 54 #[.agg #[.int .i64 2, .int .i64 (P : Int), .int .i64 0, .bool vary, .string pic]] W fun e w' => e = .returned (.bool true) ∧ Below W.heap.size W w' := fun W => by
    have := rright_any 2 (P : Int) 0 vary pic W
    rwa [ht] at this
  have HT := Lib.hid hTT
  clear hTT ht
  obtain ⟨hs0, hn1, hn2⟩ := litV_num (by first | exact .inl rfl | exact .inr rfl) hv
  obtain rfl := s_empty hs0
  have hmx : m < 2 ^ (P) := by
    unfold mostN at hn1 hn2
    simp only [show (((P : Int) : Int)).toNat = P from by omega] at hn1 hn2
    simp at hn1 hn2
    skip
    first | exact_mod_cast hn1 | (have h3 : (m : Int) < 2 ^ (P) := by omega
                                  exact_mod_cast h3)
  clear hv hs0 hn1 hn2
  have hDD : ∀ W, NT W → Calls Tryz.prog 55 #[.int .i64 m, .int .i64 2, .int .i64 (P : Int)] W fun e w' => e = .returned (.string t) ∧ Below W.heap.size W w' := fun W hW => by
    have := rdig_any 2 m (P) (by omega) (by omega) (by omega) (by omega) hmx W hW
    rw [← hdt] at this
    simpa using this
  have HD := Lib.hid hDD
  clear hDD
  have HSZ := Lib.hid hsz
  have HDT := Lib.hid hdt
  obtain ⟨i0, hi0, hz0, hz1, hz2⟩ := info_parts infoT
  clear hsz hdt hp
  have hneg : ¬ (m : Int) < 0 := by omega
  go_enter Tryz.func17, Tryz.ntmps17
  go_upto_region 1 with fail
  have b2 := below_box2 w (.cells #[.int .i64 2, .int .i64 (P : Int), .int .i64 0, .bool vary, .string pic] 34) (.cells #[.int .i64 (m : Int), .string ⟨#[]⟩] 36)
  have L2 := lb_box w 2 (P : Int) 0 vary pic (m : Int) ⟨#[]⟩
  generalize (w.alloc (.cells #[.int .i64 2, .int .i64 (P : Int), .int .i64 0, .bool vary, .string pic] 34)).alloc (.cells #[.int .i64 (m : Int), .string ⟨#[]⟩] 36) = w2 at b2 L2 ⊢
  obtain ⟨c0, c1, c2, c3, c4, d0, d1⟩ := L2.cells
  go_wp2_with fail
  refine (HT.out _).mono ?_
  rintro e w3 ⟨rfl, hb3⟩
  have b3 := b2.trans (hb3.mono b2.size)
  have L3 := L2.below hb3 (Nat.le_refl _)
  clear c0 c1 c2 c3 c4 d0 d1 hb3 b2 L2
  obtain ⟨c0, c1, c2, c3, c4, d0, d1⟩ := L3.cells
  go_wp2_with fail
  go_loopw [8, 10] (fun qm qi wr => wr = w3 ∧ ∃ i mm : Nat, i ≤ P ∧ mm = 2 ^ i ∧ qm = .int .i64 mm ∧ qi = .int .i64 i) (fun _ qi _ => P - (intOf qi).toNat)
  case atStart => exact ⟨rfl, 0, 1, by omega, rfl, rfl, rfl⟩
  case round =>
    obtain ⟨rfl, i, mm, hi, hmm, rfl, rfl⟩ := hrel
    have hbd : 2 ^ (P) ≤ 2147483648 := Nat.le_trans (Nat.pow_le_pow_right (by decide) h9) (by decide)
    by_cases hlt : i < P
    · have hst := pow_step 2 i (P) 2147483648 (by decide) hlt hbd
      rw [← hmm] at hst
      have HMM := Lib.hid hmm
      clear hmm hmx hbd
      go_wp2_with fail
      refine ⟨⟨trivial, i + 1, mm * 2, by omega, by rw [HMM.out, Nat.pow_succ], by simp, by simp⟩, ?_⟩
      simp only [intOf]
      omega
    obtain rfl : i = P := by omega
    rw [← hmm] at hmx hbd
    have HMM := Lib.hid hmm
    clear hmm hi hlt
    have b4 := b3
    have L4 := L3
    clear c0 c1 c2 c3 c4 d0 d1
    obtain ⟨c0, c1, c2, c3, c4, d0, d1⟩ := L4.cells
    have b5 := b4
    have L5 := L4
    go_wp2_with fail
    refine (HD.out _ (hNT.below b5)).mono ?_
    rintro e w6 ⟨rfl, hb6⟩
    have b6 := b5.trans (hb6.mono b5.size)
    have L6 := L5.below hb6 (Nat.le_refl _)
    have own6 : w6.ownsRow w.heap.size 24 3 (.slice none 0 0) 0 (rcells []) := World.ownsRow_nil _ _ _ _
    clear c0 c1 c2 c3 c4 d0 d1 hb6 b5 L5
    obtain ⟨c0, c1, c2, c3, c4, d0, d1⟩ := L6.cells
    have hnw6 := heap_alloc_new w6 (.cells #[.int .i64 3, .string t, .int .i64 0] 24)
    have honew6 : ∀ u ∈ [Value.int .i64 3, Value.string t, Value.int .i64 0], u.oneCell' = true := by
      intro u hu; simp at hu; rcases hu with rfl | rfl | rfl <;> rfl
    have hp3w6 : 0 < 3 := by decide
    go_wp2_with (at_builtin; refine wpList_append_own _ rfl _ _ 22 rfl w.heap.size 24 i0 (.agg #[.int .i64 0, .string ⟨#[]⟩, .int .i64 0]) 3 32 undTs hi0 hz0 hz1 hz2 rfl hp3w6 _ _ _ rfl (own6.alloc _) ⟨w6.heap.size, 0, none⟩ 1 1 [.int .i64 3, .string t, .int .i64 0] rfl rfl ?dd1w6 ?dd2w6 ?dd3w6 ?dd4w6 ?dd5w6 ?_)
    case dd1w6 => exact World.news_of_block hnw6
    case dd2w6 => exact honew6
    case dd3w6 => decide
    case dd4w6 => decide
    case dd5w6 => have := b6.size; simp; omega
    intro v7 w7 own7 hgrow _
    have b7 := (b6.alloc b6.size (.cells #[.int .i64 3, .string t, .int .i64 0] 24)).grown hgrow (by have := b6.size; simp; omega) (fun k hk => (own6.lt k hk).1)
    clear hnw6 honew6 hp3w6
    go_wp2_with fail
    go_ret2
    exact litQ_mk (TokRow.of_own own7) b7
set_option maxHeartbeats 1000000 in
set_option maxRecDepth 100000 in
theorem rLit_2n0 (P m : Nat) (vary : Bool) (pic s t : ByteArray) (ht : litT 2 (P : Int) 0 vary pic = true) (hv : litV 2 (P : Int) (-(m : Int)) s = true) (hdt : t = ⟨(digL 2 m (P) []).toArray⟩) (hm : m ≤ 4294967296) (h1 : 1 ≤ P) (h9 : P ≤ 31) (hm1 : 1 ≤ m) (w : World) (hNT : NT w) : Calls Tryz.prog 17 #[.agg #[.int .i64 2, .int .i64 (P : Int), .int .i64 0, .bool vary, .string pic], .agg #[.int .i64 (-(m : Int)), .string s]] w (LitQ [(6, ⟨#[45]⟩), (3, t)] 0 w) := by
  have hsz : t.size = P := by rw [hdt]; exact digL_size _ _ _
  have hp : 1 ≤ (P : Int) ∧ (P : Int) ≤ 31 := by omega
  have hTT : ∀ W, Calls Tryz.prog 54 #[.agg #[.int .i64 2, .int .i64 (P : Int), .int .i64 0, .bool vary, .string pic]] W fun e w' => e = .returned (.bool true) ∧ Below W.heap.size W w' := fun W => by
    have := rright_any 2 (P : Int) 0 vary pic W
    rwa [ht] at this
  have HT := Lib.hid hTT
  clear hTT ht
  obtain ⟨hs0, hn1, hn2⟩ := litV_num (by first | exact .inl rfl | exact .inr rfl) hv
  obtain rfl := s_empty hs0
  have hmx : m < 2 ^ (P) := by
    unfold mostN at hn1 hn2
    simp only [show (((P : Int) : Int)).toNat = P from by omega] at hn1 hn2
    simp at hn1 hn2
    skip
    first | exact_mod_cast hn1 | (have h3 : (m : Int) < 2 ^ (P) := by omega
                                  exact_mod_cast h3)
  clear hv hs0 hn1 hn2
  have hDD : ∀ W, NT W → Calls Tryz.prog 55 #[.int .i64 m, .int .i64 2, .int .i64 (P : Int)] W fun e w' => e = .returned (.string t) ∧ Below W.heap.size W w' := fun W hW => by
    have := rdig_any 2 m (P) (by omega) (by omega) (by omega) (by omega) hmx W hW
    rw [← hdt] at this
    simpa using this
  have HD := Lib.hid hDD
  clear hDD
  have HSZ := Lib.hid hsz
  have HDT := Lib.hid hdt
  obtain ⟨i0, hi0, hz0, hz1, hz2⟩ := info_parts infoT
  clear hsz hdt hp
  have hneg : (-(m : Int)) < 0 := by omega
  go_enter Tryz.func17, Tryz.ntmps17
  go_upto_region 1 with fail
  have b2 := below_box2 w (.cells #[.int .i64 2, .int .i64 (P : Int), .int .i64 0, .bool vary, .string pic] 34) (.cells #[.int .i64 (-(m : Int)), .string ⟨#[]⟩] 36)
  have L2 := lb_box w 2 (P : Int) 0 vary pic (-(m : Int)) ⟨#[]⟩
  generalize (w.alloc (.cells #[.int .i64 2, .int .i64 (P : Int), .int .i64 0, .bool vary, .string pic] 34)).alloc (.cells #[.int .i64 (-(m : Int)), .string ⟨#[]⟩] 36) = w2 at b2 L2 ⊢
  obtain ⟨c0, c1, c2, c3, c4, d0, d1⟩ := L2.cells
  go_wp2_with fail
  refine (HT.out _).mono ?_
  rintro e w3 ⟨rfl, hb3⟩
  have b3 := b2.trans (hb3.mono b2.size)
  have L3 := L2.below hb3 (Nat.le_refl _)
  clear c0 c1 c2 c3 c4 d0 d1 hb3 b2 L2
  obtain ⟨c0, c1, c2, c3, c4, d0, d1⟩ := L3.cells
  go_wp2_with fail
  go_loopw [8, 10] (fun qm qi wr => wr = w3 ∧ ∃ i mm : Nat, i ≤ P ∧ mm = 2 ^ i ∧ qm = .int .i64 mm ∧ qi = .int .i64 i) (fun _ qi _ => P - (intOf qi).toNat)
  case atStart => exact ⟨rfl, 0, 1, by omega, rfl, rfl, rfl⟩
  case round =>
    obtain ⟨rfl, i, mm, hi, hmm, rfl, rfl⟩ := hrel
    have hbd : 2 ^ (P) ≤ 2147483648 := Nat.le_trans (Nat.pow_le_pow_right (by decide) h9) (by decide)
    by_cases hlt : i < P
    · have hst := pow_step 2 i (P) 2147483648 (by decide) hlt hbd
      rw [← hmm] at hst
      have HMM := Lib.hid hmm
      clear hmm hmx hbd
      go_wp2_with fail
      refine ⟨⟨trivial, i + 1, mm * 2, by omega, by rw [HMM.out, Nat.pow_succ], by simp, by simp⟩, ?_⟩
      simp only [intOf]
      omega
    obtain rfl : i = P := by omega
    rw [← hmm] at hmx hbd
    have HMM := Lib.hid hmm
    clear hmm hi hlt
    have b4 := b3
    have L4 := L3
    clear c0 c1 c2 c3 c4 d0 d1
    obtain ⟨c0, c1, c2, c3, c4, d0, d1⟩ := L4.cells
    have own4 : wr.ownsRow w.heap.size 24 3 (.slice none 0 0) 0 (rcells []) := World.ownsRow_nil _ _ _ _
    have hnwr := heap_alloc_new wr (.cells #[.int .i64 6, .string ⟨#[45]⟩, .int .i64 0] 24)
    have honewr : ∀ u ∈ [Value.int .i64 6, Value.string ⟨#[45]⟩, Value.int .i64 0], u.oneCell' = true := by
      intro u hu; simp at hu; rcases hu with rfl | rfl | rfl <;> rfl
    have hp3wr : 0 < 3 := by decide
    go_wp2_with (at_builtin; refine wpList_append_own _ rfl _ _ 22 rfl w.heap.size 24 i0 (.agg #[.int .i64 0, .string ⟨#[]⟩, .int .i64 0]) 3 32 undTs hi0 hz0 hz1 hz2 rfl hp3wr _ _ _ rfl (own4.alloc _) ⟨wr.heap.size, 0, none⟩ 1 1 [.int .i64 6, .string ⟨#[45]⟩, .int .i64 0] rfl rfl ?dd1wr ?dd2wr ?dd3wr ?dd4wr ?dd5wr ?_)
    case dd1wr => exact World.news_of_block hnwr
    case dd2wr => exact honewr
    case dd3wr => decide
    case dd4wr => decide
    case dd5wr => have := b4.size; simp; omega
    intro v5 w5 own5 hgrow _
    have b5 := (b4.alloc b4.size (.cells #[.int .i64 6, .string ⟨#[45]⟩, .int .i64 0] 24)).grown hgrow (by have := b4.size; simp; omega) (fun k hk => (own4.lt k hk).1)
    clear hnwr honewr hp3wr
    have hbl5 : Below wr.heap.size wr w5 := ((Below.refl wr.heap.size wr).alloc (Nat.le_refl _) _).grown hgrow (by simp) (fun k hk => by cases hk)
    have L5 := L4.below hbl5 (Nat.le_refl _)
    clear c0 c1 c2 c3 c4 d0 d1 hgrow hbl5 L4 own4
    obtain ⟨c0, c1, c2, c3, c4, d0, d1⟩ := L5.cells
    go_wp2_with fail
    refine (HD.out _ (hNT.below b5)).mono ?_
    rintro e w6 ⟨rfl, hb6⟩
    have b6 := b5.trans (hb6.mono b5.size)
    have L6 := L5.below hb6 (Nat.le_refl _)
    have own6 := own_below own5 hb6
    clear c0 c1 c2 c3 c4 d0 d1 hb6 b5 L5
    obtain ⟨c0, c1, c2, c3, c4, d0, d1⟩ := L6.cells
    have hnw6 := heap_alloc_new w6 (.cells #[.int .i64 3, .string t, .int .i64 0] 24)
    have honew6 : ∀ u ∈ [Value.int .i64 3, Value.string t, Value.int .i64 0], u.oneCell' = true := by
      intro u hu; simp at hu; rcases hu with rfl | rfl | rfl <;> rfl
    have hp3w6 : 0 < 3 := by decide
    go_wp2_with (at_builtin; refine wpList_append_own _ rfl _ _ 22 rfl w.heap.size 24 i0 (.agg #[.int .i64 0, .string ⟨#[]⟩, .int .i64 0]) 3 32 undTs hi0 hz0 hz1 hz2 rfl hp3w6 _ _ _ rfl (own6.alloc _) ⟨w6.heap.size, 0, none⟩ 1 1 [.int .i64 3, .string t, .int .i64 0] rfl rfl ?dd1w6 ?dd2w6 ?dd3w6 ?dd4w6 ?dd5w6 ?_)
    case dd1w6 => exact World.news_of_block hnw6
    case dd2w6 => exact honew6
    case dd3w6 => decide
    case dd4w6 => decide
    case dd5w6 => have := b6.size; simp; omega
    intro v7 w7 own7 hgrow _
    have b7 := (b6.alloc b6.size (.cells #[.int .i64 3, .string t, .int .i64 0] 24)).grown hgrow (by have := b6.size; simp; omega) (fun k hk => (own6.lt k hk).1)
    clear hnw6 honew6 hp3w6
    go_wp2_with fail
    go_ret2
    exact litQ_mk (TokRow.of_own own7) b7
set_option maxHeartbeats 1000000 in
set_option maxRecDepth 100000 in
theorem rLit_10p0 (P m : Nat) (vary : Bool) (pic s t : ByteArray) (ht : litT 1 (P : Int) 0 vary pic = true) (hv : litV 1 (P : Int) (m : Int) s = true) (hdt : t = ⟨(digL 10 m (P) []).toArray⟩) (hm : m ≤ 4294967296) (h1 : 1 ≤ P) (h9 : P ≤ 9) (w : World) (hNT : NT w) : Calls Tryz.prog 17 #[.agg #[.int .i64 1, .int .i64 (P : Int), .int .i64 0, .bool vary, .string pic], .agg #[.int .i64 (m : Int), .string s]] w (LitQ [(2, t)] 0 w) := by
  have hsz : t.size = P := by rw [hdt]; exact digL_size _ _ _
  have hp : 1 ≤ (P : Int) ∧ (P : Int) ≤ 9 := by omega
  have hTT : ∀ W, Calls Tryz.prog 54 #[.agg #[.int .i64 1, .int .i64 (P : Int), .int .i64 0, .bool vary, .string pic]] W fun e w' => e = .returned (.bool true) ∧ Below W.heap.size W w' := fun W => by
    have := rright_any 1 (P : Int) 0 vary pic W
    rwa [ht] at this
  have HT := Lib.hid hTT
  clear hTT ht
  obtain ⟨hs0, hn1, hn2⟩ := litV_num (by first | exact .inl rfl | exact .inr rfl) hv
  obtain rfl := s_empty hs0
  have hmx : m < 10 ^ (P) := by
    unfold mostN at hn1 hn2
    simp only [show (((P : Int) : Int)).toNat = P from by omega] at hn1 hn2
    simp at hn1 hn2
    skip
    first | exact_mod_cast hn1 | (have h3 : (m : Int) < 10 ^ (P) := by omega
                                  exact_mod_cast h3)
  clear hv hs0 hn1 hn2
  have hDD : ∀ W, NT W → Calls Tryz.prog 55 #[.int .i64 m, .int .i64 10, .int .i64 (P : Int)] W fun e w' => e = .returned (.string t) ∧ Below W.heap.size W w' := fun W hW => by
    have := rdig_any 10 m (P) (by omega) (by omega) (by omega) (by omega) hmx W hW
    rw [← hdt] at this
    simpa using this
  have HD := Lib.hid hDD
  clear hDD
  have HSZ := Lib.hid hsz
  have HDT := Lib.hid hdt
  obtain ⟨i0, hi0, hz0, hz1, hz2⟩ := info_parts infoT
  clear hsz hdt hp
  have hneg : ¬ (m : Int) < 0 := by omega
  go_enter Tryz.func17, Tryz.ntmps17
  go_upto_region 1 with fail
  have b2 := below_box2 w (.cells #[.int .i64 1, .int .i64 (P : Int), .int .i64 0, .bool vary, .string pic] 34) (.cells #[.int .i64 (m : Int), .string ⟨#[]⟩] 36)
  have L2 := lb_box w 1 (P : Int) 0 vary pic (m : Int) ⟨#[]⟩
  generalize (w.alloc (.cells #[.int .i64 1, .int .i64 (P : Int), .int .i64 0, .bool vary, .string pic] 34)).alloc (.cells #[.int .i64 (m : Int), .string ⟨#[]⟩] 36) = w2 at b2 L2 ⊢
  obtain ⟨c0, c1, c2, c3, c4, d0, d1⟩ := L2.cells
  go_wp2_with fail
  refine (HT.out _).mono ?_
  rintro e w3 ⟨rfl, hb3⟩
  have b3 := b2.trans (hb3.mono b2.size)
  have L3 := L2.below hb3 (Nat.le_refl _)
  clear c0 c1 c2 c3 c4 d0 d1 hb3 b2 L2
  obtain ⟨c0, c1, c2, c3, c4, d0, d1⟩ := L3.cells
  go_wp2_with fail
  go_loopw [8, 10] (fun qm qi wr => wr = w3 ∧ ∃ i mm : Nat, i ≤ P ∧ mm = 10 ^ i ∧ qm = .int .i64 mm ∧ qi = .int .i64 i) (fun _ qi _ => P - (intOf qi).toNat)
  case atStart => exact ⟨rfl, 0, 1, by omega, rfl, rfl, rfl⟩
  case round =>
    obtain ⟨rfl, i, mm, hi, hmm, rfl, rfl⟩ := hrel
    have hbd : 10 ^ (P) ≤ 2147483648 := Nat.le_trans (Nat.pow_le_pow_right (by decide) h9) (by decide)
    by_cases hlt : i < P
    · have hst := pow_step 10 i (P) 2147483648 (by decide) hlt hbd
      rw [← hmm] at hst
      have HMM := Lib.hid hmm
      clear hmm hmx hbd
      go_wp2_with fail
      refine ⟨⟨trivial, i + 1, mm * 10, by omega, by rw [HMM.out, Nat.pow_succ], by simp, by simp⟩, ?_⟩
      simp only [intOf]
      omega
    obtain rfl : i = P := by omega
    rw [← hmm] at hmx hbd
    have HMM := Lib.hid hmm
    clear hmm hi hlt
    have b4 := b3
    have L4 := L3
    clear c0 c1 c2 c3 c4 d0 d1
    obtain ⟨c0, c1, c2, c3, c4, d0, d1⟩ := L4.cells
    have b5 := b4
    have L5 := L4
    go_wp2_with fail
    refine (HD.out _ (hNT.below b5)).mono ?_
    rintro e w6 ⟨rfl, hb6⟩
    have b6 := b5.trans (hb6.mono b5.size)
    have L6 := L5.below hb6 (Nat.le_refl _)
    have own6 : w6.ownsRow w.heap.size 24 3 (.slice none 0 0) 0 (rcells []) := World.ownsRow_nil _ _ _ _
    clear c0 c1 c2 c3 c4 d0 d1 hb6 b5 L5
    obtain ⟨c0, c1, c2, c3, c4, d0, d1⟩ := L6.cells
    have hnw6 := heap_alloc_new w6 (.cells #[.int .i64 2, .string t, .int .i64 0] 24)
    have honew6 : ∀ u ∈ [Value.int .i64 2, Value.string t, Value.int .i64 0], u.oneCell' = true := by
      intro u hu; simp at hu; rcases hu with rfl | rfl | rfl <;> rfl
    have hp3w6 : 0 < 3 := by decide
    go_wp2_with (at_builtin; refine wpList_append_own _ rfl _ _ 22 rfl w.heap.size 24 i0 (.agg #[.int .i64 0, .string ⟨#[]⟩, .int .i64 0]) 3 32 undTs hi0 hz0 hz1 hz2 rfl hp3w6 _ _ _ rfl (own6.alloc _) ⟨w6.heap.size, 0, none⟩ 1 1 [.int .i64 2, .string t, .int .i64 0] rfl rfl ?dd1w6 ?dd2w6 ?dd3w6 ?dd4w6 ?dd5w6 ?_)
    case dd1w6 => exact World.news_of_block hnw6
    case dd2w6 => exact honew6
    case dd3w6 => decide
    case dd4w6 => decide
    case dd5w6 => have := b6.size; simp; omega
    intro v7 w7 own7 hgrow _
    have b7 := (b6.alloc b6.size (.cells #[.int .i64 2, .string t, .int .i64 0] 24)).grown hgrow (by have := b6.size; simp; omega) (fun k hk => (own6.lt k hk).1)
    clear hnw6 honew6 hp3w6
    go_wp2_with fail
    go_ret2
    exact litQ_mk (TokRow.of_own own7) b7
set_option maxHeartbeats 1000000 in
set_option maxRecDepth 100000 in
theorem rLit_10n0 (P m : Nat) (vary : Bool) (pic s t : ByteArray) (ht : litT 1 (P : Int) 0 vary pic = true) (hv : litV 1 (P : Int) (-(m : Int)) s = true) (hdt : t = ⟨(digL 10 m (P) []).toArray⟩) (hm : m ≤ 4294967296) (h1 : 1 ≤ P) (h9 : P ≤ 9) (hm1 : 1 ≤ m) (w : World) (hNT : NT w) : Calls Tryz.prog 17 #[.agg #[.int .i64 1, .int .i64 (P : Int), .int .i64 0, .bool vary, .string pic], .agg #[.int .i64 (-(m : Int)), .string s]] w (LitQ [(6, ⟨#[45]⟩), (2, t)] 0 w) := by
  have hsz : t.size = P := by rw [hdt]; exact digL_size _ _ _
  have hp : 1 ≤ (P : Int) ∧ (P : Int) ≤ 9 := by omega
  have hTT : ∀ W, Calls Tryz.prog 54 #[.agg #[.int .i64 1, .int .i64 (P : Int), .int .i64 0, .bool vary, .string pic]] W fun e w' => e = .returned (.bool true) ∧ Below W.heap.size W w' := fun W => by
    have := rright_any 1 (P : Int) 0 vary pic W
    rwa [ht] at this
  have HT := Lib.hid hTT
  clear hTT ht
  obtain ⟨hs0, hn1, hn2⟩ := litV_num (by first | exact .inl rfl | exact .inr rfl) hv
  obtain rfl := s_empty hs0
  have hmx : m < 10 ^ (P) := by
    unfold mostN at hn1 hn2
    simp only [show (((P : Int) : Int)).toNat = P from by omega] at hn1 hn2
    simp at hn1 hn2
    skip
    first | exact_mod_cast hn1 | (have h3 : (m : Int) < 10 ^ (P) := by omega
                                  exact_mod_cast h3)
  clear hv hs0 hn1 hn2
  have hDD : ∀ W, NT W → Calls Tryz.prog 55 #[.int .i64 m, .int .i64 10, .int .i64 (P : Int)] W fun e w' => e = .returned (.string t) ∧ Below W.heap.size W w' := fun W hW => by
    have := rdig_any 10 m (P) (by omega) (by omega) (by omega) (by omega) hmx W hW
    rw [← hdt] at this
    simpa using this
  have HD := Lib.hid hDD
  clear hDD
  have HSZ := Lib.hid hsz
  have HDT := Lib.hid hdt
  obtain ⟨i0, hi0, hz0, hz1, hz2⟩ := info_parts infoT
  clear hsz hdt hp
  have hneg : (-(m : Int)) < 0 := by omega
  go_enter Tryz.func17, Tryz.ntmps17
  go_upto_region 1 with fail
  have b2 := below_box2 w (.cells #[.int .i64 1, .int .i64 (P : Int), .int .i64 0, .bool vary, .string pic] 34) (.cells #[.int .i64 (-(m : Int)), .string ⟨#[]⟩] 36)
  have L2 := lb_box w 1 (P : Int) 0 vary pic (-(m : Int)) ⟨#[]⟩
  generalize (w.alloc (.cells #[.int .i64 1, .int .i64 (P : Int), .int .i64 0, .bool vary, .string pic] 34)).alloc (.cells #[.int .i64 (-(m : Int)), .string ⟨#[]⟩] 36) = w2 at b2 L2 ⊢
  obtain ⟨c0, c1, c2, c3, c4, d0, d1⟩ := L2.cells
  go_wp2_with fail
  refine (HT.out _).mono ?_
  rintro e w3 ⟨rfl, hb3⟩
  have b3 := b2.trans (hb3.mono b2.size)
  have L3 := L2.below hb3 (Nat.le_refl _)
  clear c0 c1 c2 c3 c4 d0 d1 hb3 b2 L2
  obtain ⟨c0, c1, c2, c3, c4, d0, d1⟩ := L3.cells
  go_wp2_with fail
  go_loopw [8, 10] (fun qm qi wr => wr = w3 ∧ ∃ i mm : Nat, i ≤ P ∧ mm = 10 ^ i ∧ qm = .int .i64 mm ∧ qi = .int .i64 i) (fun _ qi _ => P - (intOf qi).toNat)
  case atStart => exact ⟨rfl, 0, 1, by omega, rfl, rfl, rfl⟩
  case round =>
    obtain ⟨rfl, i, mm, hi, hmm, rfl, rfl⟩ := hrel
    have hbd : 10 ^ (P) ≤ 2147483648 := Nat.le_trans (Nat.pow_le_pow_right (by decide) h9) (by decide)
    by_cases hlt : i < P
    · have hst := pow_step 10 i (P) 2147483648 (by decide) hlt hbd
      rw [← hmm] at hst
      have HMM := Lib.hid hmm
      clear hmm hmx hbd
      go_wp2_with fail
      refine ⟨⟨trivial, i + 1, mm * 10, by omega, by rw [HMM.out, Nat.pow_succ], by simp, by simp⟩, ?_⟩
      simp only [intOf]
      omega
    obtain rfl : i = P := by omega
    rw [← hmm] at hmx hbd
    have HMM := Lib.hid hmm
    clear hmm hi hlt
    have b4 := b3
    have L4 := L3
    clear c0 c1 c2 c3 c4 d0 d1
    obtain ⟨c0, c1, c2, c3, c4, d0, d1⟩ := L4.cells
    have own4 : wr.ownsRow w.heap.size 24 3 (.slice none 0 0) 0 (rcells []) := World.ownsRow_nil _ _ _ _
    have hnwr := heap_alloc_new wr (.cells #[.int .i64 6, .string ⟨#[45]⟩, .int .i64 0] 24)
    have honewr : ∀ u ∈ [Value.int .i64 6, Value.string ⟨#[45]⟩, Value.int .i64 0], u.oneCell' = true := by
      intro u hu; simp at hu; rcases hu with rfl | rfl | rfl <;> rfl
    have hp3wr : 0 < 3 := by decide
    go_wp2_with (at_builtin; refine wpList_append_own _ rfl _ _ 22 rfl w.heap.size 24 i0 (.agg #[.int .i64 0, .string ⟨#[]⟩, .int .i64 0]) 3 32 undTs hi0 hz0 hz1 hz2 rfl hp3wr _ _ _ rfl (own4.alloc _) ⟨wr.heap.size, 0, none⟩ 1 1 [.int .i64 6, .string ⟨#[45]⟩, .int .i64 0] rfl rfl ?dd1wr ?dd2wr ?dd3wr ?dd4wr ?dd5wr ?_)
    case dd1wr => exact World.news_of_block hnwr
    case dd2wr => exact honewr
    case dd3wr => decide
    case dd4wr => decide
    case dd5wr => have := b4.size; simp; omega
    intro v5 w5 own5 hgrow _
    have b5 := (b4.alloc b4.size (.cells #[.int .i64 6, .string ⟨#[45]⟩, .int .i64 0] 24)).grown hgrow (by have := b4.size; simp; omega) (fun k hk => (own4.lt k hk).1)
    clear hnwr honewr hp3wr
    have hbl5 : Below wr.heap.size wr w5 := ((Below.refl wr.heap.size wr).alloc (Nat.le_refl _) _).grown hgrow (by simp) (fun k hk => by cases hk)
    have L5 := L4.below hbl5 (Nat.le_refl _)
    clear c0 c1 c2 c3 c4 d0 d1 hgrow hbl5 L4 own4
    obtain ⟨c0, c1, c2, c3, c4, d0, d1⟩ := L5.cells
    go_wp2_with fail
    refine (HD.out _ (hNT.below b5)).mono ?_
    rintro e w6 ⟨rfl, hb6⟩
    have b6 := b5.trans (hb6.mono b5.size)
    have L6 := L5.below hb6 (Nat.le_refl _)
    have own6 := own_below own5 hb6
    clear c0 c1 c2 c3 c4 d0 d1 hb6 b5 L5
    obtain ⟨c0, c1, c2, c3, c4, d0, d1⟩ := L6.cells
    have hnw6 := heap_alloc_new w6 (.cells #[.int .i64 2, .string t, .int .i64 0] 24)
    have honew6 : ∀ u ∈ [Value.int .i64 2, Value.string t, Value.int .i64 0], u.oneCell' = true := by
      intro u hu; simp at hu; rcases hu with rfl | rfl | rfl <;> rfl
    have hp3w6 : 0 < 3 := by decide
    go_wp2_with (at_builtin; refine wpList_append_own _ rfl _ _ 22 rfl w.heap.size 24 i0 (.agg #[.int .i64 0, .string ⟨#[]⟩, .int .i64 0]) 3 32 undTs hi0 hz0 hz1 hz2 rfl hp3w6 _ _ _ rfl (own6.alloc _) ⟨w6.heap.size, 0, none⟩ 1 1 [.int .i64 2, .string t, .int .i64 0] rfl rfl ?dd1w6 ?dd2w6 ?dd3w6 ?dd4w6 ?dd5w6 ?_)
    case dd1w6 => exact World.news_of_block hnw6
    case dd2w6 => exact honew6
    case dd3w6 => decide
    case dd4w6 => decide
    case dd5w6 => have := b6.size; simp; omega
    intro v7 w7 own7 hgrow _
    have b7 := (b6.alloc b6.size (.cells #[.int .i64 2, .string t, .int .i64 0] 24)).grown hgrow (by have := b6.size; simp; omega) (fun k hk => (own6.lt k hk).1)
    clear hnw6 honew6 hp3w6
    go_wp2_with fail
    go_ret2
    exact litQ_mk (TokRow.of_own own7) b7
set_option maxHeartbeats 1000000 in
set_option maxRecDepth 100000 in
theorem rLit_10p1 (D Q m : Nat) (vary : Bool) (pic s t : ByteArray) (ht : litT 1 ((D : Int) + (Q : Int)) (Q : Int) vary pic = true) (hv : litV 1 ((D : Int) + (Q : Int)) (m : Int) s = true) (hdt : t = ⟨(digL 10 m (D + Q) []).toArray⟩) (hm : m ≤ 4294967296) (h1 : 1 ≤ D + Q) (h9 : D + Q ≤ 9) (hq : 1 ≤ Q) (w : World) (hNT : NT w) : Calls Tryz.prog 17 #[.agg #[.int .i64 1, .int .i64 ((D : Int) + (Q : Int)), .int .i64 (Q : Int), .bool vary, .string pic], .agg #[.int .i64 (m : Int), .string s]] w (LitQ [(2, ⟨(t.data.toList.take D ++ 46 :: t.data.toList.drop D).toArray⟩)] 0 w) := by
  have hsz : t.size = D + Q := by rw [hdt]; exact digL_size _ _ _
  have hp : 1 ≤ ((D : Int) + (Q : Int)) ∧ ((D : Int) + (Q : Int)) ≤ 9 := by omega
  have hTT : ∀ W, Calls Tryz.prog 54 #[.agg #[.int .i64 1, .int .i64 ((D : Int) + (Q : Int)), .int .i64 (Q : Int), .bool vary, .string pic]] W fun e w' => e = .returned (.bool true) ∧ Below W.heap.size W w' := fun W => by
    have := rright_any 1 ((D : Int) + (Q : Int)) (Q : Int) vary pic W
    rwa [ht] at this
  have HT := Lib.hid hTT
  clear hTT ht
  obtain ⟨hs0, hn1, hn2⟩ := litV_num (by first | exact .inl rfl | exact .inr rfl) hv
  obtain rfl := s_empty hs0
  have hmx : m < 10 ^ (D + Q) := by
    unfold mostN at hn1 hn2
    simp only [show ((((D : Int) + (Q : Int)) : Int)).toNat = D + Q from by omega] at hn1 hn2
    simp at hn1 hn2
    skip
    first | exact_mod_cast hn1 | (have h3 : (m : Int) < 10 ^ (D + Q) := by omega
                                  exact_mod_cast h3)
  clear hv hs0 hn1 hn2
  have hDD : ∀ W, NT W → Calls Tryz.prog 55 #[.int .i64 m, .int .i64 10, .int .i64 ((D : Int) + (Q : Int))] W fun e w' => e = .returned (.string t) ∧ Below W.heap.size W w' := fun W hW => by
    have := rdig_any 10 m (D + Q) (by omega) (by omega) (by omega) (by omega) hmx W hW
    rw [← hdt] at this
    simpa using this
  have HD := Lib.hid hDD
  clear hDD
  have HSZ := Lib.hid hsz
  have HDT := Lib.hid hdt
  obtain ⟨i0, hi0, hz0, hz1, hz2⟩ := info_parts infoT
  clear hsz hdt hp
  have hneg : ¬ (m : Int) < 0 := by omega
  have hq0 : (0 : Int) < (Q : Int) := by omega
  go_enter Tryz.func17, Tryz.ntmps17
  go_upto_region 1 with fail
  have b2 := below_box2 w (.cells #[.int .i64 1, .int .i64 ((D : Int) + (Q : Int)), .int .i64 (Q : Int), .bool vary, .string pic] 34) (.cells #[.int .i64 (m : Int), .string ⟨#[]⟩] 36)
  have L2 := lb_box w 1 ((D : Int) + (Q : Int)) (Q : Int) vary pic (m : Int) ⟨#[]⟩
  generalize (w.alloc (.cells #[.int .i64 1, .int .i64 ((D : Int) + (Q : Int)), .int .i64 (Q : Int), .bool vary, .string pic] 34)).alloc (.cells #[.int .i64 (m : Int), .string ⟨#[]⟩] 36) = w2 at b2 L2 ⊢
  obtain ⟨c0, c1, c2, c3, c4, d0, d1⟩ := L2.cells
  go_wp2_with fail
  refine (HT.out _).mono ?_
  rintro e w3 ⟨rfl, hb3⟩
  have b3 := b2.trans (hb3.mono b2.size)
  have L3 := L2.below hb3 (Nat.le_refl _)
  clear c0 c1 c2 c3 c4 d0 d1 hb3 b2 L2
  obtain ⟨c0, c1, c2, c3, c4, d0, d1⟩ := L3.cells
  go_wp2_with fail
  go_loopw [8, 10] (fun qm qi wr => wr = w3 ∧ ∃ i mm : Nat, i ≤ D + Q ∧ mm = 10 ^ i ∧ qm = .int .i64 mm ∧ qi = .int .i64 i) (fun _ qi _ => D + Q - (intOf qi).toNat)
  case atStart => exact ⟨rfl, 0, 1, by omega, rfl, rfl, rfl⟩
  case round =>
    obtain ⟨rfl, i, mm, hi, hmm, rfl, rfl⟩ := hrel
    have hbd : 10 ^ (D + Q) ≤ 2147483648 := Nat.le_trans (Nat.pow_le_pow_right (by decide) h9) (by decide)
    by_cases hlt : i < D + Q
    · have hst := pow_step 10 i (D + Q) 2147483648 (by decide) hlt hbd
      rw [← hmm] at hst
      have HMM := Lib.hid hmm
      clear hmm hmx hbd
      go_wp2_with fail
      refine ⟨⟨trivial, i + 1, mm * 10, by omega, by rw [HMM.out, Nat.pow_succ], by simp, by simp⟩, ?_⟩
      simp only [intOf]
      omega
    obtain rfl : i = D + Q := by omega
    rw [← hmm] at hmx hbd
    have HMM := Lib.hid hmm
    clear hmm hi hlt
    have b4 := b3
    have L4 := L3
    clear c0 c1 c2 c3 c4 d0 d1
    obtain ⟨c0, c1, c2, c3, c4, d0, d1⟩ := L4.cells
    have b5 := b4
    have L5 := L4
    go_wp2_with fail
    refine (HD.out _ (hNT.below b5)).mono ?_
    rintro e w6 ⟨rfl, hb6⟩
    have b6 := b5.trans (hb6.mono b5.size)
    have L6 := L5.below hb6 (Nat.le_refl _)
    have own6 : w6.ownsRow w.heap.size 24 3 (.slice none 0 0) 0 (rcells []) := World.ownsRow_nil _ _ _ _
    clear c0 c1 c2 c3 c4 d0 d1 hb6 b5 L5
    obtain ⟨c0, c1, c2, c3, c4, d0, d1⟩ := L6.cells
    have y0 : IntKind.i64.wrap (((D : Int) + (Q : Int)) - (Q : Int)) = (D : Int) := by rw [show ((D : Int) + (Q : Int)) - (Q : Int) = (D : Int) from by omega]; exact IntWalk.i64_in _ (by omega)
    have y1 : (0 : Int) ≤ (D : Int) := by omega
    have y2 : (D : Int) ≤ (t.size : Int) := by rw [HSZ.out]; omega
    have y3 : t.size ≤ 100 := by rw [HSZ.out]; omega
    go_upto_region 30 with fail
    go_quiet (fail)
    have own8 : (w6.drewN nq).ownsRow w.heap.size 24 3 (.slice none 0 0) 0 (rcells []) := own6
    have b8 := below_drewN b6 nq
    generalize w6.drewN nq = w8 at own8 b8 ⊢
    clear own6 y0 y1 y2 y3 c0 c1 c2 c3 c4 d0 d1 L6
    have hnw8 := heap_alloc_new w8 (.cells #[.int .i64 2, .string (t.extract 0 D ++ ⟨#[46]⟩ ++ t.extract D t.size), .int .i64 0] 24)
    have honew8 : ∀ u ∈ [Value.int .i64 2, Value.string (t.extract 0 D ++ ⟨#[46]⟩ ++ t.extract D t.size), Value.int .i64 0], u.oneCell' = true := by
      intro u hu; simp at hu; rcases hu with rfl | rfl | rfl <;> rfl
    have hp3w8 : 0 < 3 := by decide
    go_wp2_with (at_builtin; refine wpList_append_own _ rfl _ _ 22 rfl w.heap.size 24 i0 (.agg #[.int .i64 0, .string ⟨#[]⟩, .int .i64 0]) 3 32 undTs hi0 hz0 hz1 hz2 rfl hp3w8 _ _ _ rfl (own8.alloc _) ⟨w8.heap.size, 0, none⟩ 1 1 [.int .i64 2, .string (t.extract 0 D ++ ⟨#[46]⟩ ++ t.extract D t.size), .int .i64 0] rfl rfl ?dd1w8 ?dd2w8 ?dd3w8 ?dd4w8 ?dd5w8 ?_)
    case dd1w8 => exact World.news_of_block hnw8
    case dd2w8 => exact honew8
    case dd3w8 => decide
    case dd4w8 => decide
    case dd5w8 => have := b8.size; simp; omega
    intro v7 w7 own7 hgrow _
    have b7 := (b8.alloc b8.size (.cells #[.int .i64 2, .string (t.extract 0 D ++ ⟨#[46]⟩ ++ t.extract D t.size), .int .i64 0] 24)).grown hgrow (by have := b8.size; simp; omega) (fun k hk => (own8.lt k hk).1)
    clear hnw8 honew8 hp3w8
    go_wp2_with fail
    go_ret2
    have hdt := dec_text t D Q HSZ.out
    rw [hdt] at own7
    exact litQ_mk (TokRow.of_own own7) b7
set_option maxHeartbeats 1000000 in
set_option maxRecDepth 100000 in
theorem rLit_10n1 (D Q m : Nat) (vary : Bool) (pic s t : ByteArray) (ht : litT 1 ((D : Int) + (Q : Int)) (Q : Int) vary pic = true) (hv : litV 1 ((D : Int) + (Q : Int)) (-(m : Int)) s = true) (hdt : t = ⟨(digL 10 m (D + Q) []).toArray⟩) (hm : m ≤ 4294967296) (h1 : 1 ≤ D + Q) (h9 : D + Q ≤ 9) (hq : 1 ≤ Q) (hm1 : 1 ≤ m) (w : World) (hNT : NT w) : Calls Tryz.prog 17 #[.agg #[.int .i64 1, .int .i64 ((D : Int) + (Q : Int)), .int .i64 (Q : Int), .bool vary, .string pic], .agg #[.int .i64 (-(m : Int)), .string s]] w (LitQ [(6, ⟨#[45]⟩), (2, ⟨(t.data.toList.take D ++ 46 :: t.data.toList.drop D).toArray⟩)] 0 w) := by
  have hsz : t.size = D + Q := by rw [hdt]; exact digL_size _ _ _
  have hp : 1 ≤ ((D : Int) + (Q : Int)) ∧ ((D : Int) + (Q : Int)) ≤ 9 := by omega
  have hTT : ∀ W, Calls Tryz.prog 54 #[.agg #[.int .i64 1, .int .i64 ((D : Int) + (Q : Int)), .int .i64 (Q : Int), .bool vary, .string pic]] W fun e w' => e = .returned (.bool true) ∧ Below W.heap.size W w' := fun W => by
    have := rright_any 1 ((D : Int) + (Q : Int)) (Q : Int) vary pic W
    rwa [ht] at this
  have HT := Lib.hid hTT
  clear hTT ht
  obtain ⟨hs0, hn1, hn2⟩ := litV_num (by first | exact .inl rfl | exact .inr rfl) hv
  obtain rfl := s_empty hs0
  have hmx : m < 10 ^ (D + Q) := by
    unfold mostN at hn1 hn2
    simp only [show ((((D : Int) + (Q : Int)) : Int)).toNat = D + Q from by omega] at hn1 hn2
    simp at hn1 hn2
    skip
    first | exact_mod_cast hn1 | (have h3 : (m : Int) < 10 ^ (D + Q) := by omega
                                  exact_mod_cast h3)
  clear hv hs0 hn1 hn2
  have hDD : ∀ W, NT W → Calls Tryz.prog 55 #[.int .i64 m, .int .i64 10, .int .i64 ((D : Int) + (Q : Int))] W fun e w' => e = .returned (.string t) ∧ Below W.heap.size W w' := fun W hW => by
    have := rdig_any 10 m (D + Q) (by omega) (by omega) (by omega) (by omega) hmx W hW
    rw [← hdt] at this
    simpa using this
  have HD := Lib.hid hDD
  clear hDD
  have HSZ := Lib.hid hsz
  have HDT := Lib.hid hdt
  obtain ⟨i0, hi0, hz0, hz1, hz2⟩ := info_parts infoT
  clear hsz hdt hp
  have hneg : (-(m : Int)) < 0 := by omega
  have hq0 : (0 : Int) < (Q : Int) := by omega
  go_enter Tryz.func17, Tryz.ntmps17
  go_upto_region 1 with fail
  have b2 := below_box2 w (.cells #[.int .i64 1, .int .i64 ((D : Int) + (Q : Int)), .int .i64 (Q : Int), .bool vary, .string pic] 34) (.cells #[.int .i64 (-(m : Int)), .string ⟨#[]⟩] 36)
  have L2 := lb_box w 1 ((D : Int) + (Q : Int)) (Q : Int) vary pic (-(m : Int)) ⟨#[]⟩
  generalize (w.alloc (.cells #[.int .i64 1, .int .i64 ((D : Int) + (Q : Int)), .int .i64 (Q : Int), .bool vary, .string pic] 34)).alloc (.cells #[.int .i64 (-(m : Int)), .string ⟨#[]⟩] 36) = w2 at b2 L2 ⊢
  obtain ⟨c0, c1, c2, c3, c4, d0, d1⟩ := L2.cells
  go_wp2_with fail
  refine (HT.out _).mono ?_
  rintro e w3 ⟨rfl, hb3⟩
  have b3 := b2.trans (hb3.mono b2.size)
  have L3 := L2.below hb3 (Nat.le_refl _)
  clear c0 c1 c2 c3 c4 d0 d1 hb3 b2 L2
  obtain ⟨c0, c1, c2, c3, c4, d0, d1⟩ := L3.cells
  go_wp2_with fail
  go_loopw [8, 10] (fun qm qi wr => wr = w3 ∧ ∃ i mm : Nat, i ≤ D + Q ∧ mm = 10 ^ i ∧ qm = .int .i64 mm ∧ qi = .int .i64 i) (fun _ qi _ => D + Q - (intOf qi).toNat)
  case atStart => exact ⟨rfl, 0, 1, by omega, rfl, rfl, rfl⟩
  case round =>
    obtain ⟨rfl, i, mm, hi, hmm, rfl, rfl⟩ := hrel
    have hbd : 10 ^ (D + Q) ≤ 2147483648 := Nat.le_trans (Nat.pow_le_pow_right (by decide) h9) (by decide)
    by_cases hlt : i < D + Q
    · have hst := pow_step 10 i (D + Q) 2147483648 (by decide) hlt hbd
      rw [← hmm] at hst
      have HMM := Lib.hid hmm
      clear hmm hmx hbd
      go_wp2_with fail
      refine ⟨⟨trivial, i + 1, mm * 10, by omega, by rw [HMM.out, Nat.pow_succ], by simp, by simp⟩, ?_⟩
      simp only [intOf]
      omega
    obtain rfl : i = D + Q := by omega
    rw [← hmm] at hmx hbd
    have HMM := Lib.hid hmm
    clear hmm hi hlt
    have b4 := b3
    have L4 := L3
    clear c0 c1 c2 c3 c4 d0 d1
    obtain ⟨c0, c1, c2, c3, c4, d0, d1⟩ := L4.cells
    have own4 : wr.ownsRow w.heap.size 24 3 (.slice none 0 0) 0 (rcells []) := World.ownsRow_nil _ _ _ _
    have hnwr := heap_alloc_new wr (.cells #[.int .i64 6, .string ⟨#[45]⟩, .int .i64 0] 24)
    have honewr : ∀ u ∈ [Value.int .i64 6, Value.string ⟨#[45]⟩, Value.int .i64 0], u.oneCell' = true := by
      intro u hu; simp at hu; rcases hu with rfl | rfl | rfl <;> rfl
    have hp3wr : 0 < 3 := by decide
    go_wp2_with (at_builtin; refine wpList_append_own _ rfl _ _ 22 rfl w.heap.size 24 i0 (.agg #[.int .i64 0, .string ⟨#[]⟩, .int .i64 0]) 3 32 undTs hi0 hz0 hz1 hz2 rfl hp3wr _ _ _ rfl (own4.alloc _) ⟨wr.heap.size, 0, none⟩ 1 1 [.int .i64 6, .string ⟨#[45]⟩, .int .i64 0] rfl rfl ?dd1wr ?dd2wr ?dd3wr ?dd4wr ?dd5wr ?_)
    case dd1wr => exact World.news_of_block hnwr
    case dd2wr => exact honewr
    case dd3wr => decide
    case dd4wr => decide
    case dd5wr => have := b4.size; simp; omega
    intro v5 w5 own5 hgrow _
    have b5 := (b4.alloc b4.size (.cells #[.int .i64 6, .string ⟨#[45]⟩, .int .i64 0] 24)).grown hgrow (by have := b4.size; simp; omega) (fun k hk => (own4.lt k hk).1)
    clear hnwr honewr hp3wr
    have hbl5 : Below wr.heap.size wr w5 := ((Below.refl wr.heap.size wr).alloc (Nat.le_refl _) _).grown hgrow (by simp) (fun k hk => by cases hk)
    have L5 := L4.below hbl5 (Nat.le_refl _)
    clear c0 c1 c2 c3 c4 d0 d1 hgrow hbl5 L4 own4
    obtain ⟨c0, c1, c2, c3, c4, d0, d1⟩ := L5.cells
    go_wp2_with fail
    refine (HD.out _ (hNT.below b5)).mono ?_
    rintro e w6 ⟨rfl, hb6⟩
    have b6 := b5.trans (hb6.mono b5.size)
    have L6 := L5.below hb6 (Nat.le_refl _)
    have own6 := own_below own5 hb6
    clear c0 c1 c2 c3 c4 d0 d1 hb6 b5 L5
    obtain ⟨c0, c1, c2, c3, c4, d0, d1⟩ := L6.cells
    have y0 : IntKind.i64.wrap (((D : Int) + (Q : Int)) - (Q : Int)) = (D : Int) := by rw [show ((D : Int) + (Q : Int)) - (Q : Int) = (D : Int) from by omega]; exact IntWalk.i64_in _ (by omega)
    have y1 : (0 : Int) ≤ (D : Int) := by omega
    have y2 : (D : Int) ≤ (t.size : Int) := by rw [HSZ.out]; omega
    have y3 : t.size ≤ 100 := by rw [HSZ.out]; omega
    go_upto_region 30 with fail
    go_quiet (fail)
    have own8 : (w6.drewN nq).ownsRow w.heap.size 24 3 v5 _ _ := own6
    have b8 := below_drewN b6 nq
    generalize w6.drewN nq = w8 at own8 b8 ⊢
    clear own6 y0 y1 y2 y3 c0 c1 c2 c3 c4 d0 d1 L6
    have hnw8 := heap_alloc_new w8 (.cells #[.int .i64 2, .string (t.extract 0 D ++ ⟨#[46]⟩ ++ t.extract D t.size), .int .i64 0] 24)
    have honew8 : ∀ u ∈ [Value.int .i64 2, Value.string (t.extract 0 D ++ ⟨#[46]⟩ ++ t.extract D t.size), Value.int .i64 0], u.oneCell' = true := by
      intro u hu; simp at hu; rcases hu with rfl | rfl | rfl <;> rfl
    have hp3w8 : 0 < 3 := by decide
    go_wp2_with (at_builtin; refine wpList_append_own _ rfl _ _ 22 rfl w.heap.size 24 i0 (.agg #[.int .i64 0, .string ⟨#[]⟩, .int .i64 0]) 3 32 undTs hi0 hz0 hz1 hz2 rfl hp3w8 _ _ _ rfl (own8.alloc _) ⟨w8.heap.size, 0, none⟩ 1 1 [.int .i64 2, .string (t.extract 0 D ++ ⟨#[46]⟩ ++ t.extract D t.size), .int .i64 0] rfl rfl ?dd1w8 ?dd2w8 ?dd3w8 ?dd4w8 ?dd5w8 ?_)
    case dd1w8 => exact World.news_of_block hnw8
    case dd2w8 => exact honew8
    case dd3w8 => decide
    case dd4w8 => decide
    case dd5w8 => have := b8.size; simp; omega
    intro v7 w7 own7 hgrow _
    have b7 := (b8.alloc b8.size (.cells #[.int .i64 2, .string (t.extract 0 D ++ ⟨#[46]⟩ ++ t.extract D t.size), .int .i64 0] 24)).grown hgrow (by have := b8.size; simp; omega) (fun k hk => (own8.lt k hk).1)
    clear hnw8 honew8 hp3w8
    go_wp2_with fail
    go_ret2
    have hdt := dec_text t D Q HSZ.out
    rw [hdt] at own7
    exact litQ_mk (TokRow.of_own own7) b7
end Go.Proofs.YtafofcenphopbaaGreatDoor
namespace Go.Proofs.YtafofcenphopbaaGreatDoor
open Go.RowKit Lx

def litTx (kk n : Int) (P : Nat) (s : ByteArray) : List (Int × ByteArray) × Int := if n = 0 ∧ s.size = P ∧ checkI kk s = true then ([(kk, s)], 0) else ([], 6)
set_option maxHeartbeats 1000000 in
set_option maxRecDepth 100000 in
theorem rLit_type (k p q n : Int) (vary : Bool) (pic s : ByteArray) (ht : litT k p q vary pic = false) (w : World) : Calls Tryz.prog 17 #[.agg #[.int .i64 k, .int .i64 p, .int .i64 q, .bool vary, .string pic], .agg #[.int .i64 n, .string s]] w (LitQ [] 5 w) := by
  have hTT : ∀ W, Calls Tryz.prog 54 #[.agg #[.int .i64 k, .int .i64 p, .int .i64 q, .bool vary, .string pic]] W fun e w' => e = .returned (.bool false) ∧ Below W.heap.size W w' := fun W => by
    have := rright_any k p q vary pic W
    rwa [ht] at this
  have HT := Lib.hid hTT
  clear hTT ht
  go_enter Tryz.func17, Tryz.ntmps17
  go_upto_region 1 with fail
  have b2 := below_box2 w (.cells #[.int .i64 k, .int .i64 p, .int .i64 q, .bool vary, .string pic] 34) (.cells #[.int .i64 n, .string s] 36)
  have L2 := lb_box w k p q vary pic n s
  generalize (w.alloc (.cells #[.int .i64 k, .int .i64 p, .int .i64 q, .bool vary, .string pic] 34)).alloc (.cells #[.int .i64 n, .string s] 36) = w2 at b2 L2 ⊢
  obtain ⟨c0, c1, c2, c3, c4, d0, d1⟩ := L2.cells
  go_wp2_with fail
  refine (HT.out _).mono ?_
  rintro e w3 ⟨rfl, hb3⟩
  have b3 := b2.trans (hb3.mono b2.size)
  have L3 := L2.below hb3 (Nat.le_refl _)
  clear c0 c1 c2 c3 c4 d0 d1 hb3 b2 L2
  obtain ⟨c0, c1, c2, c3, c4, d0, d1⟩ := L3.cells
  go_wp2_with fail
  go_ret2
  exact litQ_nil b3
set_option maxHeartbeats 2000000 in
set_option maxRecDepth 100000 in
theorem rLit_bad1 (P : Nat) (q n : Int) (vary : Bool) (pic s : ByteArray) (ht : litT 1 (P : Int) q vary pic = true) (hv : litV 1 (P : Int) n s = false) (h9 : P ≤ 9) (_hN : -9223372036854775808 ≤ n ∧ n ≤ 9223372036854775807) (w : World) : Calls Tryz.prog 17 #[.agg #[.int .i64 1, .int .i64 (P : Int), .int .i64 q, .bool vary, .string pic], .agg #[.int .i64 n, .string s]] w (LitQ [] 6 w) := by
  have hTT : ∀ W, Calls Tryz.prog 54 #[.agg #[.int .i64 1, .int .i64 (P : Int), .int .i64 q, .bool vary, .string pic]] W fun e w' => e = .returned (.bool true) ∧ Below W.heap.size W w' := fun W => by
    have := rright_any 1 (P : Int) q vary pic W
    rwa [ht] at this
  have HT := Lib.hid hTT
  clear hTT ht
  have hbad : Hid (s = ⟨#[]⟩ → ¬ n < ((10 ^ P : Nat) : Int) ∨ ¬ -((10 ^ P : Nat) : Int) < n) := Lib.hid (by
    rintro rfl
    unfold litV mostN at hv
    rw [if_pos (by decide)] at hv
    simp only [Int.toNat_natCast] at hv
    by_cases x : n < ((10 ^ P : Nat) : Int)
    · refine .inr fun y => ?_
      have e : (⟨#[]⟩ : ByteArray).toList = [] := by rw [ByteArray.toList_eq]
      simp [e] at x y hv
      exact absurd (hv x) (by omega)
    · exact .inl x)
  clear hv
  go_enter Tryz.func17, Tryz.ntmps17
  go_upto_region 1 with fail
  have b2 := below_box2 w (.cells #[.int .i64 1, .int .i64 (P : Int), .int .i64 q, .bool vary, .string pic] 34) (.cells #[.int .i64 n, .string s] 36)
  have L2 := lb_box w 1 (P : Int) q vary pic n s
  generalize (w.alloc (.cells #[.int .i64 1, .int .i64 (P : Int), .int .i64 q, .bool vary, .string pic] 34)).alloc (.cells #[.int .i64 n, .string s] 36) = w2 at b2 L2 ⊢
  obtain ⟨c0, c1, c2, c3, c4, d0, d1⟩ := L2.cells
  go_wp2_with fail
  refine (HT.out _).mono ?_
  rintro e w3 ⟨rfl, hb3⟩
  have b3 := b2.trans (hb3.mono b2.size)
  have L3 := L2.below hb3 (Nat.le_refl _)
  clear c0 c1 c2 c3 c4 d0 d1 hb3 b2 L2
  obtain ⟨c0, c1, c2, c3, c4, d0, d1⟩ := L3.cells
  go_wp2_with fail
  go_loopw [8, 10] (fun qm qi wr => wr = w3 ∧ ∃ i mm : Nat, i ≤ P ∧ mm = 10 ^ i ∧ qm = .int .i64 mm ∧ qi = .int .i64 i) (fun _ qi _ => P - (intOf qi).toNat)
  case atStart => exact ⟨rfl, 0, 1, by omega, rfl, rfl, rfl⟩
  case round =>
    obtain ⟨rfl, i, mm, hi, hmm, rfl, rfl⟩ := hrel
    have hbd : 10 ^ P ≤ 2147483648 := Nat.le_trans (Nat.pow_le_pow_right (by decide) h9) (by decide)
    by_cases hlt : i < P
    · have hst := pow_step 10 i P 2147483648 (by decide) hlt hbd
      rw [← hmm] at hst
      have HMM := Lib.hid hmm
      clear hmm hbd
      go_wp2_with fail
      refine ⟨⟨trivial, i + 1, mm * 10, by omega, by rw [HMM.out, Nat.pow_succ], by simp, by simp⟩, ?_⟩
      simp only [intOf]
      omega
    obtain rfl : i = P := by omega
    rw [← hmm] at hbad hbd
    have HMM := Lib.hid hmm
    clear hmm hi hlt
    by_cases hse : s = ⟨#[]⟩
    · have hb2 := hbad.out hse
      subst hse
      rcases hb2 with hb2 | hb2
      all_goals
        go_wp2_with fail
        all_goals (go_ret2; exact litQ_nil b3)
    · have hse1 : ¬ s.toList = [] := fun e => hse (s_empty e)
      go_wp2_with fail
      all_goals (go_ret2; exact litQ_nil b3)
set_option maxHeartbeats 2000000 in
set_option maxRecDepth 100000 in
theorem rLit_bad2 (P : Nat) (q n : Int) (vary : Bool) (pic s : ByteArray) (ht : litT 2 (P : Int) q vary pic = true) (hv : litV 2 (P : Int) n s = false) (h9 : P ≤ 31) (_hN : -9223372036854775808 ≤ n ∧ n ≤ 9223372036854775807) (w : World) : Calls Tryz.prog 17 #[.agg #[.int .i64 2, .int .i64 (P : Int), .int .i64 q, .bool vary, .string pic], .agg #[.int .i64 n, .string s]] w (LitQ [] 6 w) := by
  have hTT : ∀ W, Calls Tryz.prog 54 #[.agg #[.int .i64 2, .int .i64 (P : Int), .int .i64 q, .bool vary, .string pic]] W fun e w' => e = .returned (.bool true) ∧ Below W.heap.size W w' := fun W => by
    have := rright_any 2 (P : Int) q vary pic W
    rwa [ht] at this
  have HT := Lib.hid hTT
  clear hTT ht
  have hbad : Hid (s = ⟨#[]⟩ → ¬ n < ((2 ^ P : Nat) : Int) ∨ ¬ -((2 ^ P : Nat) : Int) < n) := Lib.hid (by
    rintro rfl
    unfold litV mostN at hv
    rw [if_pos (by decide)] at hv
    simp only [Int.toNat_natCast] at hv
    by_cases x : n < ((2 ^ P : Nat) : Int)
    · refine .inr fun y => ?_
      have e : (⟨#[]⟩ : ByteArray).toList = [] := by rw [ByteArray.toList_eq]
      simp [e] at x y hv
      exact absurd (hv x) (by omega)
    · exact .inl x)
  clear hv
  go_enter Tryz.func17, Tryz.ntmps17
  go_upto_region 1 with fail
  have b2 := below_box2 w (.cells #[.int .i64 2, .int .i64 (P : Int), .int .i64 q, .bool vary, .string pic] 34) (.cells #[.int .i64 n, .string s] 36)
  have L2 := lb_box w 2 (P : Int) q vary pic n s
  generalize (w.alloc (.cells #[.int .i64 2, .int .i64 (P : Int), .int .i64 q, .bool vary, .string pic] 34)).alloc (.cells #[.int .i64 n, .string s] 36) = w2 at b2 L2 ⊢
  obtain ⟨c0, c1, c2, c3, c4, d0, d1⟩ := L2.cells
  go_wp2_with fail
  refine (HT.out _).mono ?_
  rintro e w3 ⟨rfl, hb3⟩
  have b3 := b2.trans (hb3.mono b2.size)
  have L3 := L2.below hb3 (Nat.le_refl _)
  clear c0 c1 c2 c3 c4 d0 d1 hb3 b2 L2
  obtain ⟨c0, c1, c2, c3, c4, d0, d1⟩ := L3.cells
  go_wp2_with fail
  go_loopw [8, 10] (fun qm qi wr => wr = w3 ∧ ∃ i mm : Nat, i ≤ P ∧ mm = 2 ^ i ∧ qm = .int .i64 mm ∧ qi = .int .i64 i) (fun _ qi _ => P - (intOf qi).toNat)
  case atStart => exact ⟨rfl, 0, 1, by omega, rfl, rfl, rfl⟩
  case round =>
    obtain ⟨rfl, i, mm, hi, hmm, rfl, rfl⟩ := hrel
    have hbd : 2 ^ P ≤ 2147483648 := Nat.le_trans (Nat.pow_le_pow_right (by decide) h9) (by decide)
    by_cases hlt : i < P
    · have hst := pow_step 2 i P 2147483648 (by decide) hlt hbd
      rw [← hmm] at hst
      have HMM := Lib.hid hmm
      clear hmm hbd
      go_wp2_with fail
      refine ⟨⟨trivial, i + 1, mm * 2, by omega, by rw [HMM.out, Nat.pow_succ], by simp, by simp⟩, ?_⟩
      simp only [intOf]
      omega
    obtain rfl : i = P := by omega
    rw [← hmm] at hbad hbd
    have HMM := Lib.hid hmm
    clear hmm hi hlt
    by_cases hse : s = ⟨#[]⟩
    · have hb2 := hbad.out hse
      subst hse
      rcases hb2 with hb2 | hb2
      all_goals
        go_wp2_with fail
        all_goals (go_ret2; exact litQ_nil b3)
    · have hse1 : ¬ s.toList = [] := fun e => hse (s_empty e)
      go_wp2_with fail
      all_goals (go_ret2; exact litQ_nil b3)
set_option maxHeartbeats 2000000 in
set_option maxRecDepth 100000 in
theorem rLit_text3 (P : Nat) (q n : Int) (vary : Bool) (pic s : ByteArray) (ht : litT 3 (P : Int) q vary pic = true) (h9 : P ≤ 255) (_hsz : s.size ≤ 140737488351232) (w : World) : Calls Tryz.prog 17 #[.agg #[.int .i64 3, .int .i64 (P : Int), .int .i64 q, .bool vary, .string pic], .agg #[.int .i64 n, .string s]] w (LitQ (litTx 4 n P s).1 (litTx 4 n P s).2 w) := by
  have hTT : ∀ W, Calls Tryz.prog 54 #[.agg #[.int .i64 3, .int .i64 (P : Int), .int .i64 q, .bool vary, .string pic]] W fun e w' => e = .returned (.bool true) ∧ Below W.heap.size W w' := fun W => by
    have := rright_any 3 (P : Int) q vary pic W
    rwa [ht] at this
  have HT := Lib.hid hTT
  clear hTT ht
  go_enter Tryz.func17, Tryz.ntmps17
  go_upto_region 1 with fail
  have b2 := below_box2 w (.cells #[.int .i64 3, .int .i64 (P : Int), .int .i64 q, .bool vary, .string pic] 34) (.cells #[.int .i64 n, .string s] 36)
  have L2 := lb_box w 3 (P : Int) q vary pic n s
  generalize (w.alloc (.cells #[.int .i64 3, .int .i64 (P : Int), .int .i64 q, .bool vary, .string pic] 34)).alloc (.cells #[.int .i64 n, .string s] 36) = w2 at b2 L2 ⊢
  obtain ⟨c0, c1, c2, c3, c4, d0, d1⟩ := L2.cells
  go_wp2_with fail
  refine (HT.out _).mono ?_
  rintro e w3 ⟨rfl, hb3⟩
  have b3 := b2.trans (hb3.mono b2.size)
  have L3 := L2.below hb3 (Nat.le_refl _)
  clear c0 c1 c2 c3 c4 d0 d1 hb3 b2 L2
  obtain ⟨c0, c1, c2, c3, c4, d0, d1⟩ := L3.cells
  go_upto_region 6 with fail
  have n4 := heap_alloc_new w3 (.cells #[.int .i64 4, .string s, .int .i64 0] 24)
  have bx := below_box w3 (.cells #[.int .i64 4, .string s, .int .i64 0] 24)
  generalize w3.alloc (.cells #[.int .i64 4, .string s, .int .i64 0] 24) = w4 at n4 bx ⊢
  have hlt := L3.lt
  have L4 := L3.below bx (Nat.le_refl _)
  clear c0 c1 c2 c3 c4 d0 d1
  obtain ⟨c0, c1, c2, c3, c4, d0, d1⟩ := L4.cells
  have f0 := Lib.frozen_of_heap n4 0
  have e0 : w4.cell? ⟨w3.heap.size, 0, none⟩ = some (.int .i64 4) := cell_of_row _ _ 0 _ _ _ n4
  go_upto_region 8 with fail
  obtain ⟨w5, rfl⟩ : ∃ w5, w5 = w4 := ⟨w4, rfl⟩
  have n5 := n4
  have bx5 := bx
  have L5 := L3.below bx5 (Nat.le_refl _)
  have b5 := b3.trans (bx5.mono b3.size)
  have h5 := (Array.getElem?_eq_some_iff.1 n5).1
  clear c0 c1 c2 c3 c4 d0 d1 f0 e0 n4 bx bx5 L4 L3 b3
  obtain ⟨c0, c1, c2, c3, c4, d0, d1⟩ := L5.cells
  have e0 : w5.cell? ⟨w3.heap.size, 0, none⟩ = some (.int .i64 4) := cell_of_row _ _ 0 _ _ _ n5
  have e1 : w5.cell? ⟨w3.heap.size, 1, none⟩ = some (.string s) := cell_of_row _ _ 1 _ _ _ n5
  have e2 : w5.cell? ⟨w3.heap.size, 2, none⟩ = some (.int .i64 0) := cell_of_row _ _ 2 _ _ _ n5
  by_cases hn : n = 0
  · subst hn
    by_cases hsP : s.size = P
    · have hck : ∀ W, Calls Tryz.prog 38 #[.agg #[.int .i64 4, .string s, .int .i64 0]] W fun e w' => e = .returned (.int .i64 (errIf (checkI 4 s))) ∧ Below W.heap.size W w' :=
        fun W => rCheck_any 4 s 0 (by omega) W
      have HCK := Lib.hid hck
      clear hck
      go_wp2_with fail
      refine (HCK.out _).mono ?_
      rintro e w6 ⟨rfl, hb6⟩
      have b6 := b5.trans (hb6.mono b5.size)
      have n6 := (hb6.block _ h5).trans n5
      clear c0 c1 c2 c3 c4 d0 d1 e0 e1 e2 b5 L5 n5 hb6 HCK
      have e0 : w6.cell? ⟨w3.heap.size, 0, none⟩ = some (.int .i64 4) := cell_of_row _ _ 0 _ _ _ n6
      have e1 : w6.cell? ⟨w3.heap.size, 1, none⟩ = some (.string s) := cell_of_row _ _ 1 _ _ _ n6
      have e2 : w6.cell? ⟨w3.heap.size, 2, none⟩ = some (.int .i64 0) := cell_of_row _ _ 2 _ _ _ n6
      cases hc : checkI 4 s with
      | true =>
        have HL := Lib.hid (show litTx 4 0 P s = ([(4, s)], 0) from if_pos ⟨rfl, hsP, hc⟩)
        clear hc
        simp only [errIf, if_true]
        go_wp2_with fail
        go_ret2
        rw [HL.out]
        exact litQ_mk (TokRow.one (heap_alloc_new _ _)) (b6.alloc b6.size _)
      | false =>
        have HL := Lib.hid (show litTx 4 0 P s = ([], 6) from if_neg (by rintro ⟨_, _, h⟩; rw [hc] at h; cases h))
        clear hc
        simp only [errIf]
        go_wp2_with fail
        go_ret2
        rw [HL.out]
        exact litQ_nil b6
    · have HL := Lib.hid (show litTx 4 0 P s = ([], 6) from if_neg (by rintro ⟨_, h, _⟩; exact hsP h))
      go_wp2_with fail
      go_ret2
      rw [HL.out]
      exact litQ_nil b5
  · have HL := Lib.hid (show litTx 4 n P s = ([], 6) from if_neg (by rintro ⟨h, _⟩; exact hn h))
    go_wp2_with fail
    go_ret2
    rw [HL.out]
    exact litQ_nil b5
set_option maxHeartbeats 2000000 in
set_option maxRecDepth 100000 in
theorem rLit_text4 (P : Nat) (q n : Int) (vary : Bool) (pic s : ByteArray) (ht : litT 4 (P : Int) q vary pic = true) (h9 : P ≤ 255) (_hsz : s.size ≤ 140737488351232) (w : World) : Calls Tryz.prog 17 #[.agg #[.int .i64 4, .int .i64 (P : Int), .int .i64 q, .bool vary, .string pic], .agg #[.int .i64 n, .string s]] w (LitQ (litTx 5 n P s).1 (litTx 5 n P s).2 w) := by
  have hTT : ∀ W, Calls Tryz.prog 54 #[.agg #[.int .i64 4, .int .i64 (P : Int), .int .i64 q, .bool vary, .string pic]] W fun e w' => e = .returned (.bool true) ∧ Below W.heap.size W w' := fun W => by
    have := rright_any 4 (P : Int) q vary pic W
    rwa [ht] at this
  have HT := Lib.hid hTT
  clear hTT ht
  go_enter Tryz.func17, Tryz.ntmps17
  go_upto_region 1 with fail
  have b2 := below_box2 w (.cells #[.int .i64 4, .int .i64 (P : Int), .int .i64 q, .bool vary, .string pic] 34) (.cells #[.int .i64 n, .string s] 36)
  have L2 := lb_box w 4 (P : Int) q vary pic n s
  generalize (w.alloc (.cells #[.int .i64 4, .int .i64 (P : Int), .int .i64 q, .bool vary, .string pic] 34)).alloc (.cells #[.int .i64 n, .string s] 36) = w2 at b2 L2 ⊢
  obtain ⟨c0, c1, c2, c3, c4, d0, d1⟩ := L2.cells
  go_wp2_with fail
  refine (HT.out _).mono ?_
  rintro e w3 ⟨rfl, hb3⟩
  have b3 := b2.trans (hb3.mono b2.size)
  have L3 := L2.below hb3 (Nat.le_refl _)
  clear c0 c1 c2 c3 c4 d0 d1 hb3 b2 L2
  obtain ⟨c0, c1, c2, c3, c4, d0, d1⟩ := L3.cells
  go_upto_region 6 with fail
  have n4 := heap_alloc_new w3 (.cells #[.int .i64 4, .string s, .int .i64 0] 24)
  have bx := below_box w3 (.cells #[.int .i64 4, .string s, .int .i64 0] 24)
  generalize w3.alloc (.cells #[.int .i64 4, .string s, .int .i64 0] 24) = w4 at n4 bx ⊢
  have hlt := L3.lt
  have L4 := L3.below bx (Nat.le_refl _)
  clear c0 c1 c2 c3 c4 d0 d1
  obtain ⟨c0, c1, c2, c3, c4, d0, d1⟩ := L4.cells
  have f0 := Lib.frozen_of_heap n4 0
  have e0 : w4.cell? ⟨w3.heap.size, 0, none⟩ = some (.int .i64 4) := cell_of_row _ _ 0 _ _ _ n4
  go_upto_region 8 with fail
  have n5 : (w4.setCell ⟨w3.heap.size, 0, none⟩ (.int .i64 5)).heap[w3.heap.size]? = some (.cells #[.int .i64 5, .string s, .int .i64 0] 24) := by
    simp [World.setCell, Array.getElem?_modify, n4]
  have bx5 := bx.setCell (p := ⟨w3.heap.size, 0, none⟩) (Nat.le_refl _) (.int .i64 5)
  generalize w4.setCell ⟨w3.heap.size, 0, none⟩ (.int .i64 5) = w5 at n5 bx5 ⊢
  have L5 := L3.below bx5 (Nat.le_refl _)
  have b5 := b3.trans (bx5.mono b3.size)
  have h5 := (Array.getElem?_eq_some_iff.1 n5).1
  clear c0 c1 c2 c3 c4 d0 d1 f0 e0 n4 bx bx5 L4 L3 b3
  obtain ⟨c0, c1, c2, c3, c4, d0, d1⟩ := L5.cells
  have e0 : w5.cell? ⟨w3.heap.size, 0, none⟩ = some (.int .i64 5) := cell_of_row _ _ 0 _ _ _ n5
  have e1 : w5.cell? ⟨w3.heap.size, 1, none⟩ = some (.string s) := cell_of_row _ _ 1 _ _ _ n5
  have e2 : w5.cell? ⟨w3.heap.size, 2, none⟩ = some (.int .i64 0) := cell_of_row _ _ 2 _ _ _ n5
  by_cases hn : n = 0
  · subst hn
    by_cases hsP : s.size = P
    · have hck : ∀ W, Calls Tryz.prog 38 #[.agg #[.int .i64 5, .string s, .int .i64 0]] W fun e w' => e = .returned (.int .i64 (errIf (checkI 5 s))) ∧ Below W.heap.size W w' :=
        fun W => rCheck_any 5 s 0 (by omega) W
      have HCK := Lib.hid hck
      clear hck
      go_wp2_with fail
      refine (HCK.out _).mono ?_
      rintro e w6 ⟨rfl, hb6⟩
      have b6 := b5.trans (hb6.mono b5.size)
      have n6 := (hb6.block _ h5).trans n5
      clear c0 c1 c2 c3 c4 d0 d1 e0 e1 e2 b5 L5 n5 hb6 HCK
      have e0 : w6.cell? ⟨w3.heap.size, 0, none⟩ = some (.int .i64 5) := cell_of_row _ _ 0 _ _ _ n6
      have e1 : w6.cell? ⟨w3.heap.size, 1, none⟩ = some (.string s) := cell_of_row _ _ 1 _ _ _ n6
      have e2 : w6.cell? ⟨w3.heap.size, 2, none⟩ = some (.int .i64 0) := cell_of_row _ _ 2 _ _ _ n6
      cases hc : checkI 5 s with
      | true =>
        have HL := Lib.hid (show litTx 5 0 P s = ([(5, s)], 0) from if_pos ⟨rfl, hsP, hc⟩)
        clear hc
        simp only [errIf, if_true]
        go_wp2_with fail
        go_ret2
        rw [HL.out]
        exact litQ_mk (TokRow.one (heap_alloc_new _ _)) (b6.alloc b6.size _)
      | false =>
        have HL := Lib.hid (show litTx 5 0 P s = ([], 6) from if_neg (by rintro ⟨_, _, h⟩; rw [hc] at h; cases h))
        clear hc
        simp only [errIf]
        go_wp2_with fail
        go_ret2
        rw [HL.out]
        exact litQ_nil b6
    · have HL := Lib.hid (show litTx 5 0 P s = ([], 6) from if_neg (by rintro ⟨_, h, _⟩; exact hsP h))
      go_wp2_with fail
      go_ret2
      rw [HL.out]
      exact litQ_nil b5
  · have HL := Lib.hid (show litTx 5 n P s = ([], 6) from if_neg (by rintro ⟨h, _⟩; exact hn h))
    go_wp2_with fail
    go_ret2
    rw [HL.out]
    exact litQ_nil b5
end Go.Proofs.YtafofcenphopbaaGreatDoor
namespace Go.Proofs.YtafofcenphopbaaGreatDoor
open Go.RowKit Lx

theorem lit_tx3 (P : Nat) (n : Int) (s : ByteArray) (hP : P ≤ 255) : litTx 4 n P s = if litV 3 (P : Int) n s = true then ([(4, s)], 0) else ([], 6) := by
  unfold litTx
  have e : (n = 0 ∧ s.size = P ∧ checkI 4 s = true) ↔ litV 3 (P : Int) n s = true := by
    unfold litV checkI
    simp
    intro _
    constructor
    · rintro ⟨h2, _, h3⟩; exact ⟨by omega, h3⟩
    · rintro ⟨h2, h3⟩; exact ⟨by omega, by omega, h3⟩
  by_cases h : litV 3 (P : Int) n s = true
  · rw [if_pos h, if_pos (e.2 h)]
  · rw [if_neg h, if_neg (fun x => h (e.1 x))]
theorem lit_tx4 (P : Nat) (n : Int) (s : ByteArray) (hP : P ≤ 64) : litTx 5 n P s = if litV 4 (P : Int) n s = true then ([(5, s)], 0) else ([], 6) := by
  unfold litTx
  have e : (n = 0 ∧ s.size = P ∧ checkI 5 s = true) ↔ litV 4 (P : Int) n s = true := by
    unfold litV checkI
    simp
    intro _
    constructor
    · rintro ⟨h2, _, h3⟩; exact ⟨by omega, h3⟩
    · rintro ⟨h2, h3⟩; exact ⟨by omega, by omega, h3⟩
  by_cases h : litV 4 (P : Int) n s = true
  · rw [if_pos h, if_pos (e.2 h)]
  · rw [if_neg h, if_neg (fun x => h (e.1 x))]
theorem rLiteral_any (k p q n : Int) (vary : Bool) (pic s : ByteArray) (hs : s.size ≤ 140737488351232) (hN : -9223372036854775808 ≤ n ∧ n ≤ 9223372036854775807) (w : World) (hNT : NT w) :
    Calls Tryz.prog 17 #[.agg #[.int .i64 k, .int .i64 p, .int .i64 q, .bool vary, .string pic], .agg #[.int .i64 n, .string s]] w (LitQ (litI k p q vary pic n s).1 (litI k p q vary pic n s).2 w) := by
  cases ht : litT k p q vary pic with
  | false =>
    rw [show litI k p q vary pic n s = ([], 5) from if_pos ht]
    exact rLit_type k p q n vary pic s ht w
  | true =>
    have hc := litT_cases ht
    cases hv : litV k p n s with
    | false =>
      rw [show litI k p q vary pic n s = ([], 6) from by unfold litI; rw [if_neg (by rw [ht]; decide), if_pos hv]]
      rcases hc with ⟨rfl, a, b, _, _⟩ | ⟨rfl, a, b, _⟩ | ⟨rfl, a, b, _⟩ | ⟨rfl, a, b, _⟩
      · obtain ⟨P, rfl⟩ : ∃ P : Nat, p = P := ⟨p.toNat, by omega⟩
        exact rLit_bad1 P q n vary pic s ht hv (by omega) hN w
      · obtain ⟨P, rfl⟩ : ∃ P : Nat, p = P := ⟨p.toNat, by omega⟩
        exact rLit_bad2 P q n vary pic s ht hv (by omega) hN w
      · obtain ⟨P, rfl⟩ : ∃ P : Nat, p = P := ⟨p.toNat, by omega⟩
        have := rLit_text3 P q n vary pic s ht (by omega) hs w
        rwa [lit_tx3 P n s (by omega), hv] at this
      · obtain ⟨P, rfl⟩ : ∃ P : Nat, p = P := ⟨p.toNat, by omega⟩
        have := rLit_text4 P q n vary pic s ht (by omega) hs w
        rwa [lit_tx4 P n s (by omega), hv] at this
    | true =>
      have hl : litI k p q vary pic n s = if k = 3 then ([(4, s)], 0) else if k = 4 then ([(5, s)], 0) else ((if n < 0 then [(6, ⟨#[45]⟩)] else []) ++ [numK k p q n], 0) := by
        unfold litI; rw [if_neg (by rw [ht]; decide), if_neg (by rw [hv]; decide)]
      rcases hc with ⟨rfl, a, b, c, d⟩ | ⟨rfl, a, b, rfl⟩ | ⟨rfl, a, b, _⟩ | ⟨rfl, a, b, _⟩
      · rw [hl, if_neg (by decide), if_neg (by decide)]
        obtain ⟨_, h1, h2⟩ := litV_num (.inl rfl) hv
        have hm := mostN_le 1 p (.inl ⟨rfl, b⟩)
        obtain ⟨P, rfl⟩ : ∃ P : Nat, p = P := ⟨p.toNat, by omega⟩
        obtain ⟨Q, rfl⟩ : ∃ Q : Nat, q = Q := ⟨q.toNat, by omega⟩
        by_cases hq : Q = 0
        · subst hq
          by_cases hn : n < 0
          · obtain ⟨m, rfl⟩ : ∃ m : Nat, n = -(m : Int) := ⟨n.natAbs, by omega⟩
            have := rLit_10n0 P m vary pic s ⟨(digL 10 m P []).toArray⟩ ht hv rfl (by omega) (by omega) (by omega) (by omega) w hNT
            rw [if_pos hn]
            simpa [numK, decT] using this
          · obtain ⟨m, rfl⟩ : ∃ m : Nat, n = (m : Int) := ⟨n.natAbs, by omega⟩
            have := rLit_10p0 P m vary pic s ⟨(digL 10 m P []).toArray⟩ ht hv rfl (by omega) (by omega) (by omega) w hNT
            rw [if_neg hn]
            simpa [numK, decT] using this
        · obtain ⟨D, rfl⟩ : ∃ D, P = D + Q := ⟨P - Q, by omega⟩
          have hDQ : D + Q - Q = D := by omega
          rw [Int.natCast_add] at ht hv ⊢
          have hto : ((D : Int) + (Q : Int)).toNat = D + Q := by omega
          by_cases hn : n < 0
          · obtain ⟨m, rfl⟩ : ∃ m : Nat, n = -(m : Int) := ⟨n.natAbs, by omega⟩
            have := rLit_10n1 D Q m vary pic s ⟨(digL 10 m (D + Q) []).toArray⟩ ht hv rfl (by omega) (by omega) (by omega) (by omega) (by omega) w hNT
            rw [if_pos hn]
            simpa [numK, decT, hq, hto, hDQ] using this
          · obtain ⟨m, rfl⟩ : ∃ m : Nat, n = (m : Int) := ⟨n.natAbs, by omega⟩
            have := rLit_10p1 D Q m vary pic s ⟨(digL 10 m (D + Q) []).toArray⟩ ht hv rfl (by omega) (by omega) (by omega) (by omega) w hNT
            rw [if_neg hn]
            simpa [numK, decT, hq, hto, hDQ] using this
      · rw [hl, if_neg (by decide), if_neg (by decide)]
        obtain ⟨_, h1, h2⟩ := litV_num (.inr rfl) hv
        have hm := mostN_le 2 p (.inr ⟨rfl, b⟩)
        obtain ⟨P, rfl⟩ : ∃ P : Nat, p = P := ⟨p.toNat, by omega⟩
        by_cases hn : n < 0
        · obtain ⟨m, rfl⟩ : ∃ m : Nat, n = -(m : Int) := ⟨n.natAbs, by omega⟩
          have := rLit_2n0 P m vary pic s ⟨(digL 2 m P []).toArray⟩ ht hv rfl (by omega) (by omega) (by omega) (by omega) w hNT
          rw [if_pos hn]
          simpa [numK] using this
        · obtain ⟨m, rfl⟩ : ∃ m : Nat, n = (m : Int) := ⟨n.natAbs, by omega⟩
          have := rLit_2p0 P m vary pic s ⟨(digL 2 m P []).toArray⟩ ht hv rfl (by omega) (by omega) (by omega) w hNT
          rw [if_neg hn]
          simpa [numK] using this
      · rw [hl, if_pos rfl]
        obtain ⟨P, rfl⟩ : ∃ P : Nat, p = P := ⟨p.toNat, by omega⟩
        have := rLit_text3 P q n vary pic s ht (by omega) hs w
        rwa [lit_tx3 P n s (by omega), hv] at this
      · rw [hl, if_neg (by decide), if_pos rfl]
        obtain ⟨P, rfl⟩ : ∃ P : Nat, p = P := ⟨p.toNat, by omega⟩
        have := rLit_text4 P q n vary pic s ht (by omega) hs w
        rwa [lit_tx4 P n s (by omega), hv] at this
end Go.Proofs.YtafofcenphopbaaGreatDoor
