/- sane: the walk. -/
import Derived.Test.YtafofcenphopbaaGreatDoorA35
namespace Go.Proofs.YtafofcenphopbaaGreatDoor
open Go.RowKit Lx
set_option maxHeartbeats 4000000 in
set_option maxRecDepth 100000 in
theorem sane_any (w : World) (hml : ML w) : Calls Tryz.prog 7 #[] w fun e w' => e = .returned (.bool true) ∧ Below w.heap.size w w' := by
  go_enter Tryz.func7, Tryz.ntmps7
  go_wp2_with fail
  refine (sT1 _ hml).mono ?_
  rintro e w1 ⟨lv, rfl, T1, BB⟩
  go_wp2_with (go_at_call 28; refine (token_any _ _ _ _).mono ?_; rintro e w' ⟨rfl, hb⟩; have BB := BB.trans (hb.mono BB.size); have T1 := T1.after hb; clear hb)
  have n1 := heap_alloc_new w' (.cells #[.int .i64 1, .string ⟨#[88]⟩, .int .i64 0, .int .i64 6, .string ⟨#[61]⟩, .int .i64 1, .int .i64 2, .string ⟨#[49, 46, 53, 48]⟩, .int .i64 2, .int .i64 6, .string ⟨#[43]⟩, .int .i64 6, .int .i64 4, .string ⟨#[105, 116, 39, 115]⟩, .int .i64 7, .int .i64 6, .string ⟨#[124, 124]⟩, .int .i64 14, .int .i64 5, .string ⟨#[48, 49]⟩, .int .i64 16, .int .i64 6, .string ⟨#[59]⟩, .int .i64 21] 24)
  have b1 := below_box w' (.cells #[.int .i64 1, .string ⟨#[88]⟩, .int .i64 0, .int .i64 6, .string ⟨#[61]⟩, .int .i64 1, .int .i64 2, .string ⟨#[49, 46, 53, 48]⟩, .int .i64 2, .int .i64 6, .string ⟨#[43]⟩, .int .i64 6, .int .i64 4, .string ⟨#[105, 116, 39, 115]⟩, .int .i64 7, .int .i64 6, .string ⟨#[124, 124]⟩, .int .i64 14, .int .i64 5, .string ⟨#[48, 49]⟩, .int .i64 16, .int .i64 6, .string ⟨#[59]⟩, .int .i64 21] 24)
  have T2 := TokRow.lit exWant _ _ n1 8
  have T1 := T1.after b1
  have BB := BB.trans (b1.mono BB.size)
  clear n1 b1
  generalize w'.alloc (.cells #[.int .i64 1, .string ⟨#[88]⟩, .int .i64 0, .int .i64 6, .string ⟨#[61]⟩, .int .i64 1, .int .i64 2, .string ⟨#[49, 46, 53, 48]⟩, .int .i64 2, .int .i64 6, .string ⟨#[43]⟩, .int .i64 6, .int .i64 4, .string ⟨#[105, 116, 39, 115]⟩, .int .i64 7, .int .i64 6, .string ⟨#[124, 124]⟩, .int .i64 14, .int .i64 5, .string ⟨#[48, 49]⟩, .int .i64 16, .int .i64 6, .string ⟨#[59]⟩, .int .i64 21] 24) = w2 at T1 T2 BB ⊢
  refine (EqualT_any _ _ exWant exWant _ T1 T2 (by decide) (by decide)).mono ?_
  rintro e w3 ⟨rfl, q, rfl⟩
  have BB := below_drewN BB q
  rw [decide_eq_true (rfl : exWant = exWant)]
  clear T1 T2
  generalize w2.drewN q = w3 at BB ⊢
  go_wp2_with fail
  refine (sName _ (hml.below BB)).mono ?_
  rintro e w4 ⟨rfl, hb⟩
  have BB := BB.trans (hb.mono BB.size)
  clear hb
  go_wp2_with fail
  refine (sT2 _ (hml.below BB)).mono ?_
  rintro e w5 ⟨lv2, rfl, hb⟩
  have BB := BB.trans (hb.mono BB.size)
  clear hb
  go_wp2_with (go_at_call 28; refine (token_any _ _ _ _).mono ?_; rintro e w' ⟨rfl, hb⟩; have BB := BB.trans (hb.mono BB.size); clear hb)
  have n1 := heap_alloc_new w' (.cells #[.int .i64 1, .string ⟨#[88]⟩, .int .i64 0, .int .i64 6, .string ⟨#[61]⟩, .int .i64 0, .int .i64 1, .string ⟨#[65]⟩, .int .i64 0, .int .i64 6, .string ⟨#[45]⟩, .int .i64 0, .int .i64 1, .string ⟨#[66]⟩, .int .i64 0, .int .i64 6, .string ⟨#[59]⟩, .int .i64 0, .int .i64 1, .string ⟨#[89]⟩, .int .i64 0] 24)
  have b1 := below_box w' (.cells #[.int .i64 1, .string ⟨#[88]⟩, .int .i64 0, .int .i64 6, .string ⟨#[61]⟩, .int .i64 0, .int .i64 1, .string ⟨#[65]⟩, .int .i64 0, .int .i64 6, .string ⟨#[45]⟩, .int .i64 0, .int .i64 1, .string ⟨#[66]⟩, .int .i64 0, .int .i64 6, .string ⟨#[59]⟩, .int .i64 0, .int .i64 1, .string ⟨#[89]⟩, .int .i64 0] 24)
  have T2 := TokRow.lit exPr _ _ n1 7
  have BB := BB.trans (b1.mono BB.size)
  clear n1 b1
  generalize w'.alloc (.cells #[.int .i64 1, .string ⟨#[88]⟩, .int .i64 0, .int .i64 6, .string ⟨#[61]⟩, .int .i64 0, .int .i64 1, .string ⟨#[65]⟩, .int .i64 0, .int .i64 6, .string ⟨#[45]⟩, .int .i64 0, .int .i64 1, .string ⟨#[66]⟩, .int .i64 0, .int .i64 6, .string ⟨#[59]⟩, .int .i64 0, .int .i64 1, .string ⟨#[89]⟩, .int .i64 0] 24) = w6 at T2 BB ⊢
  refine (sPrint _ _ (hml.below BB) T2).mono ?_
  rintro e w7 ⟨rfl, hb⟩
  have BB := BB.trans (hb.mono BB.size)
  clear hb T2
  go_wp2_with (go_at_call 28; refine (token_any _ _ _ _).mono ?_; rintro e w' ⟨rfl, hb⟩; have BB := BB.trans (hb.mono BB.size); clear hb)
  refine (sCon _ (hml.below BB)).mono ?_
  rintro e w8 ⟨rfl, hb⟩
  have BB := BB.trans (hb.mono BB.size)
  clear hb
  go_wp2_with fail
  have nT := heap_alloc_new w8 (.cells #[.int .i64 1, .int .i64 3, .int .i64 2, .bool false, .string ⟨#[]⟩] 34)
  have nT := (Lib.alloc_old (w8.alloc (.cells #[.int .i64 1, .int .i64 3, .int .i64 2, .bool false, .string ⟨#[]⟩] 34)) (.cells #[.int .i64 150, .string ⟨#[]⟩] 36) w8.heap.size (Array.getElem?_eq_some_iff.1 nT).1).trans nT
  have nV := heap_alloc_new (w8.alloc (.cells #[.int .i64 1, .int .i64 3, .int .i64 2, .bool false, .string ⟨#[]⟩] 34)) (.cells #[.int .i64 150, .string ⟨#[]⟩] 36)
  rw [World.size_alloc] at nV
  have BB := BB.trans ((below_box2 w8 (.cells #[.int .i64 1, .int .i64 3, .int .i64 2, .bool false, .string ⟨#[]⟩] 34) (.cells #[.int .i64 150, .string ⟨#[]⟩] 36)).mono BB.size)
  have NT := Lib.hid nT
  have NV := Lib.hid nV
  clear nT nV
  generalize (w8.alloc (.cells #[.int .i64 1, .int .i64 3, .int .i64 2, .bool false, .string ⟨#[]⟩] 34)).alloc (.cells #[.int .i64 150, .string ⟨#[]⟩] 36) = w9 at NT NV BB ⊢
  refine (sLit _ (hml.below BB)).mono ?_
  rintro e w10 ⟨lv3, rfl, T3', hb⟩
  have BB := BB.trans (hb.mono BB.size)
  have NT := Lib.hid ((hb.block _ (Array.getElem?_eq_some_iff.1 NT.out).1).trans NT.out)
  have NV := Lib.hid ((hb.block _ (Array.getElem?_eq_some_iff.1 NV.out).1).trans NV.out)
  clear hb
  go_wp2_with fail
  refine (sWhere _ (hml.below BB)).mono ?_
  rintro e w11 ⟨rfl, hb⟩
  have BB := BB.trans (hb.mono BB.size)
  have NT := Lib.hid ((hb.block _ (Array.getElem?_eq_some_iff.1 NT.out).1).trans NT.out)
  have NV := Lib.hid ((hb.block _ (Array.getElem?_eq_some_iff.1 NV.out).1).trans NV.out)
  have T3' := T3'.after hb
  clear hb
  go_upto_region 11 with fail
  have nP := heap_alloc_new w11 (.cells #[.int .i64 2, .int .i64 2] 60)
  have b1 := below_box w11 (.cells #[.int .i64 2, .int .i64 2] 60)
  have BB := BB.trans (b1.mono BB.size)
  have nT := (b1.block _ (Array.getElem?_eq_some_iff.1 NT.out).1).trans NT.out
  have nV := (b1.block _ (Array.getElem?_eq_some_iff.1 NV.out).1).trans NV.out
  have T3' := T3'.after b1
  clear b1 NT NV
  generalize w11.alloc (.cells #[.int .i64 2, .int .i64 2] 60) = w12 at nP nT nV T3' BB ⊢
  have t0 : w12.cell? ⟨w8.heap.size, 0, none⟩ = some (.int .i64 1) := cell_of_row _ _ 0 _ _ _ nT
  have t1 : w12.cell? ⟨w8.heap.size, 1, none⟩ = some (.int .i64 3) := cell_of_row _ _ 1 _ _ _ nT
  have t2 : w12.cell? ⟨w8.heap.size, 2, none⟩ = some (.int .i64 2) := cell_of_row _ _ 2 _ _ _ nT
  have t3 : w12.cell? ⟨w8.heap.size, 3, none⟩ = some (.bool false) := cell_of_row _ _ 3 _ _ _ nT
  have t4 : w12.cell? ⟨w8.heap.size, 4, none⟩ = some (.string ⟨#[]⟩) := cell_of_row _ _ 4 _ _ _ nT
  have v0 : w12.cell? ⟨w8.heap.size + 1, 0, none⟩ = some (.int .i64 150) := cell_of_row _ _ 0 _ _ _ nV
  have v1 : w12.cell? ⟨w8.heap.size + 1, 1, none⟩ = some (.string ⟨#[]⟩) := cell_of_row _ _ 1 _ _ _ nV
  have p0 : w12.cell? ⟨w11.heap.size, 0, none⟩ = some (.int .i64 2) := cell_of_row _ _ 0 _ _ _ nP
  have p1 : w12.cell? ⟨w11.heap.size, 1, none⟩ = some (.int .i64 2) := cell_of_row _ _ 1 _ _ _ nP
  obtain ⟨ao, cap, rfl, hc⟩ := T3'
  obtain ⟨bl, ol, rfl, _, hc⟩ := hc (by simp)
  have l0 := hc 0 (by simp) 1 _ rfl
  have l1 := hc 1 (by simp) 1 _ rfl
  have neT : ∀ W, (binOp .neq 34 (.agg #[.int .i64 1, .int .i64 3, .int .i64 2, .bool false, .string ⟨#[]⟩]) (.agg #[.int .i64 1, .int .i64 3, .int .i64 2, .bool false, .string ⟨#[]⟩])).run Tryz.prog W = .ok (.bool false) W := fun _ => by kernel_rfl
  have neV : ∀ W, (binOp .neq 36 (.agg #[.int .i64 150, .string ⟨#[]⟩]) (.agg #[.int .i64 150, .string ⟨#[]⟩])).run Tryz.prog W = .ok (.bool false) W := fun _ => by kernel_rfl
  have neP : ∀ W, (binOp .neq 60 (.agg #[.int .i64 2, .int .i64 2]) (.agg #[.int .i64 2, .int .i64 2])).run Tryz.prog W = .ok (.bool false) W := fun _ => by kernel_rfl
  clear nP nT nV hc
  go_upto_region 13 with fail
  clear t0 t1 t2 t3 t4 v0 v1 p0 p1 l0 l1 neT neV neP
  go_wp2_with (go_at_call 28; refine (token_any _ _ _ _).mono ?_; rintro e w' ⟨rfl, hb⟩; have BB := BB.trans (hb.mono BB.size); clear hb)
  refine (sTight _ (hml.below BB)).mono ?_
  rintro e w13 ⟨rfl, hb⟩
  have BB := BB.trans (hb.mono BB.size)
  clear hb
  go_wp2_with fail
  refine (sCom _ (hml.below BB)).mono ?_
  rintro e w14 ⟨cv, rfl, C1, hb⟩
  have BB := BB.trans (hb.mono BB.size)
  clear hb
  go_wp2_with fail
  refine (sStrip _ (hml.below BB)).mono ?_
  rintro e w15 ⟨rfl, hb⟩
  have BB := BB.trans (hb.mono BB.size)
  have C1 := C1.below hb (Nat.le_refl _)
  clear hb
  go_wp2_with fail
  have nC := heap_alloc_new w15 (.cells #[.int .i64 1, .int .i64 6] 69)
  have b1 := below_box w15 (.cells #[.int .i64 1, .int .i64 6] 69)
  have C2 : ComRow _ (.slice (some ⟨w15.heap.size, 0, none⟩) 1 1) [(1, 6)] := ComRow.lit [(1, 6)] _ _ nC 1
  have C1 := C1.below b1 (Nat.le_refl _)
  have BB := BB.trans (b1.mono BB.size)
  clear nC b1
  generalize w15.alloc (.cells #[.int .i64 1, .int .i64 6] 69) = w16 at C1 C2 BB ⊢
  refine (EqualC_any _ _ [(1, 6)] [(1, 6)] _ C1 C2 (by decide) (by decide)).mono ?_
  rintro e w17 ⟨rfl, q, rfl⟩
  have BB := below_drewN BB q
  rw [decide_eq_true (rfl : [((1 : Int), (6 : Int))] = [(1, 6)])]
  clear C1 C2
  generalize w16.drewN q = w17 at BB ⊢
  go_wp2_with fail
  refine (sIsA _ (hml.below BB)).mono ?_
  rintro e w18 ⟨rfl, hb⟩
  have BB := BB.trans (hb.mono BB.size)
  clear hb
  go_wp2_with fail
  refine (sIsa _ (hml.below BB)).mono ?_
  rintro e w19 ⟨rfl, hb⟩
  have BB := BB.trans (hb.mono BB.size)
  clear hb
  go_wp2_with (go_at_call 28; refine (token_any _ _ _ _).mono ?_; rintro e w' ⟨rfl, hb⟩; have BB := BB.trans (hb.mono BB.size); clear hb)
  refine (sCheck _ (hml.below BB)).mono ?_
  rintro e w20 ⟨rfl, hb⟩
  have BB := BB.trans (hb.mono BB.size)
  clear hb
  go_wp2_with fail
  go_ret
  exact ⟨rfl, BB⟩
end Go.Proofs.YtafofcenphopbaaGreatDoor
