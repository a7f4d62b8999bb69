/- LexSpots: the row, out of its walk. -/
import Derived.Test.YtafofcenphopbaaDoorW9
import Derived.Test.YtafofcenphopbaaDoorB9
import Derived.Test.YtafofcenphopbaaDoorR1
import Derived.Lib.SmallJoins
import Derived.Carry
namespace Go.Proofs.YtafofcenphopbaaDoor
open Go.RowKit Lx

set_option maxHeartbeats 4000000 in
set_option maxRecDepth 100000 in
theorem LexSpots_walk (s : ByteArray) (i ln col : Int) (w : World) (hml : ML w) : Calls Tryd.prog 11 #[.string s, .int .i64 i, .agg #[.int .i64 ln, .int .i64 col]] w fun e w' => e = .returned (.bool true) ∧ Below w.heap.size w w' := by
  have c1 := fun W => Where_any s i W
  have c2 := fun W => rWhere_any s i W
  have c3 := fun W => At_any s ln col W
  have c4 := fun W => rAt_any s ln col W
  generalize whereL s i = X at c1 c2
  generalize atL s ln col = Y at c3 c4
  obtain ⟨x1, x2, x3⟩ := X
  obtain ⟨y1, y2⟩ := Y
  simp only at c1 c2 c3 c4
  have C1 := Lib.hid c1
  have C2 := Lib.hid c2
  have C3 := Lib.hid c3
  have C4 := Lib.hid c4
  have heq : ∀ W, (binOp .eql 45 (.agg #[.int .i64 x1, .int .i64 x2]) (.agg #[.int .i64 x1, .int .i64 x2])).run Tryd.prog W = .ok (.bool true) W := by
    intro W; have := eqSpot x1 x2 x1 x2 W; simpa using this
  clear c1 c2 c3 c4
  cases hv : !([s].any wideS) with
  | false =>
    have hsh := fun B W hc => short_any [s] B 1 rfl _ hv W hc (by decide)
    have HSH := Lib.hid hsh
    clear hsh hv
    have b0 := below_box w (.cells #[.int .i64 ln, .int .i64 col] 45)
    have n0 := heap_alloc_new w (.cells #[.int .i64 ln, .int .i64 col] 45)
    have hm0 : ML (w.alloc (.cells #[.int .i64 ln, .int .i64 col] 45)) := hml.below b0
    go_enter Tryd.func11, Tryd.ntmps11
    go_wp2_with fail
    generalize w.alloc (.cells #[.int .i64 ln, .int .i64 col] 45) = w0 at b0 n0 hm0 ⊢
    refine (sane_any _ hm0).mono ?_
    rintro e w1 ⟨rfl, hb⟩
    have l0 := (Array.getElem?_eq_some_iff.1 n0).1
    have n1 := (hb.block _ l0).trans n0
    have bb := b0.trans (hb.mono b0.size)
    have hm1 := hm0.below hb
    clear b0 n0 hm0 hb l0
    generalize hB0 : w.heap.size = B0 at n1 bb ⊢
    have HB0 := Lib.hid hB0
    clear hB0
    have l1 := (Array.getElem?_eq_some_iff.1 n1).1
    have N1 := Lib.hid n1
    clear n1
    go_wp2_with fail
    have b2 := below_box w1 (.cells #[.string s] 9)
    have d0 := cell_box w1 #[.string s] 9 0
    have n2 := (b2.block _ l1).trans N1.out
    have hm2 := hm1.below b2
    have bb := bb.trans (b2.mono (Nat.le_of_lt l1))
    generalize w1.alloc (.cells #[.string s] 9) = w2 at b2 d0 n2 hm2 bb ⊢
    refine (HSH.out _ w2 (fun j h => by
      match j, h with
      | 0, _ => exact d0)).mono ?_
    rintro e w' ⟨rfl, hw⟩
    rw [hw]
    have l2 := (Array.getElem?_eq_some_iff.1 n2).1
    have N2 := Lib.hid n2
    clear hw b2 d0 n2 N1 l1 hm1 HSH
    go_wp2_with fail
    go_ret
    exact ⟨rfl, by rw [HB0.out]; exact bb⟩
  | true =>
    have hsh := fun B W hc => short_any [s] B 1 rfl _ hv W hc (by decide)
    have HSH := Lib.hid hsh
    clear hsh hv
    have b0 := below_box w (.cells #[.int .i64 ln, .int .i64 col] 45)
    have n0 := heap_alloc_new w (.cells #[.int .i64 ln, .int .i64 col] 45)
    have hm0 : ML (w.alloc (.cells #[.int .i64 ln, .int .i64 col] 45)) := hml.below b0
    go_enter Tryd.func11, Tryd.ntmps11
    go_wp2_with fail
    generalize w.alloc (.cells #[.int .i64 ln, .int .i64 col] 45) = w0 at b0 n0 hm0 ⊢
    refine (sane_any _ hm0).mono ?_
    rintro e w1 ⟨rfl, hb⟩
    have l0 := (Array.getElem?_eq_some_iff.1 n0).1
    have n1 := (hb.block _ l0).trans n0
    have bb := b0.trans (hb.mono b0.size)
    have hm1 := hm0.below hb
    clear b0 n0 hm0 hb l0
    generalize hB0 : w.heap.size = B0 at n1 bb ⊢
    have HB0 := Lib.hid hB0
    clear hB0
    have l1 := (Array.getElem?_eq_some_iff.1 n1).1
    have N1 := Lib.hid n1
    clear n1
    go_wp2_with fail
    have b2 := below_box w1 (.cells #[.string s] 9)
    have d0 := cell_box w1 #[.string s] 9 0
    have n2 := (b2.block _ l1).trans N1.out
    have hm2 := hm1.below b2
    have bb := bb.trans (b2.mono (Nat.le_of_lt l1))
    generalize w1.alloc (.cells #[.string s] 9) = w2 at b2 d0 n2 hm2 bb ⊢
    refine (HSH.out _ w2 (fun j h => by
      match j, h with
      | 0, _ => exact d0)).mono ?_
    rintro e w' ⟨rfl, hw⟩
    rw [hw]
    have l2 := (Array.getElem?_eq_some_iff.1 n2).1
    have N2 := Lib.hid n2
    clear hw b2 d0 n2 N1 l1 hm1 HSH
    go_wp2_with fail
    refine (C1.out _).mono ?_
    rintro e w3 ⟨rfl, hb⟩
    have n3 := (hb.block _ l2).trans N2.out
    have bb := bb.trans (hb.mono (Nat.le_of_lt l2))
    clear hb N2 hm2 l2
    have l3 := (Array.getElem?_eq_some_iff.1 n3).1
    go_upto_region 6 with fail
    have b4 := below_box w3 (.cells #[.int .i64 x1, .int .i64 x2] 45)
    have m4 := heap_alloc_new w3 (.cells #[.int .i64 x1, .int .i64 x2] 45)
    have n4 := (b4.block _ l3).trans n3
    have bb := bb.trans (b4.mono (Nat.le_of_lt l3))
    generalize w3.alloc (.cells #[.int .i64 x1, .int .i64 x2] 45) = w4 at b4 m4 n4 bb ⊢
    generalize w3.heap.size = B1 at m4 ⊢
    clear b4 n3 l3
    have l4 := (Array.getElem?_eq_some_iff.1 n4).1
    have k4 := (Array.getElem?_eq_some_iff.1 m4).1
    have N4 := Lib.hid n4
    have M4 := Lib.hid m4
    clear n4 m4
    go_wp2_with fail
    refine (C2.out _).mono ?_
    rintro e w5 ⟨rfl, hb⟩
    have n5 := (hb.block _ l4).trans N4.out
    have m5 := (hb.block _ k4).trans M4.out
    have bb := bb.trans (hb.mono (Nat.le_of_lt l4))
    clear hb N4 M4 l4 k4
    have l5 := (Array.getElem?_eq_some_iff.1 n5).1
    have k5 := (Array.getElem?_eq_some_iff.1 m5).1
    go_upto_region 7 with fail
    have b6 := below_box w5 (.cells #[.int .i64 x1, .int .i64 x2] 45)
    have o6 := heap_alloc_new w5 (.cells #[.int .i64 x1, .int .i64 x2] 45)
    have n6 := (b6.block _ l5).trans n5
    have m6 := (b6.block _ k5).trans m5
    have bb := bb.trans (b6.mono (Nat.le_of_lt l5))
    generalize w5.alloc (.cells #[.int .i64 x1, .int .i64 x2] 45) = w6 at b6 o6 m6 n6 bb ⊢
    generalize w5.heap.size = B2 at o6 ⊢
    clear b6 n5 m5 l5 k5
    have l6 := (Array.getElem?_eq_some_iff.1 n6).1
    have k6 := (Array.getElem?_eq_some_iff.1 m6).1
    have j6 := (Array.getElem?_eq_some_iff.1 o6).1
    have p0 : w6.cell? ⟨B0, 0, none⟩ = some (.int .i64 ln) := cell_of_row _ _ 0 _ _ _ n6
    have p1 : w6.cell? ⟨B0, 1, none⟩ = some (.int .i64 col) := cell_of_row _ _ 1 _ _ _ n6
    have N6 := Lib.hid n6
    have M6 := Lib.hid m6
    have O6 := Lib.hid o6
    clear n6 m6 o6
    go_wp2_with fail
    refine (C3.out _).mono ?_
    rintro e w7 ⟨rfl, hb⟩
    have n7 := (hb.block _ l6).trans N6.out
    have m7 := (hb.block _ k6).trans M6.out
    have o7 := (hb.block _ j6).trans O6.out
    have bb := bb.trans (hb.mono (Nat.le_of_lt l6))
    clear hb N6 M6 O6 l6 k6 j6 p0 p1
    have l7 := (Array.getElem?_eq_some_iff.1 n7).1
    have k7 := (Array.getElem?_eq_some_iff.1 m7).1
    have j7 := (Array.getElem?_eq_some_iff.1 o7).1
    have p0 : w7.cell? ⟨B0, 0, none⟩ = some (.int .i64 ln) := cell_of_row _ _ 0 _ _ _ n7
    have p1 : w7.cell? ⟨B0, 1, none⟩ = some (.int .i64 col) := cell_of_row _ _ 1 _ _ _ n7
    have M7 := Lib.hid m7
    have O7 := Lib.hid o7
    clear n7 m7 o7
    go_wp2_with fail
    refine (C4.out _).mono ?_
    rintro e w8 ⟨rfl, hb⟩
    have m8 := (hb.block _ k7).trans M7.out
    have o8 := (hb.block _ j7).trans O7.out
    have bb := bb.trans (hb.mono (Nat.le_of_lt l7))
    clear hb M7 O7 l7 k7 j7 p0 p1
    have q0 : w8.cell? ⟨B1, 0, none⟩ = some (.int .i64 x1) := cell_of_row _ _ 0 _ _ _ m8
    have q1 : w8.cell? ⟨B1, 1, none⟩ = some (.int .i64 x2) := cell_of_row _ _ 1 _ _ _ m8
    have r0 : w8.cell? ⟨B2, 0, none⟩ = some (.int .i64 x1) := cell_of_row _ _ 0 _ _ _ o8
    have r1 : w8.cell? ⟨B2, 1, none⟩ = some (.int .i64 x2) := cell_of_row _ _ 1 _ _ _ o8
    clear m8 o8
    go_wp2_with fail
    go_ret
    exact ⟨by simp, by rw [HB0.out]; exact bb⟩
end Go.Proofs.YtafofcenphopbaaDoor
namespace Go.Proofs.YtafofcenphopbaaDoor
open Go.ChangeShapes Go.WideShapes Go.ChangeAt Go.RowKit
open Go.ChangeMaps (open_string shut_string)
section
variable {H : Type} {enc : TypeId × Value → H}
theorem laidO : laidOutB Tryd.prog = true := by kernel_rfl
set_option maxRecDepth 100000 in
theorem open_spot {r : Reach} {b0 base : Nat} {spare : Nat → Bool} {held : Bool} {w : World} {v : Value} {d : DataW H} {ps : List MemPlace} (hval : Value.okWide Tryd.prog w r b0 45 v) (hd : DataW.Trod enc Tryd.prog w base spare held 45 v d ps) :
    ∃ (l c : Int), v = .agg #[.int .i64 l, .int .i64 c] := by
  obtain ⟨v0, v1, y0, y1, n, rfl, _, _, t0, t1⟩ := Go.Joins.open_agg2 Tryd.underlying45 (by kernel_rfl) (by kernel_rfl) hval hd
  obtain ⟨a0, e0, _⟩ := DataW.trod_int Tryd.underlying3 t0
  obtain ⟨a1, e1, _⟩ := DataW.trod_int Tryd.underlying3 t1
  cases e0; cases e1
  exact ⟨_, _, rfl⟩
end
set_option maxRecDepth 100000 in
theorem LexSpots_lifted (os : Os) (started : os.Started) (H : Type) (enc : TypeId × Value → H) :
    ReturnsInHanded {} Tryd.checked os 11 .any (fun w args => (Rows.lexSpotsSpec.pre enc Tryd.prog Tryd.f11 [] false w args ∧ laidMetH Tryd.prog laid2 w) ∧ sizedMet enc Tryd.prog Tryd.f11 (OpenSpec.ofChange Rows.lexSpotsSpec) false w args)
      (Rows.lexSpotsSpec.post enc Tryd.prog Tryd.f11 false true false false) := by
  refine handed_of (C := Tryd.checked) (X := fun w _ => laidMetH Tryd.prog laid2 w) ownN started (by kernel_rfl) Tryd.func11
    (ChangeSpec.witness_shaped (enc := enc) (C := Tryd.checked) (os := os) (X := fun w _ => laidMetH Tryd.prog laid2 w) false (World.laidAll Tryd.prog os laid2) #[.string ⟨#[]⟩, .int .i64 0, .agg #[.int .i64 0, .int .i64 0]] 8 (World.laidAll_os _ _ _)
      (shaped2 os) (by kernel_rfl) (by kernel_rfl) (by kernel_rfl)
      (by rw [MakeChecks.laidMetH_plain _ _ _ (by kernel_rfl)]; exact laidMet_laidAll _ (by kernel_rfl) (by kernel_rfl))) ?_
  intro W base args ds gs before hval0 hW _ hsh
  have hval : ∀ (j : Nat) t v, Tryd.f11.params[j]? = some t → args[j]? = some v → Value.okWide Tryd.prog W .any base t v := hval0
  have hW' := hW
  obtain ⟨p, q, hA0, hV, rfl, _, _⟩ := hW
  have hA : DataW.TrodAll enc Tryd.prog W 0 (fun _ => true) true Tryd.f11.params.toList args.toList ds p := hA0
  rw [Tryd.params11] at hA hval
  obtain ⟨v0, v1, v2, d0, d1, d2, p0, p1, p2, rfl, rfl, rfl, h0, h1, h2⟩ := trodAll_three hA
  obtain ⟨rfl, rfl⟩ := trodVars_none hV
  obtain ⟨s, rfl, rfl, rfl, ws⟩ := open_string Tryd.underlying9 (hval 0 9 v0 rfl rfl) h0
  obtain ⟨i, rfl, rfl, rfl, wi⟩ := open_int Tryd.underlying3 (hval 1 3 v1 rfl rfl) h1
  obtain ⟨l, c, rfl⟩ := open_spot (hval 2 _ v2 rfl rfl) h2
  refine (LexSpots_walk s i l c W (ml_of hsh)).mono fun e W' ⟨he, hb⟩ => ?_
  subst he
  have hlt : ∀ x ∈ (([] ++ []) ++ p2) ++ [], x.block < W.heap.size := fun x hx => hW'.lt x hx
  exact ⟨_, rfl, law_post hW' rfl rfl rfl (fun sp hsp => by
    rw [Tryd.params11]
    rw [List.append_nil] at hsp hlt ⊢
    exact trodAll_mk3 (shut_string Tryd.underlying9 ws) (shut_int Tryd.underlying3 wi) (WideElems.Trod_stays laidO (by kernel_rfl) (of_decide_eq_true (by kernel_rfl)) h2 (fun x hx => hb.same (hlt x (by simpa using hx))) (fun x hx => hsp x (by simpa using hx)))) hb⟩
theorem LexSpots_of : Rows.LexSpotsSaid :=
  OpenClaim.holds_of_wide 11 Tryd.f11 rfl rfl rfl rfl rfl rfl rfl ⟨rfl, rfl, rfl, rfl, rfl⟩ rfl rfl rfl rfl rfl (by kernel_rfl) Tryd.func11 (by kernel_rfl)
    (of_decide_eq_true (by kernel_rfl)) (by unfold Func.isWrapper; first | (rw [if_pos (by decide +kernel)]; kernel_rfl) | (rw [if_neg (by decide +kernel)]; exact ⟨rfl, rfl⟩))
    (fun os started H enc _ => LexSpots_lifted os started H enc)
theorem LexSpots_card : Rows.LexSpotsCardSaid :=
  Claim7.holds_tied_plain_at .later [] [.data, .pinned] true (true, "f40295a80fe7fbb65fab62bd1a51a68503d2ab629acf0fbbcf25ec75d55f1d18") false LexSpots_of (fun _ h => by cases h) (by kernel_rfl) (fun _ h => by cases h) lexSpots_row_tie rfl ⟨rfl, rfl⟩ (by kernel_rfl) rfl
    (fun f fn hf hfn => by
      obtain rfl : f = 11 := Option.some.inj ((show Tryd.prog.funcNamed "pliant/pliantlaw05.LexSpots" = some 11 by kernel_rfl).symm.trans hf) |>.symm
      obtain rfl : fn = Tryd.f11 := (Option.some.inj (Tryd.func11.symm.trans hfn)).symm
      exact ⟨by kernel_rfl, fun j t ht => by
        rw [Tryd.params11] at ht
        have hm : t ∈ [9, 3, 45] := by simpa using Array.mem_of_getElem? ht
        have hall : ([9, 3, 45].all fun u => !Tryd.prog.wantsStandIn u) = true := by kernel_rfl
        exact (show Tryd.prog.wantsStandIn t = false by simpa using List.all_eq_true.1 hall t hm)⟩)
    (by kernel_rfl)
theorem LexSpots_holds : Rows.LexSpotsCardSaid := LexSpots_card
end Go.Proofs.YtafofcenphopbaaDoor
