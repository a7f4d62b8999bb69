/- Literal: of numbers. -/
import Derived.Test.YtafofcenphopbaaGreatDoorA25
import Derived.IntWalk
namespace Go.Proofs.YtafofcenphopbaaGreatDoor
open Go.RowKit Lx

theorem dec_text (t : ByteArray) (D Q : Nat) (_ht : t.size = D + Q) : (t.extract 0 D ++ ⟨#[46]⟩ ++ t.extract D t.size) = ⟨(t.data.toList.take D ++ 46 :: t.data.toList.drop D).toArray⟩ := by
  apply ba_ext
  rw [show (t.extract 0 D ++ ⟨#[46]⟩ ++ t.extract D t.size).data.toList = (t.extract 0 D).data.toList ++ [46] ++ (t.extract D t.size).data.toList from by simp [ByteArray.data_append], extract_pre, extract_end]
  simp
set_option maxHeartbeats 1000000 in
set_option maxRecDepth 100000 in
theorem Literal_2p0 (P m : Nat) (vary : Bool) (pic s t : ByteArray) (ht : litT 2 (P : Int) 0 vary pic = true) (hv : litV 2 (P : Int) (m : Int) s = true) (hdt : t = ⟨(digL 2 m (P) []).toArray⟩) (hm : m ≤ 4294967296) (h1 : 1 ≤ P) (h9 : P ≤ 31) (w : World) : Calls Tryz.prog 16 #[.agg #[.int .i64 2, .int .i64 (P : Int), .int .i64 0, .bool vary, .string pic], .agg #[.int .i64 (m : Int), .string s]] w (LitQ [(3, t)] 0 w) := by
  have hsz : t.size = P := by rw [hdt]; exact digL_size _ _ _
  have hp : 1 ≤ (P : Int) ∧ (P : Int) ≤ 31 := by omega
  have hTT : ∀ W, Calls Tryz.prog 51 #[.agg #[.int .i64 2, .int .i64 (P : Int), .int .i64 0, .bool vary, .string pic]] W fun e w' => e = .returned (.bool true) ∧ Below W.heap.size W w' := fun W => by
    have := literalType_any 2 (P : Int) 0 vary pic W
    rwa [ht] at this
  have HT := Lib.hid hTT
  clear hTT ht
  have hVV : ∀ W, Calls Tryz.prog 52 #[.agg #[.int .i64 2, .int .i64 (P : Int), .int .i64 0, .bool vary, .string pic], .agg #[.int .i64 (m : Int), .string s]] W fun e w' => e = .returned (.bool true) ∧ Below W.heap.size W w' := fun W => by
    have := literalValue_2 (P : Int) 0 (m : Int) vary pic s hp W
    rwa [hv] at this
  have HV := Lib.hid hVV
  clear hVV hv
  have hDD : ∀ W, Calls Tryz.prog 53 #[.int .i64 m, .int .i64 (P : Int), .int .i64 2] W fun e w' => e = .returned (.string t) ∧ Below W.heap.size W w' := fun W => by
    have := digits_2 m (P) (by omega) (by omega) W
    rw [← hdt] at this
    simpa using this
  have HD := Lib.hid hDD
  clear hDD
  have HSZ := Lib.hid hsz
  have HDT := Lib.hid hdt
  obtain ⟨i0, hi0, hz0, hz1, hz2⟩ := info_parts infoT
  clear hsz hdt hp
  have hneg : ¬ (m : Int) < 0 := by omega
  go_enter Tryz.func16, Tryz.ntmps16
  go_upto_region 1 with fail
  have b2 := below_box2 w (.cells #[.int .i64 2, .int .i64 (P : Int), .int .i64 0, .bool vary, .string pic] 34) (.cells #[.int .i64 (m : Int), .string s] 36)
  have L2 := lb_box w 2 (P : Int) 0 vary pic (m : Int) s
  generalize (w.alloc (.cells #[.int .i64 2, .int .i64 (P : Int), .int .i64 0, .bool vary, .string pic] 34)).alloc (.cells #[.int .i64 (m : Int), .string s] 36) = w2 at b2 L2 ⊢
  obtain ⟨c0, c1, c2, c3, c4, d0, d1⟩ := L2.cells
  go_wp2_with fail
  refine (HT.out _).mono ?_
  rintro e w3 ⟨rfl, hb3⟩
  have b3 := b2.trans (hb3.mono b2.size)
  have L3 := L2.below hb3 (Nat.le_refl _)
  clear c0 c1 c2 c3 c4 d0 d1 hb3 b2 L2
  obtain ⟨c0, c1, c2, c3, c4, d0, d1⟩ := L3.cells
  go_wp2_with fail
  refine (HV.out _).mono ?_
  rintro e w4 ⟨rfl, hb4⟩
  have b4 := b3.trans (hb4.mono b3.size)
  have L4 := L3.below hb4 (Nat.le_refl _)
  clear c0 c1 c2 c3 c4 d0 d1 hb4 b3 L3
  obtain ⟨c0, c1, c2, c3, c4, d0, d1⟩ := L4.cells
  have b5 := b4
  have L5 := L4
  go_wp2_with fail
  refine (HD.out _).mono ?_
  rintro e w6 ⟨rfl, hb6⟩
  have b6 := b5.trans (hb6.mono b5.size)
  have L6 := L5.below hb6 (Nat.le_refl _)
  have own6 : w6.ownsRow w.heap.size 24 3 (.slice none 0 0) 0 (rcells []) := World.ownsRow_nil _ _ _ _
  clear c0 c1 c2 c3 c4 d0 d1 hb6 b5 L5
  obtain ⟨c0, c1, c2, c3, c4, d0, d1⟩ := L6.cells
  have hnw6 := heap_alloc_new w6 (.cells #[.int .i64 3, .string t, .int .i64 0] 24)
  have honew6 : ∀ u ∈ [Value.int .i64 3, Value.string t, Value.int .i64 0], u.oneCell' = true := by
    intro u hu; simp at hu; rcases hu with rfl | rfl | rfl <;> rfl
  have hp3w6 : 0 < 3 := by decide
  go_wp2_with (at_builtin; refine wpList_append_own _ rfl _ _ 22 rfl w.heap.size 24 i0 (.agg #[.int .i64 0, .string ⟨#[]⟩, .int .i64 0]) 3 32 undTs hi0 hz0 hz1 hz2 rfl hp3w6 _ _ _ rfl (own6.alloc _) ⟨w6.heap.size, 0, none⟩ 1 1 [.int .i64 3, .string t, .int .i64 0] rfl rfl ?dd1w6 ?dd2w6 ?dd3w6 ?dd4w6 ?dd5w6 ?_)
  case dd1w6 => exact World.news_of_block hnw6
  case dd2w6 => exact honew6
  case dd3w6 => decide
  case dd4w6 => decide
  case dd5w6 => have := b6.size; simp; omega
  intro v7 w7 own7 hgrow _
  have b7 := (b6.alloc b6.size (.cells #[.int .i64 3, .string t, .int .i64 0] 24)).grown hgrow (by have := b6.size; simp; omega) (fun k hk => (own6.lt k hk).1)
  clear hnw6 honew6 hp3w6
  go_wp2_with fail
  go_ret2
  exact litQ_mk (TokRow.of_own own7) b7
set_option maxHeartbeats 1000000 in
set_option maxRecDepth 100000 in
theorem Literal_2n0 (P m : Nat) (vary : Bool) (pic s t : ByteArray) (ht : litT 2 (P : Int) 0 vary pic = true) (hv : litV 2 (P : Int) (-(m : Int)) s = true) (hdt : t = ⟨(digL 2 m (P) []).toArray⟩) (hm : m ≤ 4294967296) (h1 : 1 ≤ P) (h9 : P ≤ 31) (hm1 : 1 ≤ m) (w : World) : Calls Tryz.prog 16 #[.agg #[.int .i64 2, .int .i64 (P : Int), .int .i64 0, .bool vary, .string pic], .agg #[.int .i64 (-(m : Int)), .string s]] w (LitQ [(6, ⟨#[45]⟩), (3, t)] 0 w) := by
  have hsz : t.size = P := by rw [hdt]; exact digL_size _ _ _
  have hp : 1 ≤ (P : Int) ∧ (P : Int) ≤ 31 := by omega
  have hTT : ∀ W, Calls Tryz.prog 51 #[.agg #[.int .i64 2, .int .i64 (P : Int), .int .i64 0, .bool vary, .string pic]] W fun e w' => e = .returned (.bool true) ∧ Below W.heap.size W w' := fun W => by
    have := literalType_any 2 (P : Int) 0 vary pic W
    rwa [ht] at this
  have HT := Lib.hid hTT
  clear hTT ht
  have hVV : ∀ W, Calls Tryz.prog 52 #[.agg #[.int .i64 2, .int .i64 (P : Int), .int .i64 0, .bool vary, .string pic], .agg #[.int .i64 (-(m : Int)), .string s]] W fun e w' => e = .returned (.bool true) ∧ Below W.heap.size W w' := fun W => by
    have := literalValue_2 (P : Int) 0 (-(m : Int)) vary pic s hp W
    rwa [hv] at this
  have HV := Lib.hid hVV
  clear hVV hv
  have hDD : ∀ W, Calls Tryz.prog 53 #[.int .i64 m, .int .i64 (P : Int), .int .i64 2] W fun e w' => e = .returned (.string t) ∧ Below W.heap.size W w' := fun W => by
    have := digits_2 m (P) (by omega) (by omega) W
    rw [← hdt] at this
    simpa using this
  have HD := Lib.hid hDD
  clear hDD
  have HSZ := Lib.hid hsz
  have HDT := Lib.hid hdt
  obtain ⟨i0, hi0, hz0, hz1, hz2⟩ := info_parts infoT
  clear hsz hdt hp
  have hneg : (-(m : Int)) < 0 := by omega
  go_enter Tryz.func16, Tryz.ntmps16
  go_upto_region 1 with fail
  have b2 := below_box2 w (.cells #[.int .i64 2, .int .i64 (P : Int), .int .i64 0, .bool vary, .string pic] 34) (.cells #[.int .i64 (-(m : Int)), .string s] 36)
  have L2 := lb_box w 2 (P : Int) 0 vary pic (-(m : Int)) s
  generalize (w.alloc (.cells #[.int .i64 2, .int .i64 (P : Int), .int .i64 0, .bool vary, .string pic] 34)).alloc (.cells #[.int .i64 (-(m : Int)), .string s] 36) = w2 at b2 L2 ⊢
  obtain ⟨c0, c1, c2, c3, c4, d0, d1⟩ := L2.cells
  go_wp2_with fail
  refine (HT.out _).mono ?_
  rintro e w3 ⟨rfl, hb3⟩
  have b3 := b2.trans (hb3.mono b2.size)
  have L3 := L2.below hb3 (Nat.le_refl _)
  clear c0 c1 c2 c3 c4 d0 d1 hb3 b2 L2
  obtain ⟨c0, c1, c2, c3, c4, d0, d1⟩ := L3.cells
  go_wp2_with fail
  refine (HV.out _).mono ?_
  rintro e w4 ⟨rfl, hb4⟩
  have b4 := b3.trans (hb4.mono b3.size)
  have L4 := L3.below hb4 (Nat.le_refl _)
  clear c0 c1 c2 c3 c4 d0 d1 hb4 b3 L3
  obtain ⟨c0, c1, c2, c3, c4, d0, d1⟩ := L4.cells
  have own4 : w4.ownsRow w.heap.size 24 3 (.slice none 0 0) 0 (rcells []) := World.ownsRow_nil _ _ _ _
  have hnw4 := heap_alloc_new w4 (.cells #[.int .i64 6, .string ⟨#[45]⟩, .int .i64 0] 24)
  have honew4 : ∀ u ∈ [Value.int .i64 6, Value.string ⟨#[45]⟩, Value.int .i64 0], u.oneCell' = true := by
    intro u hu; simp at hu; rcases hu with rfl | rfl | rfl <;> rfl
  have hp3w4 : 0 < 3 := by decide
  go_wp2_with (at_builtin; refine wpList_append_own _ rfl _ _ 22 rfl w.heap.size 24 i0 (.agg #[.int .i64 0, .string ⟨#[]⟩, .int .i64 0]) 3 32 undTs hi0 hz0 hz1 hz2 rfl hp3w4 _ _ _ rfl (own4.alloc _) ⟨w4.heap.size, 0, none⟩ 1 1 [.int .i64 6, .string ⟨#[45]⟩, .int .i64 0] rfl rfl ?dd1w4 ?dd2w4 ?dd3w4 ?dd4w4 ?dd5w4 ?_)
  case dd1w4 => exact World.news_of_block hnw4
  case dd2w4 => exact honew4
  case dd3w4 => decide
  case dd4w4 => decide
  case dd5w4 => have := b4.size; simp; omega
  intro v5 w5 own5 hgrow _
  have b5 := (b4.alloc b4.size (.cells #[.int .i64 6, .string ⟨#[45]⟩, .int .i64 0] 24)).grown hgrow (by have := b4.size; simp; omega) (fun k hk => (own4.lt k hk).1)
  clear hnw4 honew4 hp3w4
  have hbl5 : Below w4.heap.size w4 w5 := ((Below.refl w4.heap.size w4).alloc (Nat.le_refl _) _).grown hgrow (by simp) (fun k hk => by cases hk)
  have L5 := L4.below hbl5 (Nat.le_refl _)
  clear c0 c1 c2 c3 c4 d0 d1 hgrow hbl5 L4 own4
  obtain ⟨c0, c1, c2, c3, c4, d0, d1⟩ := L5.cells
  go_wp2_with fail
  refine (HD.out _).mono ?_
  rintro e w6 ⟨rfl, hb6⟩
  have b6 := b5.trans (hb6.mono b5.size)
  have L6 := L5.below hb6 (Nat.le_refl _)
  have own6 := own_below own5 hb6
  clear c0 c1 c2 c3 c4 d0 d1 hb6 b5 L5
  obtain ⟨c0, c1, c2, c3, c4, d0, d1⟩ := L6.cells
  have hnw6 := heap_alloc_new w6 (.cells #[.int .i64 3, .string t, .int .i64 0] 24)
  have honew6 : ∀ u ∈ [Value.int .i64 3, Value.string t, Value.int .i64 0], u.oneCell' = true := by
    intro u hu; simp at hu; rcases hu with rfl | rfl | rfl <;> rfl
  have hp3w6 : 0 < 3 := by decide
  go_wp2_with (at_builtin; refine wpList_append_own _ rfl _ _ 22 rfl w.heap.size 24 i0 (.agg #[.int .i64 0, .string ⟨#[]⟩, .int .i64 0]) 3 32 undTs hi0 hz0 hz1 hz2 rfl hp3w6 _ _ _ rfl (own6.alloc _) ⟨w6.heap.size, 0, none⟩ 1 1 [.int .i64 3, .string t, .int .i64 0] rfl rfl ?dd1w6 ?dd2w6 ?dd3w6 ?dd4w6 ?dd5w6 ?_)
  case dd1w6 => exact World.news_of_block hnw6
  case dd2w6 => exact honew6
  case dd3w6 => decide
  case dd4w6 => decide
  case dd5w6 => have := b6.size; simp; omega
  intro v7 w7 own7 hgrow _
  have b7 := (b6.alloc b6.size (.cells #[.int .i64 3, .string t, .int .i64 0] 24)).grown hgrow (by have := b6.size; simp; omega) (fun k hk => (own6.lt k hk).1)
  clear hnw6 honew6 hp3w6
  go_wp2_with fail
  go_ret2
  exact litQ_mk (TokRow.of_own own7) b7
set_option maxHeartbeats 1000000 in
set_option maxRecDepth 100000 in
theorem Literal_10p0 (P m : Nat) (vary : Bool) (pic s t : ByteArray) (ht : litT 1 (P : Int) 0 vary pic = true) (hv : litV 1 (P : Int) (m : Int) s = true) (hdt : t = ⟨(digL 10 m (P) []).toArray⟩) (hm : m ≤ 4294967296) (h1 : 1 ≤ P) (h9 : P ≤ 9) (w : World) : Calls Tryz.prog 16 #[.agg #[.int .i64 1, .int .i64 (P : Int), .int .i64 0, .bool vary, .string pic], .agg #[.int .i64 (m : Int), .string s]] w (LitQ [(2, t)] 0 w) := by
  have hsz : t.size = P := by rw [hdt]; exact digL_size _ _ _
  have hp : 1 ≤ (P : Int) ∧ (P : Int) ≤ 9 := by omega
  have hTT : ∀ W, Calls Tryz.prog 51 #[.agg #[.int .i64 1, .int .i64 (P : Int), .int .i64 0, .bool vary, .string pic]] W fun e w' => e = .returned (.bool true) ∧ Below W.heap.size W w' := fun W => by
    have := literalType_any 1 (P : Int) 0 vary pic W
    rwa [ht] at this
  have HT := Lib.hid hTT
  clear hTT ht
  have hVV : ∀ W, Calls Tryz.prog 52 #[.agg #[.int .i64 1, .int .i64 (P : Int), .int .i64 0, .bool vary, .string pic], .agg #[.int .i64 (m : Int), .string s]] W fun e w' => e = .returned (.bool true) ∧ Below W.heap.size W w' := fun W => by
    have := literalValue_1 (P : Int) 0 (m : Int) vary pic s hp W
    rwa [hv] at this
  have HV := Lib.hid hVV
  clear hVV hv
  have hDD : ∀ W, Calls Tryz.prog 53 #[.int .i64 m, .int .i64 (P : Int), .int .i64 10] W fun e w' => e = .returned (.string t) ∧ Below W.heap.size W w' := fun W => by
    have := digits_10 m (P) (by omega) (by omega) W
    rw [← hdt] at this
    simpa using this
  have HD := Lib.hid hDD
  clear hDD
  have HSZ := Lib.hid hsz
  have HDT := Lib.hid hdt
  obtain ⟨i0, hi0, hz0, hz1, hz2⟩ := info_parts infoT
  clear hsz hdt hp
  have hneg : ¬ (m : Int) < 0 := by omega
  go_enter Tryz.func16, Tryz.ntmps16
  go_upto_region 1 with fail
  have b2 := below_box2 w (.cells #[.int .i64 1, .int .i64 (P : Int), .int .i64 0, .bool vary, .string pic] 34) (.cells #[.int .i64 (m : Int), .string s] 36)
  have L2 := lb_box w 1 (P : Int) 0 vary pic (m : Int) s
  generalize (w.alloc (.cells #[.int .i64 1, .int .i64 (P : Int), .int .i64 0, .bool vary, .string pic] 34)).alloc (.cells #[.int .i64 (m : Int), .string s] 36) = w2 at b2 L2 ⊢
  obtain ⟨c0, c1, c2, c3, c4, d0, d1⟩ := L2.cells
  go_wp2_with fail
  refine (HT.out _).mono ?_
  rintro e w3 ⟨rfl, hb3⟩
  have b3 := b2.trans (hb3.mono b2.size)
  have L3 := L2.below hb3 (Nat.le_refl _)
  clear c0 c1 c2 c3 c4 d0 d1 hb3 b2 L2
  obtain ⟨c0, c1, c2, c3, c4, d0, d1⟩ := L3.cells
  go_wp2_with fail
  refine (HV.out _).mono ?_
  rintro e w4 ⟨rfl, hb4⟩
  have b4 := b3.trans (hb4.mono b3.size)
  have L4 := L3.below hb4 (Nat.le_refl _)
  clear c0 c1 c2 c3 c4 d0 d1 hb4 b3 L3
  obtain ⟨c0, c1, c2, c3, c4, d0, d1⟩ := L4.cells
  have b5 := b4
  have L5 := L4
  go_wp2_with fail
  refine (HD.out _).mono ?_
  rintro e w6 ⟨rfl, hb6⟩
  have b6 := b5.trans (hb6.mono b5.size)
  have L6 := L5.below hb6 (Nat.le_refl _)
  have own6 : w6.ownsRow w.heap.size 24 3 (.slice none 0 0) 0 (rcells []) := World.ownsRow_nil _ _ _ _
  clear c0 c1 c2 c3 c4 d0 d1 hb6 b5 L5
  obtain ⟨c0, c1, c2, c3, c4, d0, d1⟩ := L6.cells
  have hnw6 := heap_alloc_new w6 (.cells #[.int .i64 2, .string t, .int .i64 0] 24)
  have honew6 : ∀ u ∈ [Value.int .i64 2, Value.string t, Value.int .i64 0], u.oneCell' = true := by
    intro u hu; simp at hu; rcases hu with rfl | rfl | rfl <;> rfl
  have hp3w6 : 0 < 3 := by decide
  go_wp2_with (at_builtin; refine wpList_append_own _ rfl _ _ 22 rfl w.heap.size 24 i0 (.agg #[.int .i64 0, .string ⟨#[]⟩, .int .i64 0]) 3 32 undTs hi0 hz0 hz1 hz2 rfl hp3w6 _ _ _ rfl (own6.alloc _) ⟨w6.heap.size, 0, none⟩ 1 1 [.int .i64 2, .string t, .int .i64 0] rfl rfl ?dd1w6 ?dd2w6 ?dd3w6 ?dd4w6 ?dd5w6 ?_)
  case dd1w6 => exact World.news_of_block hnw6
  case dd2w6 => exact honew6
  case dd3w6 => decide
  case dd4w6 => decide
  case dd5w6 => have := b6.size; simp; omega
  intro v7 w7 own7 hgrow _
  have b7 := (b6.alloc b6.size (.cells #[.int .i64 2, .string t, .int .i64 0] 24)).grown hgrow (by have := b6.size; simp; omega) (fun k hk => (own6.lt k hk).1)
  clear hnw6 honew6 hp3w6
  go_wp2_with fail
  go_ret2
  exact litQ_mk (TokRow.of_own own7) b7
set_option maxHeartbeats 1000000 in
set_option maxRecDepth 100000 in
theorem Literal_10n0 (P m : Nat) (vary : Bool) (pic s t : ByteArray) (ht : litT 1 (P : Int) 0 vary pic = true) (hv : litV 1 (P : Int) (-(m : Int)) s = true) (hdt : t = ⟨(digL 10 m (P) []).toArray⟩) (hm : m ≤ 4294967296) (h1 : 1 ≤ P) (h9 : P ≤ 9) (hm1 : 1 ≤ m) (w : World) : Calls Tryz.prog 16 #[.agg #[.int .i64 1, .int .i64 (P : Int), .int .i64 0, .bool vary, .string pic], .agg #[.int .i64 (-(m : Int)), .string s]] w (LitQ [(6, ⟨#[45]⟩), (2, t)] 0 w) := by
  have hsz : t.size = P := by rw [hdt]; exact digL_size _ _ _
  have hp : 1 ≤ (P : Int) ∧ (P : Int) ≤ 9 := by omega
  have hTT : ∀ W, Calls Tryz.prog 51 #[.agg #[.int .i64 1, .int .i64 (P : Int), .int .i64 0, .bool vary, .string pic]] W fun e w' => e = .returned (.bool true) ∧ Below W.heap.size W w' := fun W => by
    have := literalType_any 1 (P : Int) 0 vary pic W
    rwa [ht] at this
  have HT := Lib.hid hTT
  clear hTT ht
  have hVV : ∀ W, Calls Tryz.prog 52 #[.agg #[.int .i64 1, .int .i64 (P : Int), .int .i64 0, .bool vary, .string pic], .agg #[.int .i64 (-(m : Int)), .string s]] W fun e w' => e = .returned (.bool true) ∧ Below W.heap.size W w' := fun W => by
    have := literalValue_1 (P : Int) 0 (-(m : Int)) vary pic s hp W
    rwa [hv] at this
  have HV := Lib.hid hVV
  clear hVV hv
  have hDD : ∀ W, Calls Tryz.prog 53 #[.int .i64 m, .int .i64 (P : Int), .int .i64 10] W fun e w' => e = .returned (.string t) ∧ Below W.heap.size W w' := fun W => by
    have := digits_10 m (P) (by omega) (by omega) W
    rw [← hdt] at this
    simpa using this
  have HD := Lib.hid hDD
  clear hDD
  have HSZ := Lib.hid hsz
  have HDT := Lib.hid hdt
  obtain ⟨i0, hi0, hz0, hz1, hz2⟩ := info_parts infoT
  clear hsz hdt hp
  have hneg : (-(m : Int)) < 0 := by omega
  go_enter Tryz.func16, Tryz.ntmps16
  go_upto_region 1 with fail
  have b2 := below_box2 w (.cells #[.int .i64 1, .int .i64 (P : Int), .int .i64 0, .bool vary, .string pic] 34) (.cells #[.int .i64 (-(m : Int)), .string s] 36)
  have L2 := lb_box w 1 (P : Int) 0 vary pic (-(m : Int)) s
  generalize (w.alloc (.cells #[.int .i64 1, .int .i64 (P : Int), .int .i64 0, .bool vary, .string pic] 34)).alloc (.cells #[.int .i64 (-(m : Int)), .string s] 36) = w2 at b2 L2 ⊢
  obtain ⟨c0, c1, c2, c3, c4, d0, d1⟩ := L2.cells
  go_wp2_with fail
  refine (HT.out _).mono ?_
  rintro e w3 ⟨rfl, hb3⟩
  have b3 := b2.trans (hb3.mono b2.size)
  have L3 := L2.below hb3 (Nat.le_refl _)
  clear c0 c1 c2 c3 c4 d0 d1 hb3 b2 L2
  obtain ⟨c0, c1, c2, c3, c4, d0, d1⟩ := L3.cells
  go_wp2_with fail
  refine (HV.out _).mono ?_
  rintro e w4 ⟨rfl, hb4⟩
  have b4 := b3.trans (hb4.mono b3.size)
  have L4 := L3.below hb4 (Nat.le_refl _)
  clear c0 c1 c2 c3 c4 d0 d1 hb4 b3 L3
  obtain ⟨c0, c1, c2, c3, c4, d0, d1⟩ := L4.cells
  have own4 : w4.ownsRow w.heap.size 24 3 (.slice none 0 0) 0 (rcells []) := World.ownsRow_nil _ _ _ _
  have hnw4 := heap_alloc_new w4 (.cells #[.int .i64 6, .string ⟨#[45]⟩, .int .i64 0] 24)
  have honew4 : ∀ u ∈ [Value.int .i64 6, Value.string ⟨#[45]⟩, Value.int .i64 0], u.oneCell' = true := by
    intro u hu; simp at hu; rcases hu with rfl | rfl | rfl <;> rfl
  have hp3w4 : 0 < 3 := by decide
  go_wp2_with (at_builtin; refine wpList_append_own _ rfl _ _ 22 rfl w.heap.size 24 i0 (.agg #[.int .i64 0, .string ⟨#[]⟩, .int .i64 0]) 3 32 undTs hi0 hz0 hz1 hz2 rfl hp3w4 _ _ _ rfl (own4.alloc _) ⟨w4.heap.size, 0, none⟩ 1 1 [.int .i64 6, .string ⟨#[45]⟩, .int .i64 0] rfl rfl ?dd1w4 ?dd2w4 ?dd3w4 ?dd4w4 ?dd5w4 ?_)
  case dd1w4 => exact World.news_of_block hnw4
  case dd2w4 => exact honew4
  case dd3w4 => decide
  case dd4w4 => decide
  case dd5w4 => have := b4.size; simp; omega
  intro v5 w5 own5 hgrow _
  have b5 := (b4.alloc b4.size (.cells #[.int .i64 6, .string ⟨#[45]⟩, .int .i64 0] 24)).grown hgrow (by have := b4.size; simp; omega) (fun k hk => (own4.lt k hk).1)
  clear hnw4 honew4 hp3w4
  have hbl5 : Below w4.heap.size w4 w5 := ((Below.refl w4.heap.size w4).alloc (Nat.le_refl _) _).grown hgrow (by simp) (fun k hk => by cases hk)
  have L5 := L4.below hbl5 (Nat.le_refl _)
  clear c0 c1 c2 c3 c4 d0 d1 hgrow hbl5 L4 own4
  obtain ⟨c0, c1, c2, c3, c4, d0, d1⟩ := L5.cells
  go_wp2_with fail
  refine (HD.out _).mono ?_
  rintro e w6 ⟨rfl, hb6⟩
  have b6 := b5.trans (hb6.mono b5.size)
  have L6 := L5.below hb6 (Nat.le_refl _)
  have own6 := own_below own5 hb6
  clear c0 c1 c2 c3 c4 d0 d1 hb6 b5 L5
  obtain ⟨c0, c1, c2, c3, c4, d0, d1⟩ := L6.cells
  have hnw6 := heap_alloc_new w6 (.cells #[.int .i64 2, .string t, .int .i64 0] 24)
  have honew6 : ∀ u ∈ [Value.int .i64 2, Value.string t, Value.int .i64 0], u.oneCell' = true := by
    intro u hu; simp at hu; rcases hu with rfl | rfl | rfl <;> rfl
  have hp3w6 : 0 < 3 := by decide
  go_wp2_with (at_builtin; refine wpList_append_own _ rfl _ _ 22 rfl w.heap.size 24 i0 (.agg #[.int .i64 0, .string ⟨#[]⟩, .int .i64 0]) 3 32 undTs hi0 hz0 hz1 hz2 rfl hp3w6 _ _ _ rfl (own6.alloc _) ⟨w6.heap.size, 0, none⟩ 1 1 [.int .i64 2, .string t, .int .i64 0] rfl rfl ?dd1w6 ?dd2w6 ?dd3w6 ?dd4w6 ?dd5w6 ?_)
  case dd1w6 => exact World.news_of_block hnw6
  case dd2w6 => exact honew6
  case dd3w6 => decide
  case dd4w6 => decide
  case dd5w6 => have := b6.size; simp; omega
  intro v7 w7 own7 hgrow _
  have b7 := (b6.alloc b6.size (.cells #[.int .i64 2, .string t, .int .i64 0] 24)).grown hgrow (by have := b6.size; simp; omega) (fun k hk => (own6.lt k hk).1)
  clear hnw6 honew6 hp3w6
  go_wp2_with fail
  go_ret2
  exact litQ_mk (TokRow.of_own own7) b7
set_option maxHeartbeats 1000000 in
set_option maxRecDepth 100000 in
theorem Literal_10p1 (D Q m : Nat) (vary : Bool) (pic s t : ByteArray) (ht : litT 1 ((D : Int) + (Q : Int)) (Q : Int) vary pic = true) (hv : litV 1 ((D : Int) + (Q : Int)) (m : Int) s = true) (hdt : t = ⟨(digL 10 m (D + Q) []).toArray⟩) (hm : m ≤ 4294967296) (h1 : 1 ≤ D + Q) (h9 : D + Q ≤ 9) (hq : 1 ≤ Q) (w : World) : Calls Tryz.prog 16 #[.agg #[.int .i64 1, .int .i64 ((D : Int) + (Q : Int)), .int .i64 (Q : Int), .bool vary, .string pic], .agg #[.int .i64 (m : Int), .string s]] w (LitQ [(2, ⟨(t.data.toList.take D ++ 46 :: t.data.toList.drop D).toArray⟩)] 0 w) := by
  have hsz : t.size = D + Q := by rw [hdt]; exact digL_size _ _ _
  have hp : 1 ≤ ((D : Int) + (Q : Int)) ∧ ((D : Int) + (Q : Int)) ≤ 9 := by omega
  have hTT : ∀ W, Calls Tryz.prog 51 #[.agg #[.int .i64 1, .int .i64 ((D : Int) + (Q : Int)), .int .i64 (Q : Int), .bool vary, .string pic]] W fun e w' => e = .returned (.bool true) ∧ Below W.heap.size W w' := fun W => by
    have := literalType_any 1 ((D : Int) + (Q : Int)) (Q : Int) vary pic W
    rwa [ht] at this
  have HT := Lib.hid hTT
  clear hTT ht
  have hVV : ∀ W, Calls Tryz.prog 52 #[.agg #[.int .i64 1, .int .i64 ((D : Int) + (Q : Int)), .int .i64 (Q : Int), .bool vary, .string pic], .agg #[.int .i64 (m : Int), .string s]] W fun e w' => e = .returned (.bool true) ∧ Below W.heap.size W w' := fun W => by
    have := literalValue_1 ((D : Int) + (Q : Int)) (Q : Int) (m : Int) vary pic s hp W
    rwa [hv] at this
  have HV := Lib.hid hVV
  clear hVV hv
  have hDD : ∀ W, Calls Tryz.prog 53 #[.int .i64 m, .int .i64 ((D : Int) + (Q : Int)), .int .i64 10] W fun e w' => e = .returned (.string t) ∧ Below W.heap.size W w' := fun W => by
    have := digits_10 m (D + Q) (by omega) (by omega) W
    rw [← hdt] at this
    simpa using this
  have HD := Lib.hid hDD
  clear hDD
  have HSZ := Lib.hid hsz
  have HDT := Lib.hid hdt
  obtain ⟨i0, hi0, hz0, hz1, hz2⟩ := info_parts infoT
  clear hsz hdt hp
  have hneg : ¬ (m : Int) < 0 := by omega
  have hq0 : (0 : Int) < (Q : Int) := by omega
  go_enter Tryz.func16, Tryz.ntmps16
  go_upto_region 1 with fail
  have b2 := below_box2 w (.cells #[.int .i64 1, .int .i64 ((D : Int) + (Q : Int)), .int .i64 (Q : Int), .bool vary, .string pic] 34) (.cells #[.int .i64 (m : Int), .string s] 36)
  have L2 := lb_box w 1 ((D : Int) + (Q : Int)) (Q : Int) vary pic (m : Int) s
  generalize (w.alloc (.cells #[.int .i64 1, .int .i64 ((D : Int) + (Q : Int)), .int .i64 (Q : Int), .bool vary, .string pic] 34)).alloc (.cells #[.int .i64 (m : Int), .string s] 36) = w2 at b2 L2 ⊢
  obtain ⟨c0, c1, c2, c3, c4, d0, d1⟩ := L2.cells
  go_wp2_with fail
  refine (HT.out _).mono ?_
  rintro e w3 ⟨rfl, hb3⟩
  have b3 := b2.trans (hb3.mono b2.size)
  have L3 := L2.below hb3 (Nat.le_refl _)
  clear c0 c1 c2 c3 c4 d0 d1 hb3 b2 L2
  obtain ⟨c0, c1, c2, c3, c4, d0, d1⟩ := L3.cells
  go_wp2_with fail
  refine (HV.out _).mono ?_
  rintro e w4 ⟨rfl, hb4⟩
  have b4 := b3.trans (hb4.mono b3.size)
  have L4 := L3.below hb4 (Nat.le_refl _)
  clear c0 c1 c2 c3 c4 d0 d1 hb4 b3 L3
  obtain ⟨c0, c1, c2, c3, c4, d0, d1⟩ := L4.cells
  have b5 := b4
  have L5 := L4
  go_wp2_with fail
  refine (HD.out _).mono ?_
  rintro e w6 ⟨rfl, hb6⟩
  have b6 := b5.trans (hb6.mono b5.size)
  have L6 := L5.below hb6 (Nat.le_refl _)
  have own6 : w6.ownsRow w.heap.size 24 3 (.slice none 0 0) 0 (rcells []) := World.ownsRow_nil _ _ _ _
  clear c0 c1 c2 c3 c4 d0 d1 hb6 b5 L5
  obtain ⟨c0, c1, c2, c3, c4, d0, d1⟩ := L6.cells
  have y0 : IntKind.i64.wrap (((D : Int) + (Q : Int)) - (Q : Int)) = (D : Int) := by rw [show ((D : Int) + (Q : Int)) - (Q : Int) = (D : Int) from by omega]; exact IntWalk.i64_in _ (by omega)
  have y1 : (0 : Int) ≤ (D : Int) := by omega
  have y2 : (D : Int) ≤ (t.size : Int) := by rw [HSZ.out]; omega
  have y3 : t.size ≤ 100 := by rw [HSZ.out]; omega
  go_upto_region 14 with fail
  go_quiet (fail)
  have own8 : (w6.drewN nq).ownsRow w.heap.size 24 3 (.slice none 0 0) 0 (rcells []) := own6
  have b8 := below_drewN b6 nq
  generalize w6.drewN nq = w8 at own8 b8 ⊢
  clear own6 y0 y1 y2 y3 c0 c1 c2 c3 c4 d0 d1 L6
  have hnw8 := heap_alloc_new w8 (.cells #[.int .i64 2, .string (t.extract 0 D ++ ⟨#[46]⟩ ++ t.extract D t.size), .int .i64 0] 24)
  have honew8 : ∀ u ∈ [Value.int .i64 2, Value.string (t.extract 0 D ++ ⟨#[46]⟩ ++ t.extract D t.size), Value.int .i64 0], u.oneCell' = true := by
    intro u hu; simp at hu; rcases hu with rfl | rfl | rfl <;> rfl
  have hp3w8 : 0 < 3 := by decide
  go_wp2_with (at_builtin; refine wpList_append_own _ rfl _ _ 22 rfl w.heap.size 24 i0 (.agg #[.int .i64 0, .string ⟨#[]⟩, .int .i64 0]) 3 32 undTs hi0 hz0 hz1 hz2 rfl hp3w8 _ _ _ rfl (own8.alloc _) ⟨w8.heap.size, 0, none⟩ 1 1 [.int .i64 2, .string (t.extract 0 D ++ ⟨#[46]⟩ ++ t.extract D t.size), .int .i64 0] rfl rfl ?dd1w8 ?dd2w8 ?dd3w8 ?dd4w8 ?dd5w8 ?_)
  case dd1w8 => exact World.news_of_block hnw8
  case dd2w8 => exact honew8
  case dd3w8 => decide
  case dd4w8 => decide
  case dd5w8 => have := b8.size; simp; omega
  intro v7 w7 own7 hgrow _
  have b7 := (b8.alloc b8.size (.cells #[.int .i64 2, .string (t.extract 0 D ++ ⟨#[46]⟩ ++ t.extract D t.size), .int .i64 0] 24)).grown hgrow (by have := b8.size; simp; omega) (fun k hk => (own8.lt k hk).1)
  clear hnw8 honew8 hp3w8
  go_wp2_with fail
  go_ret2
  have hdt := dec_text t D Q HSZ.out
  rw [hdt] at own7
  exact litQ_mk (TokRow.of_own own7) b7
set_option maxHeartbeats 1000000 in
set_option maxRecDepth 100000 in
theorem Literal_10n1 (D Q m : Nat) (vary : Bool) (pic s t : ByteArray) (ht : litT 1 ((D : Int) + (Q : Int)) (Q : Int) vary pic = true) (hv : litV 1 ((D : Int) + (Q : Int)) (-(m : Int)) s = true) (hdt : t = ⟨(digL 10 m (D + Q) []).toArray⟩) (hm : m ≤ 4294967296) (h1 : 1 ≤ D + Q) (h9 : D + Q ≤ 9) (hq : 1 ≤ Q) (hm1 : 1 ≤ m) (w : World) : Calls Tryz.prog 16 #[.agg #[.int .i64 1, .int .i64 ((D : Int) + (Q : Int)), .int .i64 (Q : Int), .bool vary, .string pic], .agg #[.int .i64 (-(m : Int)), .string s]] w (LitQ [(6, ⟨#[45]⟩), (2, ⟨(t.data.toList.take D ++ 46 :: t.data.toList.drop D).toArray⟩)] 0 w) := by
  have hsz : t.size = D + Q := by rw [hdt]; exact digL_size _ _ _
  have hp : 1 ≤ ((D : Int) + (Q : Int)) ∧ ((D : Int) + (Q : Int)) ≤ 9 := by omega
  have hTT : ∀ W, Calls Tryz.prog 51 #[.agg #[.int .i64 1, .int .i64 ((D : Int) + (Q : Int)), .int .i64 (Q : Int), .bool vary, .string pic]] W fun e w' => e = .returned (.bool true) ∧ Below W.heap.size W w' := fun W => by
    have := literalType_any 1 ((D : Int) + (Q : Int)) (Q : Int) vary pic W
    rwa [ht] at this
  have HT := Lib.hid hTT
  clear hTT ht
  have hVV : ∀ W, Calls Tryz.prog 52 #[.agg #[.int .i64 1, .int .i64 ((D : Int) + (Q : Int)), .int .i64 (Q : Int), .bool vary, .string pic], .agg #[.int .i64 (-(m : Int)), .string s]] W fun e w' => e = .returned (.bool true) ∧ Below W.heap.size W w' := fun W => by
    have := literalValue_1 ((D : Int) + (Q : Int)) (Q : Int) (-(m : Int)) vary pic s hp W
    rwa [hv] at this
  have HV := Lib.hid hVV
  clear hVV hv
  have hDD : ∀ W, Calls Tryz.prog 53 #[.int .i64 m, .int .i64 ((D : Int) + (Q : Int)), .int .i64 10] W fun e w' => e = .returned (.string t) ∧ Below W.heap.size W w' := fun W => by
    have := digits_10 m (D + Q) (by omega) (by omega) W
    rw [← hdt] at this
    simpa using this
  have HD := Lib.hid hDD
  clear hDD
  have HSZ := Lib.hid hsz
  have HDT := Lib.hid hdt
  obtain ⟨i0, hi0, hz0, hz1, hz2⟩ := info_parts infoT
  clear hsz hdt hp
  have hneg : (-(m : Int)) < 0 := by omega
  have hq0 : (0 : Int) < (Q : Int) := by omega
  go_enter Tryz.func16, Tryz.ntmps16
  go_upto_region 1 with fail
  have b2 := below_box2 w (.cells #[.int .i64 1, .int .i64 ((D : Int) + (Q : Int)), .int .i64 (Q : Int), .bool vary, .string pic] 34) (.cells #[.int .i64 (-(m : Int)), .string s] 36)
  have L2 := lb_box w 1 ((D : Int) + (Q : Int)) (Q : Int) vary pic (-(m : Int)) s
  generalize (w.alloc (.cells #[.int .i64 1, .int .i64 ((D : Int) + (Q : Int)), .int .i64 (Q : Int), .bool vary, .string pic] 34)).alloc (.cells #[.int .i64 (-(m : Int)), .string s] 36) = w2 at b2 L2 ⊢
  obtain ⟨c0, c1, c2, c3, c4, d0, d1⟩ := L2.cells
  go_wp2_with fail
  refine (HT.out _).mono ?_
  rintro e w3 ⟨rfl, hb3⟩
  have b3 := b2.trans (hb3.mono b2.size)
  have L3 := L2.below hb3 (Nat.le_refl _)
  clear c0 c1 c2 c3 c4 d0 d1 hb3 b2 L2
  obtain ⟨c0, c1, c2, c3, c4, d0, d1⟩ := L3.cells
  go_wp2_with fail
  refine (HV.out _).mono ?_
  rintro e w4 ⟨rfl, hb4⟩
  have b4 := b3.trans (hb4.mono b3.size)
  have L4 := L3.below hb4 (Nat.le_refl _)
  clear c0 c1 c2 c3 c4 d0 d1 hb4 b3 L3
  obtain ⟨c0, c1, c2, c3, c4, d0, d1⟩ := L4.cells
  have own4 : w4.ownsRow w.heap.size 24 3 (.slice none 0 0) 0 (rcells []) := World.ownsRow_nil _ _ _ _
  have hnw4 := heap_alloc_new w4 (.cells #[.int .i64 6, .string ⟨#[45]⟩, .int .i64 0] 24)
  have honew4 : ∀ u ∈ [Value.int .i64 6, Value.string ⟨#[45]⟩, Value.int .i64 0], u.oneCell' = true := by
    intro u hu; simp at hu; rcases hu with rfl | rfl | rfl <;> rfl
  have hp3w4 : 0 < 3 := by decide
  go_wp2_with (at_builtin; refine wpList_append_own _ rfl _ _ 22 rfl w.heap.size 24 i0 (.agg #[.int .i64 0, .string ⟨#[]⟩, .int .i64 0]) 3 32 undTs hi0 hz0 hz1 hz2 rfl hp3w4 _ _ _ rfl (own4.alloc _) ⟨w4.heap.size, 0, none⟩ 1 1 [.int .i64 6, .string ⟨#[45]⟩, .int .i64 0] rfl rfl ?dd1w4 ?dd2w4 ?dd3w4 ?dd4w4 ?dd5w4 ?_)
  case dd1w4 => exact World.news_of_block hnw4
  case dd2w4 => exact honew4
  case dd3w4 => decide
  case dd4w4 => decide
  case dd5w4 => have := b4.size; simp; omega
  intro v5 w5 own5 hgrow _
  have b5 := (b4.alloc b4.size (.cells #[.int .i64 6, .string ⟨#[45]⟩, .int .i64 0] 24)).grown hgrow (by have := b4.size; simp; omega) (fun k hk => (own4.lt k hk).1)
  clear hnw4 honew4 hp3w4
  have hbl5 : Below w4.heap.size w4 w5 := ((Below.refl w4.heap.size w4).alloc (Nat.le_refl _) _).grown hgrow (by simp) (fun k hk => by cases hk)
  have L5 := L4.below hbl5 (Nat.le_refl _)
  clear c0 c1 c2 c3 c4 d0 d1 hgrow hbl5 L4 own4
  obtain ⟨c0, c1, c2, c3, c4, d0, d1⟩ := L5.cells
  go_wp2_with fail
  refine (HD.out _).mono ?_
  rintro e w6 ⟨rfl, hb6⟩
  have b6 := b5.trans (hb6.mono b5.size)
  have L6 := L5.below hb6 (Nat.le_refl _)
  have own6 := own_below own5 hb6
  clear c0 c1 c2 c3 c4 d0 d1 hb6 b5 L5
  obtain ⟨c0, c1, c2, c3, c4, d0, d1⟩ := L6.cells
  have y0 : IntKind.i64.wrap (((D : Int) + (Q : Int)) - (Q : Int)) = (D : Int) := by rw [show ((D : Int) + (Q : Int)) - (Q : Int) = (D : Int) from by omega]; exact IntWalk.i64_in _ (by omega)
  have y1 : (0 : Int) ≤ (D : Int) := by omega
  have y2 : (D : Int) ≤ (t.size : Int) := by rw [HSZ.out]; omega
  have y3 : t.size ≤ 100 := by rw [HSZ.out]; omega
  go_upto_region 14 with fail
  go_quiet (fail)
  have own8 : (w6.drewN nq).ownsRow w.heap.size 24 3 v5 _ _ := own6
  have b8 := below_drewN b6 nq
  generalize w6.drewN nq = w8 at own8 b8 ⊢
  clear own6 y0 y1 y2 y3 c0 c1 c2 c3 c4 d0 d1 L6
  have hnw8 := heap_alloc_new w8 (.cells #[.int .i64 2, .string (t.extract 0 D ++ ⟨#[46]⟩ ++ t.extract D t.size), .int .i64 0] 24)
  have honew8 : ∀ u ∈ [Value.int .i64 2, Value.string (t.extract 0 D ++ ⟨#[46]⟩ ++ t.extract D t.size), Value.int .i64 0], u.oneCell' = true := by
    intro u hu; simp at hu; rcases hu with rfl | rfl | rfl <;> rfl
  have hp3w8 : 0 < 3 := by decide
  go_wp2_with (at_builtin; refine wpList_append_own _ rfl _ _ 22 rfl w.heap.size 24 i0 (.agg #[.int .i64 0, .string ⟨#[]⟩, .int .i64 0]) 3 32 undTs hi0 hz0 hz1 hz2 rfl hp3w8 _ _ _ rfl (own8.alloc _) ⟨w8.heap.size, 0, none⟩ 1 1 [.int .i64 2, .string (t.extract 0 D ++ ⟨#[46]⟩ ++ t.extract D t.size), .int .i64 0] rfl rfl ?dd1w8 ?dd2w8 ?dd3w8 ?dd4w8 ?dd5w8 ?_)
  case dd1w8 => exact World.news_of_block hnw8
  case dd2w8 => exact honew8
  case dd3w8 => decide
  case dd4w8 => decide
  case dd5w8 => have := b8.size; simp; omega
  intro v7 w7 own7 hgrow _
  have b7 := (b8.alloc b8.size (.cells #[.int .i64 2, .string (t.extract 0 D ++ ⟨#[46]⟩ ++ t.extract D t.size), .int .i64 0] 24)).grown hgrow (by have := b8.size; simp; omega) (fun k hk => (own8.lt k hk).1)
  clear hnw8 honew8 hp3w8
  go_wp2_with fail
  go_ret2
  have hdt := dec_text t D Q HSZ.out
  rw [hdt] at own7
  exact litQ_mk (TokRow.of_own own7) b7
end Go.Proofs.YtafofcenphopbaaGreatDoor
