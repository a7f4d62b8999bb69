/- Literal. -/
import Derived.Test.YtafofcenphopbaaGreatDoorA26
import Derived.Test.YtafofcenphopbaaGreatDoorA22
namespace Go.Proofs.YtafofcenphopbaaGreatDoor
open Go.RowKit Lx

theorem digL_len (b : Nat) : ∀ (m n : Nat) (acc : Bs), (digL b n m acc).length = m + acc.length := by
  intro m
  induction m with
  | zero => intro n acc; simp [digL]
  | succ m ih => intro n acc; rw [digL, ih]; simp; omega
theorem digL_size (b n m : Nat) : (⟨(digL b n m []).toArray⟩ : ByteArray).size = m := by
  show (digL b n m []).toArray.size = m
  simp [digL_len]
/-- A type and a value, boxed. -/
def LB (w : World) (b : Nat) (k p q : Int) (vary : Bool) (pic : ByteArray) (n : Int) (s : ByteArray) : Prop :=
  w.heap[b]? = some (.cells #[.int .i64 k, .int .i64 p, .int .i64 q, .bool vary, .string pic] 34) ∧ w.heap[b + 1]? = some (.cells #[.int .i64 n, .string s] 36)
theorem LB.lt {w : World} {b : Nat} {k p q : Int} {vary : Bool} {pic : ByteArray} {n : Int} {s : ByteArray} (h : LB w b k p q vary pic n s) : b + 1 < w.heap.size := (Array.getElem?_eq_some_iff.1 h.2).1
theorem LB.below {w w' : World} {B b : Nat} {k p q : Int} {vary : Bool} {pic : ByteArray} {n : Int} {s : ByteArray} (h : LB w b k p q vary pic n s) (hb : Below B w w') (hB : w.heap.size ≤ B) : LB w' b k p q vary pic n s := by
  have := h.lt
  exact ⟨(hb.block _ (by omega)).trans h.1, (hb.block _ (by omega)).trans h.2⟩
theorem LB.cells {w : World} {b : Nat} {k p q : Int} {vary : Bool} {pic : ByteArray} {n : Int} {s : ByteArray} (h : LB w b k p q vary pic n s) :
    w.cell? ⟨b, 0, none⟩ = some (.int .i64 k) ∧ w.cell? ⟨b, 1, none⟩ = some (.int .i64 p) ∧ w.cell? ⟨b, 2, none⟩ = some (.int .i64 q) ∧ w.cell? ⟨b, 3, none⟩ = some (.bool vary) ∧ w.cell? ⟨b, 4, none⟩ = some (.string pic) ∧
      w.cell? ⟨b + 1, 0, none⟩ = some (.int .i64 n) ∧ w.cell? ⟨b + 1, 1, none⟩ = some (.string s) :=
  ⟨cell_of_row _ _ 0 _ _ _ h.1, cell_of_row _ _ 1 _ _ _ h.1, cell_of_row _ _ 2 _ _ _ h.1, cell_of_row _ _ 3 _ _ _ h.1, cell_of_row _ _ 4 _ _ _ h.1, cell_of_row _ _ 0 _ _ _ h.2, cell_of_row _ _ 1 _ _ _ h.2⟩
theorem lb_box (w : World) (k p q : Int) (vary : Bool) (pic : ByteArray) (n : Int) (s : ByteArray) :
    LB ((w.alloc (.cells #[.int .i64 k, .int .i64 p, .int .i64 q, .bool vary, .string pic] 34)).alloc (.cells #[.int .i64 n, .string s] 36)) w.heap.size k p q vary pic n s := by
  refine ⟨?_, ?_⟩
  · rw [Lib.alloc_old _ _ _ (by simp)]; exact heap_alloc_new w _
  · have := heap_alloc_new (w.alloc (.cells #[.int .i64 k, .int .i64 p, .int .i64 q, .bool vary, .string pic] 34)) (.cells #[.int .i64 n, .string s] 36); rwa [World.size_alloc] at this
/-- What Literal hands back. -/
def LitQ (ts : List (Int × ByteArray)) (err : Int) (w : World) (e : Ending) (w' : World) : Prop :=
  ∃ lv, e = .returned (.tuple #[lv, .int .i64 err]) ∧ TokRow w' lv (ts.map fun a => ⟨a.1, a.2, 0⟩) ∧ Below w.heap.size w w'
theorem litQ_mk {ts : List (Int × ByteArray)} {err : Int} {w w' : World} {lv : Value} (h : TokRow w' lv (ts.map fun a => ⟨a.1, a.2, 0⟩)) (hb : Below w.heap.size w w') : LitQ ts err w (.returned (.tuple #[lv, .int .i64 err])) w' := ⟨lv, rfl, h, hb⟩
theorem litQ_nil {err : Int} {w w' : World} (hb : Below w.heap.size w w') : LitQ [] err w (.returned (.tuple #[.slice none 0 0, .int .i64 err])) w' := ⟨_, rfl, ⟨none, 0, rfl, fun h => absurd rfl h⟩, hb⟩
theorem TokRow.one {w : World} {b : Nat} {k : Int} {t : ByteArray} {a : Int} (h : w.heap[b]? = some (.cells #[.int .i64 k, .string t, .int .i64 a] 24)) : TokRow w (.slice (some ⟨b, 0, none⟩) 1 1) [⟨k, t, a⟩] := by
  refine ⟨_, 1, rfl, fun _ => ⟨b, 0, rfl, (Array.getElem?_eq_some_iff.1 h).1, fun j hj i u hu => ?_⟩⟩
  rw [Lib.cell_of_heap h]
  have hi : i < 3 := by
    have := (List.getElem?_eq_some_iff.1 hu).1
    simpa [tokv] using this
  have hj' : j = 0 := by simp at hj; omega
  subst hj'
  have hi' : i = 0 ∨ i = 1 ∨ i = 2 := by omega
  rcases hi' with rfl | rfl | rfl <;> simpa [tokv] using hu
set_option maxHeartbeats 1000000 in
set_option maxRecDepth 100000 in
theorem Literal_type (k p q n : Int) (vary : Bool) (pic s : ByteArray) (ht : litT k p q vary pic = false) (w : World) : Calls Tryz.prog 16 #[.agg #[.int .i64 k, .int .i64 p, .int .i64 q, .bool vary, .string pic], .agg #[.int .i64 n, .string s]] w (LitQ [] 5 w) := by
  have hTT : ∀ W, Calls Tryz.prog 51 #[.agg #[.int .i64 k, .int .i64 p, .int .i64 q, .bool vary, .string pic]] W fun e w' => e = .returned (.bool false) ∧ Below W.heap.size W w' := fun W => by
    have := literalType_any k p q vary pic W
    rwa [ht] at this
  have HT := Lib.hid hTT
  clear hTT ht
  go_enter Tryz.func16, Tryz.ntmps16
  go_upto_region 1 with fail
  have b2 := below_box2 w (.cells #[.int .i64 k, .int .i64 p, .int .i64 q, .bool vary, .string pic] 34) (.cells #[.int .i64 n, .string s] 36)
  have L2 := lb_box w k p q vary pic n s
  generalize (w.alloc (.cells #[.int .i64 k, .int .i64 p, .int .i64 q, .bool vary, .string pic] 34)).alloc (.cells #[.int .i64 n, .string s] 36) = w2 at b2 L2 ⊢
  obtain ⟨c0, c1, c2, c3, c4, d0, d1⟩ := L2.cells
  go_wp2_with fail
  refine (HT.out _).mono ?_
  rintro e w3 ⟨rfl, hb3⟩
  have b3 := b2.trans (hb3.mono b2.size)
  have L3 := L2.below hb3 (Nat.le_refl _)
  clear c0 c1 c2 c3 c4 d0 d1 hb3 b2 L2
  obtain ⟨c0, c1, c2, c3, c4, d0, d1⟩ := L3.cells
  go_wp2_with fail
  go_ret2
  exact litQ_nil b3
set_option maxHeartbeats 1000000 in
set_option maxRecDepth 100000 in
theorem Literal_value1 (p q n : Int) (vary : Bool) (pic s : ByteArray) (ht : litT 1 p q vary pic = true) (hv : litV 1 p n s = false) (hp : 1 ≤ p ∧ p ≤ 9) (w : World) : Calls Tryz.prog 16 #[.agg #[.int .i64 1, .int .i64 p, .int .i64 q, .bool vary, .string pic], .agg #[.int .i64 n, .string s]] w (LitQ [] 6 w) := by
  have hTT : ∀ W, Calls Tryz.prog 51 #[.agg #[.int .i64 1, .int .i64 p, .int .i64 q, .bool vary, .string pic]] W fun e w' => e = .returned (.bool true) ∧ Below W.heap.size W w' := fun W => by
    have := literalType_any 1 p q vary pic W
    rwa [ht] at this
  have HT := Lib.hid hTT
  clear hTT ht
  have hVV : ∀ W, Calls Tryz.prog 52 #[.agg #[.int .i64 1, .int .i64 p, .int .i64 q, .bool vary, .string pic], .agg #[.int .i64 n, .string s]] W fun e w' => e = .returned (.bool false) ∧ Below W.heap.size W w' := fun W => by
    have := literalValue_1 p q n vary pic s hp W
    rwa [hv] at this
  have HV := Lib.hid hVV
  clear hVV hv
  go_enter Tryz.func16, Tryz.ntmps16
  go_upto_region 1 with fail
  have b2 := below_box2 w (.cells #[.int .i64 1, .int .i64 p, .int .i64 q, .bool vary, .string pic] 34) (.cells #[.int .i64 n, .string s] 36)
  have L2 := lb_box w 1 p q vary pic n s
  generalize (w.alloc (.cells #[.int .i64 1, .int .i64 p, .int .i64 q, .bool vary, .string pic] 34)).alloc (.cells #[.int .i64 n, .string s] 36) = w2 at b2 L2 ⊢
  obtain ⟨c0, c1, c2, c3, c4, d0, d1⟩ := L2.cells
  go_wp2_with fail
  refine (HT.out _).mono ?_
  rintro e w3 ⟨rfl, hb3⟩
  have b3 := b2.trans (hb3.mono b2.size)
  have L3 := L2.below hb3 (Nat.le_refl _)
  clear c0 c1 c2 c3 c4 d0 d1 hb3 b2 L2
  obtain ⟨c0, c1, c2, c3, c4, d0, d1⟩ := L3.cells
  go_wp2_with fail
  refine (HV.out _).mono ?_
  rintro e w4 ⟨rfl, hb4⟩
  have b4 := b3.trans (hb4.mono b3.size)
  have L4 := L3.below hb4 (Nat.le_refl _)
  clear c0 c1 c2 c3 c4 d0 d1 hb4 b3 L3
  obtain ⟨c0, c1, c2, c3, c4, d0, d1⟩ := L4.cells
  go_wp2_with fail
  go_ret2
  exact litQ_nil b4
set_option maxHeartbeats 1000000 in
set_option maxRecDepth 100000 in
theorem Literal_value2 (p q n : Int) (vary : Bool) (pic s : ByteArray) (ht : litT 2 p q vary pic = true) (hv : litV 2 p n s = false) (hp : 1 ≤ p ∧ p ≤ 31) (w : World) : Calls Tryz.prog 16 #[.agg #[.int .i64 2, .int .i64 p, .int .i64 q, .bool vary, .string pic], .agg #[.int .i64 n, .string s]] w (LitQ [] 6 w) := by
  have hTT : ∀ W, Calls Tryz.prog 51 #[.agg #[.int .i64 2, .int .i64 p, .int .i64 q, .bool vary, .string pic]] W fun e w' => e = .returned (.bool true) ∧ Below W.heap.size W w' := fun W => by
    have := literalType_any 2 p q vary pic W
    rwa [ht] at this
  have HT := Lib.hid hTT
  clear hTT ht
  have hVV : ∀ W, Calls Tryz.prog 52 #[.agg #[.int .i64 2, .int .i64 p, .int .i64 q, .bool vary, .string pic], .agg #[.int .i64 n, .string s]] W fun e w' => e = .returned (.bool false) ∧ Below W.heap.size W w' := fun W => by
    have := literalValue_2 p q n vary pic s hp W
    rwa [hv] at this
  have HV := Lib.hid hVV
  clear hVV hv
  go_enter Tryz.func16, Tryz.ntmps16
  go_upto_region 1 with fail
  have b2 := below_box2 w (.cells #[.int .i64 2, .int .i64 p, .int .i64 q, .bool vary, .string pic] 34) (.cells #[.int .i64 n, .string s] 36)
  have L2 := lb_box w 2 p q vary pic n s
  generalize (w.alloc (.cells #[.int .i64 2, .int .i64 p, .int .i64 q, .bool vary, .string pic] 34)).alloc (.cells #[.int .i64 n, .string s] 36) = w2 at b2 L2 ⊢
  obtain ⟨c0, c1, c2, c3, c4, d0, d1⟩ := L2.cells
  go_wp2_with fail
  refine (HT.out _).mono ?_
  rintro e w3 ⟨rfl, hb3⟩
  have b3 := b2.trans (hb3.mono b2.size)
  have L3 := L2.below hb3 (Nat.le_refl _)
  clear c0 c1 c2 c3 c4 d0 d1 hb3 b2 L2
  obtain ⟨c0, c1, c2, c3, c4, d0, d1⟩ := L3.cells
  go_wp2_with fail
  refine (HV.out _).mono ?_
  rintro e w4 ⟨rfl, hb4⟩
  have b4 := b3.trans (hb4.mono b3.size)
  have L4 := L3.below hb4 (Nat.le_refl _)
  clear c0 c1 c2 c3 c4 d0 d1 hb4 b3 L3
  obtain ⟨c0, c1, c2, c3, c4, d0, d1⟩ := L4.cells
  go_wp2_with fail
  go_ret2
  exact litQ_nil b4
set_option maxHeartbeats 1000000 in
set_option maxRecDepth 100000 in
theorem Literal_value3 (p q n : Int) (vary : Bool) (pic s : ByteArray) (ht : litT 3 p q vary pic = true) (hv : litV 3 p n s = false) (hs : s.size ≤ 140737488351232) (w : World) : Calls Tryz.prog 16 #[.agg #[.int .i64 3, .int .i64 p, .int .i64 q, .bool vary, .string pic], .agg #[.int .i64 n, .string s]] w (LitQ [] 6 w) := by
  have hTT : ∀ W, Calls Tryz.prog 51 #[.agg #[.int .i64 3, .int .i64 p, .int .i64 q, .bool vary, .string pic]] W fun e w' => e = .returned (.bool true) ∧ Below W.heap.size W w' := fun W => by
    have := literalType_any 3 p q vary pic W
    rwa [ht] at this
  have HT := Lib.hid hTT
  clear hTT ht
  have hVV : ∀ W, Calls Tryz.prog 52 #[.agg #[.int .i64 3, .int .i64 p, .int .i64 q, .bool vary, .string pic], .agg #[.int .i64 n, .string s]] W fun e w' => e = .returned (.bool false) ∧ Below W.heap.size W w' := fun W => by
    have := literalValue_3 p q n vary pic s hs W
    rwa [hv] at this
  have HV := Lib.hid hVV
  clear hVV hv
  go_enter Tryz.func16, Tryz.ntmps16
  go_upto_region 1 with fail
  have b2 := below_box2 w (.cells #[.int .i64 3, .int .i64 p, .int .i64 q, .bool vary, .string pic] 34) (.cells #[.int .i64 n, .string s] 36)
  have L2 := lb_box w 3 p q vary pic n s
  generalize (w.alloc (.cells #[.int .i64 3, .int .i64 p, .int .i64 q, .bool vary, .string pic] 34)).alloc (.cells #[.int .i64 n, .string s] 36) = w2 at b2 L2 ⊢
  obtain ⟨c0, c1, c2, c3, c4, d0, d1⟩ := L2.cells
  go_wp2_with fail
  refine (HT.out _).mono ?_
  rintro e w3 ⟨rfl, hb3⟩
  have b3 := b2.trans (hb3.mono b2.size)
  have L3 := L2.below hb3 (Nat.le_refl _)
  clear c0 c1 c2 c3 c4 d0 d1 hb3 b2 L2
  obtain ⟨c0, c1, c2, c3, c4, d0, d1⟩ := L3.cells
  go_wp2_with fail
  refine (HV.out _).mono ?_
  rintro e w4 ⟨rfl, hb4⟩
  have b4 := b3.trans (hb4.mono b3.size)
  have L4 := L3.below hb4 (Nat.le_refl _)
  clear c0 c1 c2 c3 c4 d0 d1 hb4 b3 L3
  obtain ⟨c0, c1, c2, c3, c4, d0, d1⟩ := L4.cells
  go_wp2_with fail
  go_ret2
  exact litQ_nil b4
set_option maxHeartbeats 1000000 in
set_option maxRecDepth 100000 in
theorem Literal_value4 (p q n : Int) (vary : Bool) (pic s : ByteArray) (ht : litT 4 p q vary pic = true) (hv : litV 4 p n s = false) (hs : s.size ≤ 140737488351232) (w : World) : Calls Tryz.prog 16 #[.agg #[.int .i64 4, .int .i64 p, .int .i64 q, .bool vary, .string pic], .agg #[.int .i64 n, .string s]] w (LitQ [] 6 w) := by
  have hTT : ∀ W, Calls Tryz.prog 51 #[.agg #[.int .i64 4, .int .i64 p, .int .i64 q, .bool vary, .string pic]] W fun e w' => e = .returned (.bool true) ∧ Below W.heap.size W w' := fun W => by
    have := literalType_any 4 p q vary pic W
    rwa [ht] at this
  have HT := Lib.hid hTT
  clear hTT ht
  have hVV : ∀ W, Calls Tryz.prog 52 #[.agg #[.int .i64 4, .int .i64 p, .int .i64 q, .bool vary, .string pic], .agg #[.int .i64 n, .string s]] W fun e w' => e = .returned (.bool false) ∧ Below W.heap.size W w' := fun W => by
    have := literalValue_4 p q n vary pic s hs W
    rwa [hv] at this
  have HV := Lib.hid hVV
  clear hVV hv
  go_enter Tryz.func16, Tryz.ntmps16
  go_upto_region 1 with fail
  have b2 := below_box2 w (.cells #[.int .i64 4, .int .i64 p, .int .i64 q, .bool vary, .string pic] 34) (.cells #[.int .i64 n, .string s] 36)
  have L2 := lb_box w 4 p q vary pic n s
  generalize (w.alloc (.cells #[.int .i64 4, .int .i64 p, .int .i64 q, .bool vary, .string pic] 34)).alloc (.cells #[.int .i64 n, .string s] 36) = w2 at b2 L2 ⊢
  obtain ⟨c0, c1, c2, c3, c4, d0, d1⟩ := L2.cells
  go_wp2_with fail
  refine (HT.out _).mono ?_
  rintro e w3 ⟨rfl, hb3⟩
  have b3 := b2.trans (hb3.mono b2.size)
  have L3 := L2.below hb3 (Nat.le_refl _)
  clear c0 c1 c2 c3 c4 d0 d1 hb3 b2 L2
  obtain ⟨c0, c1, c2, c3, c4, d0, d1⟩ := L3.cells
  go_wp2_with fail
  refine (HV.out _).mono ?_
  rintro e w4 ⟨rfl, hb4⟩
  have b4 := b3.trans (hb4.mono b3.size)
  have L4 := L3.below hb4 (Nat.le_refl _)
  clear c0 c1 c2 c3 c4 d0 d1 hb4 b3 L3
  obtain ⟨c0, c1, c2, c3, c4, d0, d1⟩ := L4.cells
  go_wp2_with fail
  go_ret2
  exact litQ_nil b4
set_option maxHeartbeats 1000000 in
set_option maxRecDepth 100000 in
theorem Literal_3 (p q : Int) (vary : Bool) (pic s : ByteArray) (ht : litT 3 p q vary pic = true) (hv : litV 3 p 0 s = true) (hs : s.size ≤ 140737488351232) (w : World) : Calls Tryz.prog 16 #[.agg #[.int .i64 3, .int .i64 p, .int .i64 q, .bool vary, .string pic], .agg #[.int .i64 0, .string s]] w (LitQ [(4, s)] 0 w) := by
  have hTT : ∀ W, Calls Tryz.prog 51 #[.agg #[.int .i64 3, .int .i64 p, .int .i64 q, .bool vary, .string pic]] W fun e w' => e = .returned (.bool true) ∧ Below W.heap.size W w' := fun W => by
    have := literalType_any 3 p q vary pic W
    rwa [ht] at this
  have HT := Lib.hid hTT
  clear hTT ht
  have hVV : ∀ W, Calls Tryz.prog 52 #[.agg #[.int .i64 3, .int .i64 p, .int .i64 q, .bool vary, .string pic], .agg #[.int .i64 0, .string s]] W fun e w' => e = .returned (.bool true) ∧ Below W.heap.size W w' := fun W => by
    have := literalValue_3 p q 0 vary pic s hs W
    rwa [hv] at this
  have HV := Lib.hid hVV
  clear hVV hv
  go_enter Tryz.func16, Tryz.ntmps16
  go_upto_region 1 with fail
  have b2 := below_box2 w (.cells #[.int .i64 3, .int .i64 p, .int .i64 q, .bool vary, .string pic] 34) (.cells #[.int .i64 0, .string s] 36)
  have L2 := lb_box w 3 p q vary pic 0 s
  generalize (w.alloc (.cells #[.int .i64 3, .int .i64 p, .int .i64 q, .bool vary, .string pic] 34)).alloc (.cells #[.int .i64 0, .string s] 36) = w2 at b2 L2 ⊢
  obtain ⟨c0, c1, c2, c3, c4, d0, d1⟩ := L2.cells
  go_wp2_with fail
  refine (HT.out _).mono ?_
  rintro e w3 ⟨rfl, hb3⟩
  have b3 := b2.trans (hb3.mono b2.size)
  have L3 := L2.below hb3 (Nat.le_refl _)
  clear c0 c1 c2 c3 c4 d0 d1 hb3 b2 L2
  obtain ⟨c0, c1, c2, c3, c4, d0, d1⟩ := L3.cells
  go_wp2_with fail
  refine (HV.out _).mono ?_
  rintro e w4 ⟨rfl, hb4⟩
  have b4 := b3.trans (hb4.mono b3.size)
  have L4 := L3.below hb4 (Nat.le_refl _)
  clear c0 c1 c2 c3 c4 d0 d1 hb4 b3 L3
  obtain ⟨c0, c1, c2, c3, c4, d0, d1⟩ := L4.cells
  go_wp2_with fail
  have n5 := heap_alloc_new w4 (.cells #[.int .i64 4, .string s, .int .i64 0] 24)
  go_ret2
  refine litQ_mk ?_ (b4.alloc b4.size _)
  exact TokRow.one n5
set_option maxHeartbeats 1000000 in
set_option maxRecDepth 100000 in
theorem Literal_4 (p q : Int) (vary : Bool) (pic s : ByteArray) (ht : litT 4 p q vary pic = true) (hv : litV 4 p 0 s = true) (hs : s.size ≤ 140737488351232) (w : World) : Calls Tryz.prog 16 #[.agg #[.int .i64 4, .int .i64 p, .int .i64 q, .bool vary, .string pic], .agg #[.int .i64 0, .string s]] w (LitQ [(5, s)] 0 w) := by
  have hTT : ∀ W, Calls Tryz.prog 51 #[.agg #[.int .i64 4, .int .i64 p, .int .i64 q, .bool vary, .string pic]] W fun e w' => e = .returned (.bool true) ∧ Below W.heap.size W w' := fun W => by
    have := literalType_any 4 p q vary pic W
    rwa [ht] at this
  have HT := Lib.hid hTT
  clear hTT ht
  have hVV : ∀ W, Calls Tryz.prog 52 #[.agg #[.int .i64 4, .int .i64 p, .int .i64 q, .bool vary, .string pic], .agg #[.int .i64 0, .string s]] W fun e w' => e = .returned (.bool true) ∧ Below W.heap.size W w' := fun W => by
    have := literalValue_4 p q 0 vary pic s hs W
    rwa [hv] at this
  have HV := Lib.hid hVV
  clear hVV hv
  go_enter Tryz.func16, Tryz.ntmps16
  go_upto_region 1 with fail
  have b2 := below_box2 w (.cells #[.int .i64 4, .int .i64 p, .int .i64 q, .bool vary, .string pic] 34) (.cells #[.int .i64 0, .string s] 36)
  have L2 := lb_box w 4 p q vary pic 0 s
  generalize (w.alloc (.cells #[.int .i64 4, .int .i64 p, .int .i64 q, .bool vary, .string pic] 34)).alloc (.cells #[.int .i64 0, .string s] 36) = w2 at b2 L2 ⊢
  obtain ⟨c0, c1, c2, c3, c4, d0, d1⟩ := L2.cells
  go_wp2_with fail
  refine (HT.out _).mono ?_
  rintro e w3 ⟨rfl, hb3⟩
  have b3 := b2.trans (hb3.mono b2.size)
  have L3 := L2.below hb3 (Nat.le_refl _)
  clear c0 c1 c2 c3 c4 d0 d1 hb3 b2 L2
  obtain ⟨c0, c1, c2, c3, c4, d0, d1⟩ := L3.cells
  go_wp2_with fail
  refine (HV.out _).mono ?_
  rintro e w4 ⟨rfl, hb4⟩
  have b4 := b3.trans (hb4.mono b3.size)
  have L4 := L3.below hb4 (Nat.le_refl _)
  clear c0 c1 c2 c3 c4 d0 d1 hb4 b3 L3
  obtain ⟨c0, c1, c2, c3, c4, d0, d1⟩ := L4.cells
  go_wp2_with fail
  have n5 := heap_alloc_new w4 (.cells #[.int .i64 5, .string s, .int .i64 0] 24)
  go_ret2
  refine litQ_mk ?_ (b4.alloc b4.size _)
  exact TokRow.one n5
end Go.Proofs.YtafofcenphopbaaGreatDoor
