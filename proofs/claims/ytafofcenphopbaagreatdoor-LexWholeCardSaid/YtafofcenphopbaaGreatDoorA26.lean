/- Constant. -/
import Derived.Test.YtafofcenphopbaaGreatDoorA24
namespace Go.Proofs.YtafofcenphopbaaGreatDoor
open Go.RowKit Lx

structure ConR where
  kind : Int
  p : Int
  q : Int
  n : Int
  s : ByteArray
  err : Int
def conI (k : Int) (t : ByteArray) : ConR :=
  if checkI k t = false then ⟨0, 0, 0, 0, ⟨#[]⟩, 50⟩
  else if k = 2 then ⟨1, (numR t).1, (numR t).2.1, valL 10 t.data.toList 0, ⟨#[]⟩, 0⟩
  else if k = 3 then ⟨2, t.size, 0, valL 2 t.data.toList 0, ⟨#[]⟩, 0⟩
  else if k = 4 then ⟨3, t.size, 0, 0, t, 0⟩
  else if k = 5 then ⟨4, t.size, 0, 0, t, 0⟩
  else ⟨0, 0, 0, 0, ⟨#[]⟩, 5⟩
def conV (r : ConR) : Value := .tuple #[.agg #[.int .i64 r.kind, .int .i64 r.p, .int .i64 r.q, .bool false, .string ⟨#[]⟩], .agg #[.int .i64 r.n, .string r.s], .int .i64 r.err]
def ConQ (k : Int) (t : ByteArray) (w : World) (e : Ending) (w' : World) : Prop := e = .returned (conV (conI k t)) ∧ Below w.heap.size w w'
theorem conQ_mk {k : Int} {t : ByteArray} {w w' : World} {r : ConR} (h : conI k t = r) (hb : Below w.heap.size w w') :
    ConQ k t w (.returned (.tuple #[.agg #[.int .i64 r.kind, .int .i64 r.p, .int .i64 r.q, .bool false, .string ⟨#[]⟩], .agg #[.int .i64 r.n, .string r.s], .int .i64 r.err])) w' := by
  unfold ConQ; rw [h]; exact ⟨rfl, hb⟩
theorem box3 (w : World) (a b c : Obj) : Below w.heap.size w (((w.alloc a).alloc b).alloc c) ∧ (((w.alloc a).alloc b).alloc c).heap[w.heap.size]? = some a ∧ (((w.alloc a).alloc b).alloc c).heap[w.heap.size + 1]? = some b ∧ (((w.alloc a).alloc b).alloc c).heap[w.heap.size + 1 + 1]? = some c := by
  refine ⟨(((Below.refl _ _).alloc (Nat.le_refl _) _).alloc (by simp) _).alloc (by simp; omega) _, ?_, ?_, ?_⟩
  · rw [Lib.alloc_old _ _ _ (by simp; omega), Lib.alloc_old _ _ _ (by simp)]; exact heap_alloc_new w a
  · rw [Lib.alloc_old _ _ _ (by simp)]; have := heap_alloc_new (w.alloc a) b; rwa [World.size_alloc] at this
  · have := heap_alloc_new ((w.alloc a).alloc b) c; rwa [World.size_alloc, World.size_alloc] at this
theorem numGo_len : ∀ (l : Bs) (d b : Nat) (pt : Bool) (r : Nat × Nat), numGo l d b pt = some r → d + l.length ≤ r.1 + (if pt then 0 else 1) ∧ (∀ c ∈ l, c = 46 ∨ (48 ≤ c.toNat ∧ c.toNat < 58)) := by
  intro l
  induction l with
  | nil => intro d b pt r h; cases h; exact ⟨by simp, fun c h => by cases h⟩
  | cons c l ih =>
    intro d b pt r h
    unfold numGo at h
    split at h
    · rename_i hd'
      have hi := ih _ _ _ _ h
      refine ⟨by simp only [List.length_cons]; omega, fun x hx => ?_⟩
      rcases List.mem_cons.1 hx with rfl | hx
      · right; unfold digI at hd'; simp at hd'; omega
      · exact hi.2 x hx
    · split at h
      · rename_i hp
        have hi := ih _ _ _ _ h
        rw [hp.2.1]
        refine ⟨by simp only [List.length_cons]; simp at hi; simp; omega, fun x hx => ?_⟩
        rcases List.mem_cons.1 hx with rfl | hx
        · left; exact (byte_eq x 46 (by decide)).2 hp.1
        · exact hi.2 x hx
      · cases h
theorem numR_chars (t : ByteArray) (h : (numR t).2.2 = true) : t.size ≤ 10 ∧ (∀ c ∈ t.data.toList, c = 46 ∨ (48 ≤ c.toNat ∧ c.toNat < 48 + 10)) := by
  unfold numR at h
  split at h
  · rename_i d b hg
    simp at h
    have := numGo_len _ _ _ _ _ hg
    refine ⟨?_, this.2⟩
    have h1 := this.1
    simp at h1
    have : t.data.toList.length = t.size := rfl
    simp at this
    omega
  · cases h
theorem bits_chars (t : ByteArray) (h : allI bitI t = true) : ∀ c ∈ t.data.toList, c = 46 ∨ (48 ≤ c.toNat ∧ c.toNat < 48 + 2) := by
  intro c hc
  have := List.all_eq_true.1 (allI_list h) c hc
  right
  unfold bitI at this
  simp at this
  omega
theorem con_below {B : Nat} {w0 w : World} (hb : Below B w0 w) (a b c d e f g : Value) : Below B w0 (((((((w.setCell ⟨B + 1, 0, none⟩ a).setCell ⟨B + 1, 1, none⟩ b).setCell ⟨B + 1, 2, none⟩ c).setCell ⟨B + 1, 3, none⟩ d).setCell ⟨B + 1, 4, none⟩ e).setCell ⟨B + 1 + 1, 0, none⟩ f).setCell ⟨B + 1 + 1, 1, none⟩ g) :=
  (((((((hb.setCell (p := ⟨B + 1, 0, none⟩) (Nat.le_succ _) _).setCell (p := ⟨B + 1, 1, none⟩) (Nat.le_succ _) _).setCell (p := ⟨B + 1, 2, none⟩) (Nat.le_succ _) _).setCell (p := ⟨B + 1, 3, none⟩) (Nat.le_succ _) _).setCell (p := ⟨B + 1, 4, none⟩) (Nat.le_succ _) _).setCell (p := ⟨B + 1 + 1, 0, none⟩) (Nat.le_trans (Nat.le_succ _) (Nat.le_succ _)) _).setCell (p := ⟨B + 1 + 1, 1, none⟩) (Nat.le_trans (Nat.le_succ _) (Nat.le_succ _)) _)
theorem far7 {B b : Nat} (h : B + 1 ≠ b) (h2 : B + 1 + 1 ≠ b) (w : World) (j : Nat) (a b' c d e f g : Value) :
    (((((((w.setCell ⟨B + 1, 0, none⟩ a).setCell ⟨B + 1, 1, none⟩ b').setCell ⟨B + 1, 2, none⟩ c).setCell ⟨B + 1, 3, none⟩ d).setCell ⟨B + 1, 4, none⟩ e).setCell ⟨B + 1 + 1, 0, none⟩ f).setCell ⟨B + 1 + 1, 1, none⟩ g).cell? ⟨b, j, none⟩ = w.cell? ⟨b, j, none⟩ := by
  rw [World.cell?_setCell_far _ _ _ _ h2, World.cell?_setCell_far _ _ _ _ h2, World.cell?_setCell_far _ _ _ _ h, World.cell?_setCell_far _ _ _ _ h, World.cell?_setCell_far _ _ _ _ h, World.cell?_setCell_far _ _ _ _ h, World.cell?_setCell_far _ _ _ _ h]
set_option maxHeartbeats 1000000 in
set_option maxRecDepth 100000 in
theorem Constant_bad (k : Int) (t : ByteArray) (a : Int) (hs : t.size ≤ 140737488351232) (hc : checkI k t = false) (w : World) : Calls Tryz.prog 14 #[.agg #[.int .i64 k, .string t, .int .i64 a]] w (ConQ k t w) := by
  have hf : conI k t = ⟨0, 0, 0, 0, ⟨#[]⟩, 50⟩ := by unfold conI; rw [if_pos hc]
  have HF := Lib.hid hf
  have HC := Lib.hid hc
  clear hf hc
  go_enter Tryz.func14, Tryz.ntmps14
  go_upto_region 1 with fail
  obtain ⟨b1, n1, n2, n3⟩ := box3 w (.cells #[.int .i64 k, .string t, .int .i64 a] 24) (.cells #[.int .i64 0, .int .i64 0, .int .i64 0, .bool false, .string ⟨#[]⟩] 34) (.cells #[.int .i64 0, .string ⟨#[]⟩] 36)
  generalize ((w.alloc (.cells #[.int .i64 k, .string t, .int .i64 a] 24)).alloc (.cells #[.int .i64 0, .int .i64 0, .int .i64 0, .bool false, .string ⟨#[]⟩] 34)).alloc (.cells #[.int .i64 0, .string ⟨#[]⟩] 36) = w1 at b1 n1 n2 n3 ⊢
  have l1 := (Array.getElem?_eq_some_iff.1 n1).1
  have l2 := (Array.getElem?_eq_some_iff.1 n2).1
  have l3 := (Array.getElem?_eq_some_iff.1 n3).1
  have k0 : w1.cell? ⟨w.heap.size, 0, none⟩ = some (.int .i64 k) := cell_of_row _ _ 0 _ _ _ n1
  have k1 : w1.cell? ⟨w.heap.size, 1, none⟩ = some (.string t) := cell_of_row _ _ 1 _ _ _ n1
  have k2 : w1.cell? ⟨w.heap.size, 2, none⟩ = some (.int .i64 a) := cell_of_row _ _ 2 _ _ _ n1
  have hck : ∀ W, Calls Tryz.prog 35 #[.agg #[.int .i64 k, .string t, .int .i64 a]] W fun e w' => e = .returned (.int .i64 (errIf (checkI k t))) ∧ Below W.heap.size W w' :=
    fun W => Check_any k t a hs W
  rw [HC.out] at hck
  have HCK := Lib.hid hck
  clear hck
  go_wp2_with fail
  refine (HCK.out _).mono ?_
  rintro e w2 ⟨rfl, hb2⟩
  have n1 := (hb2.block _ l1).trans n1
  have n2 := (hb2.block _ l2).trans n2
  have n3 := (hb2.block _ l3).trans n3
  have b2 := b1.trans (hb2.mono b1.size)
  clear hb2 b1 l1 l2 l3 k0 k1 k2 HCK
  have l1 := (Array.getElem?_eq_some_iff.1 n1).1
  have l2 := (Array.getElem?_eq_some_iff.1 n2).1
  have l3 := (Array.getElem?_eq_some_iff.1 n3).1
  have k0 : w2.cell? ⟨w.heap.size, 0, none⟩ = some (.int .i64 k) := cell_of_row _ _ 0 _ _ _ n1
  have k1 : w2.cell? ⟨w.heap.size, 1, none⟩ = some (.string t) := cell_of_row _ _ 1 _ _ _ n1
  have N2 := Lib.hid n2
  have N3 := Lib.hid n3
  clear n1 n2 n3
  have q0 : w2.cell? ⟨w.heap.size + 1, 0, none⟩ = some (.int .i64 0) := cell_of_row _ _ 0 _ _ _ N2.out
  have q1 : w2.cell? ⟨w.heap.size + 1, 1, none⟩ = some (.int .i64 0) := cell_of_row _ _ 1 _ _ _ N2.out
  have q2 : w2.cell? ⟨w.heap.size + 1, 2, none⟩ = some (.int .i64 0) := cell_of_row _ _ 2 _ _ _ N2.out
  have q3 : w2.cell? ⟨w.heap.size + 1, 3, none⟩ = some (.bool false) := cell_of_row _ _ 3 _ _ _ N2.out
  have q4 : w2.cell? ⟨w.heap.size + 1, 4, none⟩ = some (.string ⟨#[]⟩) := cell_of_row _ _ 4 _ _ _ N2.out
  have r0 : w2.cell? ⟨w.heap.size + 1 + 1, 0, none⟩ = some (.int .i64 0) := cell_of_row _ _ 0 _ _ _ N3.out
  have r1 : w2.cell? ⟨w.heap.size + 1 + 1, 1, none⟩ = some (.string ⟨#[]⟩) := cell_of_row _ _ 1 _ _ _ N3.out
  have f0 := Lib.frozen_of_heap N2.out 0
  have f1 := Lib.frozen_of_heap N2.out 1
  have f2 := Lib.frozen_of_heap N2.out 2
  have f3 := Lib.frozen_of_heap N2.out 3
  have f4 := Lib.frozen_of_heap N2.out 4
  have g0 := Lib.frozen_of_heap N3.out 0
  have g1 := Lib.frozen_of_heap N3.out 1
  go_wp2_with fail
  refine bodyPost_ret (v := conV ⟨0, 0, 0, 0, ⟨#[]⟩, 50⟩) (by simp [conV, results, Tryz.results14, go_sem, q0, q1, q2, q3, q4, r0, r1]) rfl ⟨by rw [HF.out], con_below b2 _ _ _ _ _ _ _⟩
set_option maxHeartbeats 1000000 in
set_option maxRecDepth 100000 in
theorem Constant_none (k : Int) (t : ByteArray) (a : Int) (hs : t.size ≤ 140737488351232) (hc : checkI k t = true) (h2 : ¬ k = 2) (h3 : ¬ k = 3) (h4 : ¬ k = 4) (h5 : ¬ k = 5) (w : World) : Calls Tryz.prog 14 #[.agg #[.int .i64 k, .string t, .int .i64 a]] w (ConQ k t w) := by
  have hf : conI k t = ⟨0, 0, 0, 0, ⟨#[]⟩, 5⟩ := by unfold conI; rw [if_neg (by rw [hc]; decide), if_neg h2, if_neg h3, if_neg h4, if_neg h5]
  have HF := Lib.hid hf
  have HC := Lib.hid hc
  clear hf hc
  have e2 : (k == 2) = false := by rw [beq_eq_false_iff_ne]; exact h2
  have e3 : (k == 3) = false := by rw [beq_eq_false_iff_ne]; exact h3
  have e4 : (k == 4) = false := by rw [beq_eq_false_iff_ne]; exact h4
  have e5 : (k == 5) = false := by rw [beq_eq_false_iff_ne]; exact h5
  clear h2 h3 h4 h5
  go_enter Tryz.func14, Tryz.ntmps14
  go_upto_region 1 with fail
  obtain ⟨b1, n1, n2, n3⟩ := box3 w (.cells #[.int .i64 k, .string t, .int .i64 a] 24) (.cells #[.int .i64 0, .int .i64 0, .int .i64 0, .bool false, .string ⟨#[]⟩] 34) (.cells #[.int .i64 0, .string ⟨#[]⟩] 36)
  generalize ((w.alloc (.cells #[.int .i64 k, .string t, .int .i64 a] 24)).alloc (.cells #[.int .i64 0, .int .i64 0, .int .i64 0, .bool false, .string ⟨#[]⟩] 34)).alloc (.cells #[.int .i64 0, .string ⟨#[]⟩] 36) = w1 at b1 n1 n2 n3 ⊢
  have l1 := (Array.getElem?_eq_some_iff.1 n1).1
  have l2 := (Array.getElem?_eq_some_iff.1 n2).1
  have l3 := (Array.getElem?_eq_some_iff.1 n3).1
  have k0 : w1.cell? ⟨w.heap.size, 0, none⟩ = some (.int .i64 k) := cell_of_row _ _ 0 _ _ _ n1
  have k1 : w1.cell? ⟨w.heap.size, 1, none⟩ = some (.string t) := cell_of_row _ _ 1 _ _ _ n1
  have k2 : w1.cell? ⟨w.heap.size, 2, none⟩ = some (.int .i64 a) := cell_of_row _ _ 2 _ _ _ n1
  have hck : ∀ W, Calls Tryz.prog 35 #[.agg #[.int .i64 k, .string t, .int .i64 a]] W fun e w' => e = .returned (.int .i64 (errIf (checkI k t))) ∧ Below W.heap.size W w' :=
    fun W => Check_any k t a hs W
  rw [HC.out] at hck
  have HCK := Lib.hid hck
  clear hck
  go_wp2_with fail
  refine (HCK.out _).mono ?_
  rintro e w2 ⟨rfl, hb2⟩
  have n1 := (hb2.block _ l1).trans n1
  have n2 := (hb2.block _ l2).trans n2
  have n3 := (hb2.block _ l3).trans n3
  have b2 := b1.trans (hb2.mono b1.size)
  clear hb2 b1 l1 l2 l3 k0 k1 k2 HCK
  have l1 := (Array.getElem?_eq_some_iff.1 n1).1
  have l2 := (Array.getElem?_eq_some_iff.1 n2).1
  have l3 := (Array.getElem?_eq_some_iff.1 n3).1
  have k0 : w2.cell? ⟨w.heap.size, 0, none⟩ = some (.int .i64 k) := cell_of_row _ _ 0 _ _ _ n1
  have k1 : w2.cell? ⟨w.heap.size, 1, none⟩ = some (.string t) := cell_of_row _ _ 1 _ _ _ n1
  have N2 := Lib.hid n2
  have N3 := Lib.hid n3
  clear n1 n2 n3
  have q0 : w2.cell? ⟨w.heap.size + 1, 0, none⟩ = some (.int .i64 0) := cell_of_row _ _ 0 _ _ _ N2.out
  have q1 : w2.cell? ⟨w.heap.size + 1, 1, none⟩ = some (.int .i64 0) := cell_of_row _ _ 1 _ _ _ N2.out
  have q2 : w2.cell? ⟨w.heap.size + 1, 2, none⟩ = some (.int .i64 0) := cell_of_row _ _ 2 _ _ _ N2.out
  have q3 : w2.cell? ⟨w.heap.size + 1, 3, none⟩ = some (.bool false) := cell_of_row _ _ 3 _ _ _ N2.out
  have q4 : w2.cell? ⟨w.heap.size + 1, 4, none⟩ = some (.string ⟨#[]⟩) := cell_of_row _ _ 4 _ _ _ N2.out
  have r0 : w2.cell? ⟨w.heap.size + 1 + 1, 0, none⟩ = some (.int .i64 0) := cell_of_row _ _ 0 _ _ _ N3.out
  have r1 : w2.cell? ⟨w.heap.size + 1 + 1, 1, none⟩ = some (.string ⟨#[]⟩) := cell_of_row _ _ 1 _ _ _ N3.out
  have f0 := Lib.frozen_of_heap N2.out 0
  have f1 := Lib.frozen_of_heap N2.out 1
  have f2 := Lib.frozen_of_heap N2.out 2
  have f3 := Lib.frozen_of_heap N2.out 3
  have f4 := Lib.frozen_of_heap N2.out 4
  have g0 := Lib.frozen_of_heap N3.out 0
  have g1 := Lib.frozen_of_heap N3.out 1
  go_wp2_with fail
  refine bodyPost_ret (v := conV ⟨0, 0, 0, 0, ⟨#[]⟩, 5⟩) (by simp [conV, results, Tryz.results14, go_sem, q0, q1, q2, q3, q4, r0, r1]) rfl ⟨by rw [HF.out], con_below b2 _ _ _ _ _ _ _⟩
set_option maxHeartbeats 1000000 in
set_option maxRecDepth 100000 in
theorem Constant_4 (t : ByteArray) (a : Int) (hs : t.size ≤ 140737488351232) (hc : checkI 4 t = true) (w : World) : Calls Tryz.prog 14 #[.agg #[.int .i64 4, .string t, .int .i64 a]] w (ConQ 4 t w) := by
  have hf : conI 4 t = ⟨3, t.size, 0, 0, t, 0⟩ := by unfold conI; rw [if_neg (by rw [hc]; decide)]; rfl
  have HF := Lib.hid hf
  have HC := Lib.hid hc
  clear hf hc
  go_enter Tryz.func14, Tryz.ntmps14
  go_upto_region 1 with fail
  obtain ⟨b1, n1, n2, n3⟩ := box3 w (.cells #[.int .i64 4, .string t, .int .i64 a] 24) (.cells #[.int .i64 0, .int .i64 0, .int .i64 0, .bool false, .string ⟨#[]⟩] 34) (.cells #[.int .i64 0, .string ⟨#[]⟩] 36)
  generalize ((w.alloc (.cells #[.int .i64 4, .string t, .int .i64 a] 24)).alloc (.cells #[.int .i64 0, .int .i64 0, .int .i64 0, .bool false, .string ⟨#[]⟩] 34)).alloc (.cells #[.int .i64 0, .string ⟨#[]⟩] 36) = w1 at b1 n1 n2 n3 ⊢
  have l1 := (Array.getElem?_eq_some_iff.1 n1).1
  have l2 := (Array.getElem?_eq_some_iff.1 n2).1
  have l3 := (Array.getElem?_eq_some_iff.1 n3).1
  have k0 : w1.cell? ⟨w.heap.size, 0, none⟩ = some (.int .i64 4) := cell_of_row _ _ 0 _ _ _ n1
  have k1 : w1.cell? ⟨w.heap.size, 1, none⟩ = some (.string t) := cell_of_row _ _ 1 _ _ _ n1
  have k2 : w1.cell? ⟨w.heap.size, 2, none⟩ = some (.int .i64 a) := cell_of_row _ _ 2 _ _ _ n1
  have hck : ∀ W, Calls Tryz.prog 35 #[.agg #[.int .i64 4, .string t, .int .i64 a]] W fun e w' => e = .returned (.int .i64 (errIf (checkI 4 t))) ∧ Below W.heap.size W w' :=
    fun W => Check_any 4 t a hs W
  rw [HC.out] at hck
  have HCK := Lib.hid hck
  clear hck
  go_wp2_with fail
  refine (HCK.out _).mono ?_
  rintro e w2 ⟨rfl, hb2⟩
  have n1 := (hb2.block _ l1).trans n1
  have n2 := (hb2.block _ l2).trans n2
  have n3 := (hb2.block _ l3).trans n3
  have b2 := b1.trans (hb2.mono b1.size)
  clear hb2 b1 l1 l2 l3 k0 k1 k2 HCK
  have l1 := (Array.getElem?_eq_some_iff.1 n1).1
  have l2 := (Array.getElem?_eq_some_iff.1 n2).1
  have l3 := (Array.getElem?_eq_some_iff.1 n3).1
  have k0 : w2.cell? ⟨w.heap.size, 0, none⟩ = some (.int .i64 4) := cell_of_row _ _ 0 _ _ _ n1
  have k1 : w2.cell? ⟨w.heap.size, 1, none⟩ = some (.string t) := cell_of_row _ _ 1 _ _ _ n1
  have N2 := Lib.hid n2
  have N3 := Lib.hid n3
  clear n1 n2 n3
  have q0 : w2.cell? ⟨w.heap.size + 1, 0, none⟩ = some (.int .i64 0) := cell_of_row _ _ 0 _ _ _ N2.out
  have q1 : w2.cell? ⟨w.heap.size + 1, 1, none⟩ = some (.int .i64 0) := cell_of_row _ _ 1 _ _ _ N2.out
  have q2 : w2.cell? ⟨w.heap.size + 1, 2, none⟩ = some (.int .i64 0) := cell_of_row _ _ 2 _ _ _ N2.out
  have q3 : w2.cell? ⟨w.heap.size + 1, 3, none⟩ = some (.bool false) := cell_of_row _ _ 3 _ _ _ N2.out
  have q4 : w2.cell? ⟨w.heap.size + 1, 4, none⟩ = some (.string ⟨#[]⟩) := cell_of_row _ _ 4 _ _ _ N2.out
  have r0 : w2.cell? ⟨w.heap.size + 1 + 1, 0, none⟩ = some (.int .i64 0) := cell_of_row _ _ 0 _ _ _ N3.out
  have r1 : w2.cell? ⟨w.heap.size + 1 + 1, 1, none⟩ = some (.string ⟨#[]⟩) := cell_of_row _ _ 1 _ _ _ N3.out
  have f0 := Lib.frozen_of_heap N2.out 0
  have f1 := Lib.frozen_of_heap N2.out 1
  have f2 := Lib.frozen_of_heap N2.out 2
  have f3 := Lib.frozen_of_heap N2.out 3
  have f4 := Lib.frozen_of_heap N2.out 4
  have g0 := Lib.frozen_of_heap N3.out 0
  have g1 := Lib.frozen_of_heap N3.out 1
  go_upto_region 10 with fail
  have F1 := far7 (B := w.heap.size) (b := w.heap.size) (by omega) (by omega)
  go_region_held3 (fun w' => w'.cell? ⟨w.heap.size, 1, none⟩ = some (.string t)) (go_keep) (first | fail)
  go_wp2_with fail
  refine bodyPost_ret (v := conV ⟨3, t.size, 0, 0, t, 0⟩) (by simp [conV, results, Tryz.results14, go_sem, q0, q1, q2, q3, q4, r0, r1]) rfl ⟨by rw [HF.out], (con_below b2 _ _ _ _ _ _ _).drew⟩
set_option maxHeartbeats 1000000 in
set_option maxRecDepth 100000 in
theorem Constant_5 (t : ByteArray) (a : Int) (hs : t.size ≤ 140737488351232) (hc : checkI 5 t = true) (w : World) : Calls Tryz.prog 14 #[.agg #[.int .i64 5, .string t, .int .i64 a]] w (ConQ 5 t w) := by
  have hf : conI 5 t = ⟨4, t.size, 0, 0, t, 0⟩ := by unfold conI; rw [if_neg (by rw [hc]; decide)]; rfl
  have HF := Lib.hid hf
  have HC := Lib.hid hc
  clear hf hc
  go_enter Tryz.func14, Tryz.ntmps14
  go_upto_region 1 with fail
  obtain ⟨b1, n1, n2, n3⟩ := box3 w (.cells #[.int .i64 5, .string t, .int .i64 a] 24) (.cells #[.int .i64 0, .int .i64 0, .int .i64 0, .bool false, .string ⟨#[]⟩] 34) (.cells #[.int .i64 0, .string ⟨#[]⟩] 36)
  generalize ((w.alloc (.cells #[.int .i64 5, .string t, .int .i64 a] 24)).alloc (.cells #[.int .i64 0, .int .i64 0, .int .i64 0, .bool false, .string ⟨#[]⟩] 34)).alloc (.cells #[.int .i64 0, .string ⟨#[]⟩] 36) = w1 at b1 n1 n2 n3 ⊢
  have l1 := (Array.getElem?_eq_some_iff.1 n1).1
  have l2 := (Array.getElem?_eq_some_iff.1 n2).1
  have l3 := (Array.getElem?_eq_some_iff.1 n3).1
  have k0 : w1.cell? ⟨w.heap.size, 0, none⟩ = some (.int .i64 5) := cell_of_row _ _ 0 _ _ _ n1
  have k1 : w1.cell? ⟨w.heap.size, 1, none⟩ = some (.string t) := cell_of_row _ _ 1 _ _ _ n1
  have k2 : w1.cell? ⟨w.heap.size, 2, none⟩ = some (.int .i64 a) := cell_of_row _ _ 2 _ _ _ n1
  have hck : ∀ W, Calls Tryz.prog 35 #[.agg #[.int .i64 5, .string t, .int .i64 a]] W fun e w' => e = .returned (.int .i64 (errIf (checkI 5 t))) ∧ Below W.heap.size W w' :=
    fun W => Check_any 5 t a hs W
  rw [HC.out] at hck
  have HCK := Lib.hid hck
  clear hck
  go_wp2_with fail
  refine (HCK.out _).mono ?_
  rintro e w2 ⟨rfl, hb2⟩
  have n1 := (hb2.block _ l1).trans n1
  have n2 := (hb2.block _ l2).trans n2
  have n3 := (hb2.block _ l3).trans n3
  have b2 := b1.trans (hb2.mono b1.size)
  clear hb2 b1 l1 l2 l3 k0 k1 k2 HCK
  have l1 := (Array.getElem?_eq_some_iff.1 n1).1
  have l2 := (Array.getElem?_eq_some_iff.1 n2).1
  have l3 := (Array.getElem?_eq_some_iff.1 n3).1
  have k0 : w2.cell? ⟨w.heap.size, 0, none⟩ = some (.int .i64 5) := cell_of_row _ _ 0 _ _ _ n1
  have k1 : w2.cell? ⟨w.heap.size, 1, none⟩ = some (.string t) := cell_of_row _ _ 1 _ _ _ n1
  have N2 := Lib.hid n2
  have N3 := Lib.hid n3
  clear n1 n2 n3
  have q0 : w2.cell? ⟨w.heap.size + 1, 0, none⟩ = some (.int .i64 0) := cell_of_row _ _ 0 _ _ _ N2.out
  have q1 : w2.cell? ⟨w.heap.size + 1, 1, none⟩ = some (.int .i64 0) := cell_of_row _ _ 1 _ _ _ N2.out
  have q2 : w2.cell? ⟨w.heap.size + 1, 2, none⟩ = some (.int .i64 0) := cell_of_row _ _ 2 _ _ _ N2.out
  have q3 : w2.cell? ⟨w.heap.size + 1, 3, none⟩ = some (.bool false) := cell_of_row _ _ 3 _ _ _ N2.out
  have q4 : w2.cell? ⟨w.heap.size + 1, 4, none⟩ = some (.string ⟨#[]⟩) := cell_of_row _ _ 4 _ _ _ N2.out
  have r0 : w2.cell? ⟨w.heap.size + 1 + 1, 0, none⟩ = some (.int .i64 0) := cell_of_row _ _ 0 _ _ _ N3.out
  have r1 : w2.cell? ⟨w.heap.size + 1 + 1, 1, none⟩ = some (.string ⟨#[]⟩) := cell_of_row _ _ 1 _ _ _ N3.out
  have f0 := Lib.frozen_of_heap N2.out 0
  have f1 := Lib.frozen_of_heap N2.out 1
  have f2 := Lib.frozen_of_heap N2.out 2
  have f3 := Lib.frozen_of_heap N2.out 3
  have f4 := Lib.frozen_of_heap N2.out 4
  have g0 := Lib.frozen_of_heap N3.out 0
  have g1 := Lib.frozen_of_heap N3.out 1
  go_upto_region 12 with fail
  have F1 := far7 (B := w.heap.size) (b := w.heap.size) (by omega) (by omega)
  go_region_held3 (fun w' => w'.cell? ⟨w.heap.size, 1, none⟩ = some (.string t)) (go_keep) (first | fail)
  go_wp2_with fail
  refine bodyPost_ret (v := conV ⟨4, t.size, 0, 0, t, 0⟩) (by simp [conV, results, Tryz.results14, go_sem, q0, q1, q2, q3, q4, r0, r1]) rfl ⟨by rw [HF.out], (con_below b2 _ _ _ _ _ _ _).drew⟩
set_option maxHeartbeats 1000000 in
set_option maxRecDepth 100000 in
theorem Constant_3 (t : ByteArray) (a : Int) (hs : t.size ≤ 140737488351232) (hc : checkI 3 t = true) (hs31 : t.size ≤ 31) (hb : allI bitI t = true) (w : World) : Calls Tryz.prog 14 #[.agg #[.int .i64 3, .string t, .int .i64 a]] w (ConQ 3 t w) := by
  have hn := bits_chars t hb
  have hf : conI 3 t = ⟨2, t.size, 0, valL 2 t.data.toList 0, ⟨#[]⟩, 0⟩ := by unfold conI; rw [if_neg (by rw [hc]; decide)]; rfl
  have HF := Lib.hid hf
  have HC := Lib.hid hc
  clear hf hc
  have hval : ∀ W, Calls Tryz.prog 49 #[.string t, .int .i64 2] W fun e w' => e = .returned (.int .i64 (valL 2 t.data.toList 0)) ∧ Below W.heap.size W w' :=
    fun W => value_any t 2 (by omega) (by omega) (Nat.le_trans (Nat.pow_le_pow_right (by decide) hs31) (by decide)) hn W
  have HV := Lib.hid hval
  clear hval hn hb hs31
  go_enter Tryz.func14, Tryz.ntmps14
  go_upto_region 1 with fail
  obtain ⟨b1, n1, n2, n3⟩ := box3 w (.cells #[.int .i64 3, .string t, .int .i64 a] 24) (.cells #[.int .i64 0, .int .i64 0, .int .i64 0, .bool false, .string ⟨#[]⟩] 34) (.cells #[.int .i64 0, .string ⟨#[]⟩] 36)
  generalize ((w.alloc (.cells #[.int .i64 3, .string t, .int .i64 a] 24)).alloc (.cells #[.int .i64 0, .int .i64 0, .int .i64 0, .bool false, .string ⟨#[]⟩] 34)).alloc (.cells #[.int .i64 0, .string ⟨#[]⟩] 36) = w1 at b1 n1 n2 n3 ⊢
  have l1 := (Array.getElem?_eq_some_iff.1 n1).1
  have l2 := (Array.getElem?_eq_some_iff.1 n2).1
  have l3 := (Array.getElem?_eq_some_iff.1 n3).1
  have k0 : w1.cell? ⟨w.heap.size, 0, none⟩ = some (.int .i64 3) := cell_of_row _ _ 0 _ _ _ n1
  have k1 : w1.cell? ⟨w.heap.size, 1, none⟩ = some (.string t) := cell_of_row _ _ 1 _ _ _ n1
  have k2 : w1.cell? ⟨w.heap.size, 2, none⟩ = some (.int .i64 a) := cell_of_row _ _ 2 _ _ _ n1
  have hck : ∀ W, Calls Tryz.prog 35 #[.agg #[.int .i64 3, .string t, .int .i64 a]] W fun e w' => e = .returned (.int .i64 (errIf (checkI 3 t))) ∧ Below W.heap.size W w' :=
    fun W => Check_any 3 t a hs W
  rw [HC.out] at hck
  have HCK := Lib.hid hck
  clear hck
  go_wp2_with fail
  refine (HCK.out _).mono ?_
  rintro e w2 ⟨rfl, hb2⟩
  have n1 := (hb2.block _ l1).trans n1
  have n2 := (hb2.block _ l2).trans n2
  have n3 := (hb2.block _ l3).trans n3
  have b2 := b1.trans (hb2.mono b1.size)
  clear hb2 b1 l1 l2 l3 k0 k1 k2 HCK
  have l1 := (Array.getElem?_eq_some_iff.1 n1).1
  have l2 := (Array.getElem?_eq_some_iff.1 n2).1
  have l3 := (Array.getElem?_eq_some_iff.1 n3).1
  have k0 : w2.cell? ⟨w.heap.size, 0, none⟩ = some (.int .i64 3) := cell_of_row _ _ 0 _ _ _ n1
  have k1 : w2.cell? ⟨w.heap.size, 1, none⟩ = some (.string t) := cell_of_row _ _ 1 _ _ _ n1
  have N2 := Lib.hid n2
  have N3 := Lib.hid n3
  clear n1 n2 n3
  have q0 : w2.cell? ⟨w.heap.size + 1, 0, none⟩ = some (.int .i64 0) := cell_of_row _ _ 0 _ _ _ N2.out
  have q1 : w2.cell? ⟨w.heap.size + 1, 1, none⟩ = some (.int .i64 0) := cell_of_row _ _ 1 _ _ _ N2.out
  have q2 : w2.cell? ⟨w.heap.size + 1, 2, none⟩ = some (.int .i64 0) := cell_of_row _ _ 2 _ _ _ N2.out
  have q3 : w2.cell? ⟨w.heap.size + 1, 3, none⟩ = some (.bool false) := cell_of_row _ _ 3 _ _ _ N2.out
  have q4 : w2.cell? ⟨w.heap.size + 1, 4, none⟩ = some (.string ⟨#[]⟩) := cell_of_row _ _ 4 _ _ _ N2.out
  have r0 : w2.cell? ⟨w.heap.size + 1 + 1, 0, none⟩ = some (.int .i64 0) := cell_of_row _ _ 0 _ _ _ N3.out
  have r1 : w2.cell? ⟨w.heap.size + 1 + 1, 1, none⟩ = some (.string ⟨#[]⟩) := cell_of_row _ _ 1 _ _ _ N3.out
  have f0 := Lib.frozen_of_heap N2.out 0
  have f1 := Lib.frozen_of_heap N2.out 1
  have f2 := Lib.frozen_of_heap N2.out 2
  have f3 := Lib.frozen_of_heap N2.out 3
  have f4 := Lib.frozen_of_heap N2.out 4
  have g0 := Lib.frozen_of_heap N3.out 0
  have g1 := Lib.frozen_of_heap N3.out 1
  go_upto_region 8 with fail
  have F1 := far7 (B := w.heap.size) (b := w.heap.size) (by omega) (by omega)
  have ARM : ∀ w3, Below w2.heap.size w2 w3 → w3.cell? ⟨w.heap.size, 1, none⟩ = some (.string t) := fun w3 h => (h.cell (p := ⟨w.heap.size, 1, none⟩) l1).trans k1
  have HARM := Lib.hid ARM
  clear ARM
  go_region_held3 (fun w' => w'.cell? ⟨w.heap.size, 1, none⟩ = some (.string t)) (go_keep) (first
    | (go_at_call 49; refine (HV.out _).mono ?_; rintro e w3 ⟨rfl, hb3⟩; have k9 := HARM.out w3 ((below_drewN (Below.refl _ _) _).trans hb3); have N2' := Lib.hid ((hb3.block _ l2).trans N2.out); have N3' := Lib.hid ((hb3.block _ l3).trans N3.out); clear q0 q1 q2 q3 q4 r0 r1 f0 f1 f2 f3 f4 g0 g1; have q0 : w3.cell? ⟨w.heap.size + 1, 0, none⟩ = some (.int .i64 0) := cell_of_row _ _ 0 _ _ _ N2'.out; have q1 : w3.cell? ⟨w.heap.size + 1, 1, none⟩ = some (.int .i64 0) := cell_of_row _ _ 1 _ _ _ N2'.out; have q2 : w3.cell? ⟨w.heap.size + 1, 2, none⟩ = some (.int .i64 0) := cell_of_row _ _ 2 _ _ _ N2'.out; have q3 : w3.cell? ⟨w.heap.size + 1, 3, none⟩ = some (.bool false) := cell_of_row _ _ 3 _ _ _ N2'.out; have q4 : w3.cell? ⟨w.heap.size + 1, 4, none⟩ = some (.string ⟨#[]⟩) := cell_of_row _ _ 4 _ _ _ N2'.out; have r0 : w3.cell? ⟨w.heap.size + 1 + 1, 0, none⟩ = some (.int .i64 0) := cell_of_row _ _ 0 _ _ _ N3'.out; have r1 : w3.cell? ⟨w.heap.size + 1 + 1, 1, none⟩ = some (.string ⟨#[]⟩) := cell_of_row _ _ 1 _ _ _ N3'.out; have f0 := Lib.frozen_of_heap N2'.out 0; have f1 := Lib.frozen_of_heap N2'.out 1; have f2 := Lib.frozen_of_heap N2'.out 2; have f3 := Lib.frozen_of_heap N2'.out 3; have f4 := Lib.frozen_of_heap N2'.out 4; have g0 := Lib.frozen_of_heap N3'.out 0; have g1 := Lib.frozen_of_heap N3'.out 1))
  go_wp2_with fail
  refine bodyPost_ret (v := conV ⟨2, t.size, 0, valL 2 t.data.toList 0, ⟨#[]⟩, 0⟩) (by simp [conV, results, Tryz.results14, go_sem, q0, q1, q2, q3, q4, r0, r1]) rfl ⟨by rw [HF.out], con_below (b2.trans (((below_drewN (Below.refl _ _) _).trans hb3).mono b2.size)) _ _ _ _ _ _ _⟩
set_option maxHeartbeats 1000000 in
set_option maxRecDepth 100000 in
theorem Constant_2 (t : ByteArray) (a : Int) (hs : t.size ≤ 140737488351232) (hc : checkI 2 t = true) (hc0 : (numR t).2.2 = true) (w : World) : Calls Tryz.prog 14 #[.agg #[.int .i64 2, .string t, .int .i64 a]] w (ConQ 2 t w) := by
  have hn := numR_chars t hc0
  have hf : conI 2 t = ⟨1, (numR t).1, (numR t).2.1, valL 10 t.data.toList 0, ⟨#[]⟩, 0⟩ := by unfold conI; rw [if_neg (by rw [hc]; decide)]; rfl
  have HF := Lib.hid hf
  have HC := Lib.hid hc
  clear hf hc
  have hval : ∀ W, Calls Tryz.prog 49 #[.string t, .int .i64 10] W fun e w' => e = .returned (.int .i64 (valL 10 t.data.toList 0)) ∧ Below W.heap.size W w' :=
    fun W => value_any t 10 (by omega) (by omega) (Nat.le_trans (Nat.pow_le_pow_right (by decide) hn.1) (by decide)) hn.2 W
  have HV := Lib.hid hval
  clear hval hn
  go_enter Tryz.func14, Tryz.ntmps14
  go_upto_region 1 with fail
  obtain ⟨b1, n1, n2, n3⟩ := box3 w (.cells #[.int .i64 2, .string t, .int .i64 a] 24) (.cells #[.int .i64 0, .int .i64 0, .int .i64 0, .bool false, .string ⟨#[]⟩] 34) (.cells #[.int .i64 0, .string ⟨#[]⟩] 36)
  generalize ((w.alloc (.cells #[.int .i64 2, .string t, .int .i64 a] 24)).alloc (.cells #[.int .i64 0, .int .i64 0, .int .i64 0, .bool false, .string ⟨#[]⟩] 34)).alloc (.cells #[.int .i64 0, .string ⟨#[]⟩] 36) = w1 at b1 n1 n2 n3 ⊢
  have l1 := (Array.getElem?_eq_some_iff.1 n1).1
  have l2 := (Array.getElem?_eq_some_iff.1 n2).1
  have l3 := (Array.getElem?_eq_some_iff.1 n3).1
  have k0 : w1.cell? ⟨w.heap.size, 0, none⟩ = some (.int .i64 2) := cell_of_row _ _ 0 _ _ _ n1
  have k1 : w1.cell? ⟨w.heap.size, 1, none⟩ = some (.string t) := cell_of_row _ _ 1 _ _ _ n1
  have k2 : w1.cell? ⟨w.heap.size, 2, none⟩ = some (.int .i64 a) := cell_of_row _ _ 2 _ _ _ n1
  have hck : ∀ W, Calls Tryz.prog 35 #[.agg #[.int .i64 2, .string t, .int .i64 a]] W fun e w' => e = .returned (.int .i64 (errIf (checkI 2 t))) ∧ Below W.heap.size W w' :=
    fun W => Check_any 2 t a hs W
  rw [HC.out] at hck
  have HCK := Lib.hid hck
  clear hck
  go_wp2_with fail
  refine (HCK.out _).mono ?_
  rintro e w2 ⟨rfl, hb2⟩
  have n1 := (hb2.block _ l1).trans n1
  have n2 := (hb2.block _ l2).trans n2
  have n3 := (hb2.block _ l3).trans n3
  have b2 := b1.trans (hb2.mono b1.size)
  clear hb2 b1 l1 l2 l3 k0 k1 k2 HCK
  have l1 := (Array.getElem?_eq_some_iff.1 n1).1
  have l2 := (Array.getElem?_eq_some_iff.1 n2).1
  have l3 := (Array.getElem?_eq_some_iff.1 n3).1
  have k0 : w2.cell? ⟨w.heap.size, 0, none⟩ = some (.int .i64 2) := cell_of_row _ _ 0 _ _ _ n1
  have k1 : w2.cell? ⟨w.heap.size, 1, none⟩ = some (.string t) := cell_of_row _ _ 1 _ _ _ n1
  have N2 := Lib.hid n2
  have N3 := Lib.hid n3
  clear n1 n2 n3
  have q0 : w2.cell? ⟨w.heap.size + 1, 0, none⟩ = some (.int .i64 0) := cell_of_row _ _ 0 _ _ _ N2.out
  have q1 : w2.cell? ⟨w.heap.size + 1, 1, none⟩ = some (.int .i64 0) := cell_of_row _ _ 1 _ _ _ N2.out
  have q2 : w2.cell? ⟨w.heap.size + 1, 2, none⟩ = some (.int .i64 0) := cell_of_row _ _ 2 _ _ _ N2.out
  have q3 : w2.cell? ⟨w.heap.size + 1, 3, none⟩ = some (.bool false) := cell_of_row _ _ 3 _ _ _ N2.out
  have q4 : w2.cell? ⟨w.heap.size + 1, 4, none⟩ = some (.string ⟨#[]⟩) := cell_of_row _ _ 4 _ _ _ N2.out
  have r0 : w2.cell? ⟨w.heap.size + 1 + 1, 0, none⟩ = some (.int .i64 0) := cell_of_row _ _ 0 _ _ _ N3.out
  have r1 : w2.cell? ⟨w.heap.size + 1 + 1, 1, none⟩ = some (.string ⟨#[]⟩) := cell_of_row _ _ 1 _ _ _ N3.out
  have f0 := Lib.frozen_of_heap N2.out 0
  have f1 := Lib.frozen_of_heap N2.out 1
  have f2 := Lib.frozen_of_heap N2.out 2
  have f3 := Lib.frozen_of_heap N2.out 3
  have f4 := Lib.frozen_of_heap N2.out 4
  have g0 := Lib.frozen_of_heap N3.out 0
  have g1 := Lib.frozen_of_heap N3.out 1
  go_wp2_with (go_at_call 48; refine (number_any' t hs _).mono ?_; rintro e w' ⟨rfl, hw⟩; rw [hw]; clear hw)
  refine (HV.out _).mono ?_
  rintro e w3 ⟨rfl, hb3⟩
  have b3 := b2.trans (hb3.mono b2.size)
  have N2' := Lib.hid ((hb3.block _ l2).trans N2.out)
  have N3' := Lib.hid ((hb3.block _ l3).trans N3.out)
  clear hb3 k0 k1 q0 q1 q2 q3 q4 r0 r1 f0 f1 f2 f3 f4 g0 g1
  have q0 : w3.cell? ⟨w.heap.size + 1, 0, none⟩ = some (.int .i64 0) := cell_of_row _ _ 0 _ _ _ N2'.out
  have q1 : w3.cell? ⟨w.heap.size + 1, 1, none⟩ = some (.int .i64 0) := cell_of_row _ _ 1 _ _ _ N2'.out
  have q2 : w3.cell? ⟨w.heap.size + 1, 2, none⟩ = some (.int .i64 0) := cell_of_row _ _ 2 _ _ _ N2'.out
  have q3 : w3.cell? ⟨w.heap.size + 1, 3, none⟩ = some (.bool false) := cell_of_row _ _ 3 _ _ _ N2'.out
  have q4 : w3.cell? ⟨w.heap.size + 1, 4, none⟩ = some (.string ⟨#[]⟩) := cell_of_row _ _ 4 _ _ _ N2'.out
  have r0 : w3.cell? ⟨w.heap.size + 1 + 1, 0, none⟩ = some (.int .i64 0) := cell_of_row _ _ 0 _ _ _ N3'.out
  have r1 : w3.cell? ⟨w.heap.size + 1 + 1, 1, none⟩ = some (.string ⟨#[]⟩) := cell_of_row _ _ 1 _ _ _ N3'.out
  have f0 := Lib.frozen_of_heap N2'.out 0
  have f1 := Lib.frozen_of_heap N2'.out 1
  have f2 := Lib.frozen_of_heap N2'.out 2
  have f3 := Lib.frozen_of_heap N2'.out 3
  have f4 := Lib.frozen_of_heap N2'.out 4
  have g0 := Lib.frozen_of_heap N3'.out 0
  have g1 := Lib.frozen_of_heap N3'.out 1
  go_wp2_with fail
  refine bodyPost_ret (v := conV ⟨1, (numR t).1, (numR t).2.1, valL 10 t.data.toList 0, ⟨#[]⟩, 0⟩) (by simp [conV, results, Tryz.results14, go_sem, q0, q1, q2, q3, q4, r0, r1]) rfl ⟨by rw [HF.out], con_below b3 _ _ _ _ _ _ _⟩
end Go.Proofs.YtafofcenphopbaaGreatDoor
