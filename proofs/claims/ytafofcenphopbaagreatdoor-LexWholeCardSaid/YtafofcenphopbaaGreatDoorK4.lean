/- IndexFunc and ContainsFunc of tokens that begin at a place. -/
import Derived.Test.YtafofcenphopbaaGreatDoorK3
namespace Go.Proofs.YtafofcenphopbaaGreatDoor
open Go.RowKit Lx

/-- Does a token begin there? -/
def atIs (x : Int) (t : T3) : Bool := t.at_ == x
def fAt (x : Int) : List T3 → Nat → Int
  | [], _ => -1
  | t :: r, k => if atIs x t = true then (k : Int) else fAt x r (k + 1)
theorem fAt_cons (x : Int) (t : T3) (r : List T3) (k : Nat) : fAt x (t :: r) k = if atIs x t = true then (k : Int) else fAt x r (k + 1) := rfl
theorem fAt_skip (x : Int) (l : List T3) : ∀ (k j : Nat), j ≤ l.length → (∀ i, i < j → atIs x l[i]! = false) → fAt x l k = fAt x (l.drop j) (k + j) := by
  induction l with
  | nil => intro k j hj _; have : j = 0 := by simpa using hj
           subst this; rfl
  | cons t r ih =>
    intro k j hj h
    cases j with
    | zero => rfl
    | succ j =>
      have h0 := h 0 (by omega)
      rw [fAt_cons, if_neg (by rw [show (t :: r)[0]! = t from rfl] at h0; rw [h0]; decide), List.drop_succ_cons, ih (k + 1) j (by simpa using hj) (fun i hi => by have := h (i + 1) (by omega); simpa using this), Nat.add_right_comm, Nat.add_assoc]
/-- What it finds: an index that is the first one, or none. -/
theorem fAt_spec (x : Int) (l : List T3) : ∀ k, (fAt x l k = -1 ∧ ∀ t ∈ l, t.at_ ≠ x) ∨ ∃ j, j < l.length ∧ fAt x l k = ((k + j : Nat) : Int) ∧ l[j]!.at_ = x := by
  induction l with
  | nil => intro k; exact .inl ⟨rfl, fun t h => by cases h⟩
  | cons t r ih =>
    intro k
    rw [fAt_cons]
    by_cases h : atIs x t = true
    · rw [if_pos h]
      exact .inr ⟨0, by simp, rfl, by unfold atIs at h; simpa using h⟩
    · rw [if_neg h]
      rcases ih (k + 1) with ⟨h1, h2⟩ | ⟨j, h1, h2, h3⟩
      · refine .inl ⟨h1, fun u hu => ?_⟩
        rcases List.mem_cons.1 hu with rfl | hu
        · unfold atIs at h; simpa using h
        · exact h2 u hu
      · exact .inr ⟨j + 1, by simpa using h1, by rw [h2]; congr 1; omega, by simpa using h3⟩
set_option maxHeartbeats 400000 in
theorem whole1_any (t : T3) (pb : Nat) (x : Int) (w : World) (hx : w.cell? ⟨pb, 0, none⟩ = some (.int .i64 x)) (hpb : pb < w.heap.size) : Calls Tryz.prog 26 #[tokA t, .pointer (some ⟨pb, 0, none⟩)] w fun e w' => e = .returned (.bool (atIs x t)) ∧ Below w.heap.size w w' := by
  obtain ⟨k, t, a⟩ := t
  have b1 := below_box w (.cells #[.int .i64 k, .string t, .int .i64 a] 24)
  have hx1 := (b1.cell (p := ⟨pb, 0, none⟩) hpb).trans hx
  unfold tokA atIs
  clear hx
  go_enter Tryz.func26, Tryz.ntmps26
  go_upto_region 1 with fail
  have n1 := heap_alloc_new w (.cells #[.int .i64 k, .string t, .int .i64 a] 24)
  generalize w.alloc (.cells #[.int .i64 k, .string t, .int .i64 a] 24) = w1 at b1 hx1 n1 ⊢
  have k2 : w1.cell? ⟨w.heap.size, 2, none⟩ = some (.int .i64 a) := cell_of_row _ _ 2 _ _ _ n1
  clear n1
  go_wp2_with fail
  go_ret
  exact ⟨rfl, b1⟩
set_option maxHeartbeats 1000000 in
set_option maxRecDepth 100000 in
theorem Index_whole1 (v : Value) (ts : List T3) (pb : Nat) (x : Int) (w : World) (h : TokRow w v ts) (hn : ts.length ≤ 9223372036854775807) (hx : w.cell? ⟨pb, 0, none⟩ = some (.int .i64 x)) (hpb : pb < w.heap.size) :
    Calls Tryz.prog 25 #[v, .func (.func 26) #[] #[.pointer (some ⟨pb, 0, none⟩)]] w fun e w' => e = .returned (.int .i64 (fAt x ts 0)) ∧ Below w.heap.size w w' := by
  obtain ⟨ao, cap, rfl, h⟩ := h
  have HX := Lib.hid hx
  clear hx
  go_enter Tryz.func25, Tryz.ntmps25
  go_wp2_with fail
  generalize hnn : ts.length = n at h hn ⊢
  have HN := Lib.hid hnn
  have H1 := Lib.hid h
  clear hnn h
  go_loopg [8] n (fun gg q wr => ∃ kk : Nat, kk ≤ n ∧ n - kk ≤ gg ∧ q = .int .i64 kk ∧ Aside (Below w.heap.size w wr) ∧ Aside (∀ j, j < kk → atIs x ts[j]! = false))
  case atStart => exact ⟨0, Nat.zero_le _, by omega, rfl, Below.refl _ w, fun j hj => absurd hj (Nat.not_lt_zero _)⟩
  case round =>
    obtain ⟨kk, hkk, hg, rfl, BW, A⟩ := hrel
    by_cases hlt : kk < n
    · have hltz : (kk : Int) < (n : Int) := by omega
      obtain ⟨b1, o1, rfl, l1, c1⟩ := H1.out (by intro e; have := HN.out; rw [e] at this; simp at this; omega)
      have r1 := tok_cells c1 l1 BW.out kk hlt
      clear c1 l1
      generalize hxk : ts[kk]! = y at r1
      have X : Aside (ts[kk]! = y) := hxk
      clear hxk
      obtain ⟨p0, p1, p2⟩ := r1
      have hcall := fun W (hW : W.cell? ⟨pb, 0, none⟩ = some (.int .i64 x)) (hp : pb < W.heap.size) => whole1_any y pb x W hW hp
      unfold tokA at hcall
      have HC := Lib.hid hcall
      clear hcall
      go_wp2_with fail
      refine (HC.out _ ((BW.out.cell (p := ⟨pb, 0, none⟩) hpb).trans HX.out) (Nat.lt_of_lt_of_le hpb BW.out.size)).mono ?_
      rintro e w' ⟨rfl, hb⟩
      have bb := BW.out.trans (hb.mono BW.out.size)
      cases hq : atIs x y with
      | true =>
        go_wp2_with fail
        go_ret
        refine ⟨?_, bb⟩
        have hk : kk < ts.length := by rw [HN.out]; exact hlt
        rw [fAt_skip x ts 0 kk (by omega) A.out, Nat.zero_add, List.drop_eq_getElem_cons hk]
        have hx : ts[kk] = y := by rw [← X.out, getElem!_pos ts kk hk]
        rw [fAt_cons, hx, if_pos hq]; rfl
      | false =>
        go_wp2_with fail
        go_roundg (n - (kk + 1))
        case measure => omega
        case rel =>
          refine ⟨kk + 1, by omega, by omega, by go_num, bb, (show Aside _ from fun j hj => ?_)⟩
          by_cases e : j = kk
          · subst e
            rw [X.out]; exact hq
          · exact A.out j (by omega)
    · have hltz : ¬ (kk : Int) < (n : Int) := by omega
      have hke : kk = n := by omega
      subst hke
      have hfin : fAt x ts 0 = -1 := by
        rw [fAt_skip x ts 0 kk (by rw [HN.out]; exact Nat.le_refl _) A.out, List.drop_of_length_le (by rw [HN.out]; exact Nat.le_refl _)]; rfl
      have HF := Lib.hid hfin
      clear hfin
      go_wp2_with fail
      go_ret
      exact ⟨by rw [HF.out]; rfl, BW.out⟩
set_option maxHeartbeats 400000 in
theorem long1_any (t : T3) (pb : Nat) (x : Int) (w : World) (hx : w.cell? ⟨pb, 0, none⟩ = some (.int .i64 x)) (hpb : pb < w.heap.size) : Calls Tryz.prog 22 #[tokA t, .pointer (some ⟨pb, 0, none⟩)] w fun e w' => e = .returned (.bool (atIs x t)) ∧ Below w.heap.size w w' := by
  obtain ⟨k, t, a⟩ := t
  have b1 := below_box w (.cells #[.int .i64 k, .string t, .int .i64 a] 24)
  have hx1 := (b1.cell (p := ⟨pb, 0, none⟩) hpb).trans hx
  unfold tokA atIs
  clear hx
  go_enter Tryz.func22, Tryz.ntmps22
  go_upto_region 1 with fail
  have n1 := heap_alloc_new w (.cells #[.int .i64 k, .string t, .int .i64 a] 24)
  generalize w.alloc (.cells #[.int .i64 k, .string t, .int .i64 a] 24) = w1 at b1 hx1 n1 ⊢
  have k2 : w1.cell? ⟨w.heap.size, 2, none⟩ = some (.int .i64 a) := cell_of_row _ _ 2 _ _ _ n1
  clear n1
  go_wp2_with fail
  go_ret
  exact ⟨rfl, b1⟩
set_option maxHeartbeats 1000000 in
set_option maxRecDepth 100000 in
theorem Index_long1 (v : Value) (ts : List T3) (pb : Nat) (x : Int) (w : World) (h : TokRow w v ts) (hn : ts.length ≤ 9223372036854775807) (hx : w.cell? ⟨pb, 0, none⟩ = some (.int .i64 x)) (hpb : pb < w.heap.size) :
    Calls Tryz.prog 25 #[v, .func (.func 22) #[] #[.pointer (some ⟨pb, 0, none⟩)]] w fun e w' => e = .returned (.int .i64 (fAt x ts 0)) ∧ Below w.heap.size w w' := by
  obtain ⟨ao, cap, rfl, h⟩ := h
  have HX := Lib.hid hx
  clear hx
  go_enter Tryz.func25, Tryz.ntmps25
  go_wp2_with fail
  generalize hnn : ts.length = n at h hn ⊢
  have HN := Lib.hid hnn
  have H1 := Lib.hid h
  clear hnn h
  go_loopg [8] n (fun gg q wr => ∃ kk : Nat, kk ≤ n ∧ n - kk ≤ gg ∧ q = .int .i64 kk ∧ Aside (Below w.heap.size w wr) ∧ Aside (∀ j, j < kk → atIs x ts[j]! = false))
  case atStart => exact ⟨0, Nat.zero_le _, by omega, rfl, Below.refl _ w, fun j hj => absurd hj (Nat.not_lt_zero _)⟩
  case round =>
    obtain ⟨kk, hkk, hg, rfl, BW, A⟩ := hrel
    by_cases hlt : kk < n
    · have hltz : (kk : Int) < (n : Int) := by omega
      obtain ⟨b1, o1, rfl, l1, c1⟩ := H1.out (by intro e; have := HN.out; rw [e] at this; simp at this; omega)
      have r1 := tok_cells c1 l1 BW.out kk hlt
      clear c1 l1
      generalize hxk : ts[kk]! = y at r1
      have X : Aside (ts[kk]! = y) := hxk
      clear hxk
      obtain ⟨p0, p1, p2⟩ := r1
      have hcall := fun W (hW : W.cell? ⟨pb, 0, none⟩ = some (.int .i64 x)) (hp : pb < W.heap.size) => long1_any y pb x W hW hp
      unfold tokA at hcall
      have HC := Lib.hid hcall
      clear hcall
      go_wp2_with fail
      refine (HC.out _ ((BW.out.cell (p := ⟨pb, 0, none⟩) hpb).trans HX.out) (Nat.lt_of_lt_of_le hpb BW.out.size)).mono ?_
      rintro e w' ⟨rfl, hb⟩
      have bb := BW.out.trans (hb.mono BW.out.size)
      cases hq : atIs x y with
      | true =>
        go_wp2_with fail
        go_ret
        refine ⟨?_, bb⟩
        have hk : kk < ts.length := by rw [HN.out]; exact hlt
        rw [fAt_skip x ts 0 kk (by omega) A.out, Nat.zero_add, List.drop_eq_getElem_cons hk]
        have hx : ts[kk] = y := by rw [← X.out, getElem!_pos ts kk hk]
        rw [fAt_cons, hx, if_pos hq]; rfl
      | false =>
        go_wp2_with fail
        go_roundg (n - (kk + 1))
        case measure => omega
        case rel =>
          refine ⟨kk + 1, by omega, by omega, by go_num, bb, (show Aside _ from fun j hj => ?_)⟩
          by_cases e : j = kk
          · subst e
            rw [X.out]; exact hq
          · exact A.out j (by omega)
    · have hltz : ¬ (kk : Int) < (n : Int) := by omega
      have hke : kk = n := by omega
      subst hke
      have hfin : fAt x ts 0 = -1 := by
        rw [fAt_skip x ts 0 kk (by rw [HN.out]; exact Nat.le_refl _) A.out, List.drop_of_length_le (by rw [HN.out]; exact Nat.le_refl _)]; rfl
      have HF := Lib.hid hfin
      clear hfin
      go_wp2_with fail
      go_ret
      exact ⟨by rw [HF.out]; rfl, BW.out⟩
set_option maxHeartbeats 1000000 in
theorem Cont_long1 (v : Value) (ts : List T3) (pb : Nat) (x : Int) (w : World) (h : TokRow w v ts) (hn : ts.length ≤ 9223372036854775807) (hx : w.cell? ⟨pb, 0, none⟩ = some (.int .i64 x)) (hpb : pb < w.heap.size) :
    Calls Tryz.prog 21 #[v, .func (.func 22) #[] #[.pointer (some ⟨pb, 0, none⟩)]] w fun e w' => e = .returned (.bool (decide (0 ≤ fAt x ts 0))) ∧ Below w.heap.size w w' := by
  have hi := Index_long1 v ts pb x w h hn hx hpb
  generalize fAt x ts 0 = r at hi ⊢
  have HI := Lib.hid hi
  clear hi hx
  go_enter Tryz.func21, Tryz.ntmps21
  go_wp2_with fail
  refine (HI.out).mono ?_
  rintro e w' ⟨rfl, hb⟩
  go_wp2_with fail
  go_ret
  exact ⟨rfl, hb⟩
end Go.Proofs.YtafofcenphopbaaGreatDoor
