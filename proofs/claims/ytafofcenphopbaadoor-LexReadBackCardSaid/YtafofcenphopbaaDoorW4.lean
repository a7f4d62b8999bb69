/- LexReadBack: the walk. -/
import Derived.Test.YtafofcenphopbaaDoorA37
import Derived.Test.YtafofcenphopbaaDoorW2
namespace Go.Proofs.YtafofcenphopbaaDoor
open Go.RowKit Lx

def longI (t : T3) : Bool := decide (1000 < t.text.size)
def fIdx {α : Type} (p : α → Bool) : List α → Nat → Int
  | [], _ => -1
  | t :: r, k => if p t then (k : Int) else fIdx p r (k + 1)
theorem fIdx_cons {α : Type} (p : α → Bool) (t : α) (r : List α) (k : Nat) : fIdx p (t :: r) k = if p t then (k : Int) else fIdx p r (k + 1) := rfl
theorem fIdx_any {α : Type} (p : α → Bool) : ∀ (l : List α) (k : Nat), decide (0 ≤ fIdx p l k) = l.any p := by
  intro l
  induction l with
  | nil => intro k; rfl
  | cons t r ih =>
    intro k
    rw [fIdx_cons]
    cases h : p t with
    | true => simp [h]
    | false => simp [h, ih]
theorem fIdx_skip {α : Type} [Inhabited α] (p : α → Bool) : ∀ (l : List α) (k j : Nat), j ≤ l.length → (∀ i, i < j → p l[i]! = false) → fIdx p l k = fIdx p (l.drop j) (k + j) := by
  intro l
  induction l with
  | nil => intro k j hj _; simp at hj; subst hj; rfl
  | cons t r ih =>
    intro k j hj h
    cases j with
    | zero => rfl
    | succ j =>
      have h0 := h 0 (by omega)
      rw [fIdx_cons, if_neg (by rw [show (t :: r)[0]! = t from rfl] at h0; rw [h0]; decide), List.drop_succ_cons, ih (k + 1) j (by simpa using hj) (fun i hi => by have := h (i + 1) (by omega); simpa using this), Nat.add_right_comm, Nat.add_assoc]
set_option maxHeartbeats 400000 in
theorem few1_any (t : T3) (w : World) : Calls Tryd.prog 68 #[tokA t] w fun e w' => e = .returned (.bool (longI t)) ∧ Below w.heap.size w w' := by
  obtain ⟨k, t, a⟩ := t
  unfold tokA longI
  go_enter Tryd.func68, Tryd.ntmps68
  go_wp2
  all_goals (
    go_ret
    refine ⟨ret_bool ?_, below_box _ _⟩
    rw [Bool.eq_iff_iff]
    simp
    try omega)
set_option maxHeartbeats 1000000 in
set_option maxRecDepth 100000 in
theorem IndexFew_any (v : Value) (ts : List T3) (w : World) (h : TokRow w v ts) (hn : ts.length ≤ 9223372036854775807) :
    Calls Tryd.prog 98 #[v, .func (.func 68) #[] #[]] w fun e w' => e = .returned (.int .i64 (fIdx longI ts 0)) ∧ Below w.heap.size w w' := by
  obtain ⟨ao, cap, rfl, h⟩ := h
  go_enter Tryd.func98, Tryd.ntmps98
  go_wp2_with fail
  generalize hnn : ts.length = n at h hn ⊢
  have HN := Lib.hid hnn
  have H1 := Lib.hid h
  clear hnn h
  go_loopg [8] n (fun gg q wr => ∃ kk : Nat, kk ≤ n ∧ n - kk ≤ gg ∧ q = .int .i64 kk ∧ Aside (Below w.heap.size w wr) ∧ Aside (∀ j, j < kk → longI ts[j]! = false))
  case atStart => exact ⟨0, Nat.zero_le _, by omega, rfl, Below.refl _ w, fun j hj => absurd hj (Nat.not_lt_zero _)⟩
  case round =>
    obtain ⟨kk, hkk, hg, rfl, BW, A⟩ := hrel
    by_cases hlt : kk < n
    · have hltz : (kk : Int) < (n : Int) := by omega
      obtain ⟨b1, o1, rfl, l1, c1⟩ := H1.out (by intro e; have := HN.out; rw [e] at this; simp at this; omega)
      have r1 := tok_cells c1 l1 BW.out kk hlt
      clear c1 l1
      generalize hxk : ts[kk]! = x at r1
      have X : Aside (ts[kk]! = x) := hxk
      clear hxk
      obtain ⟨p0, p1, p2⟩ := r1
      have hcall := fun W => few1_any x W
      unfold tokA at hcall
      have HC := Lib.hid hcall
      clear hcall
      go_wp2_with fail
      refine (HC.out _).mono ?_
      rintro e w' ⟨rfl, hb⟩
      have bb := BW.out.trans (hb.mono BW.out.size)
      cases hq : longI x with
      | true =>
        go_wp2_with fail
        go_ret
        refine ⟨?_, bb⟩
        have hk : kk < ts.length := by rw [HN.out]; exact hlt
        rw [fIdx_skip longI ts 0 kk (by omega) A.out, Nat.zero_add, List.drop_eq_getElem_cons hk]
        have hx : ts[kk] = x := by rw [← X.out, getElem!_pos ts kk hk]
        rw [fIdx_cons, hx, if_pos hq]; rfl
      | false =>
        go_wp2_with fail
        go_roundg (n - (kk + 1))
        case measure => omega
        case rel =>
          refine ⟨kk + 1, by omega, by omega, by go_num, bb, (show Aside _ from fun j hj => ?_)⟩
          by_cases e : j = kk
          · subst e
            rw [X.out]; exact hq
          · exact A.out j (by omega)
    · have hltz : ¬ (kk : Int) < (n : Int) := by omega
      have hke : kk = n := by omega
      subst hke
      have hfin : fIdx longI ts 0 = -1 := by
        rw [fIdx_skip longI ts 0 kk (by rw [HN.out]; exact Nat.le_refl _) A.out, List.drop_of_length_le (by rw [HN.out]; exact Nat.le_refl _)]; rfl
      have HF := Lib.hid hfin
      clear hfin
      go_wp2_with fail
      go_ret
      exact ⟨by rw [HF.out]; rfl, BW.out⟩
set_option maxHeartbeats 1000000 in
theorem ContFew_any (v : Value) (ts : List T3) (w : World) (h : TokRow w v ts) (hn : ts.length ≤ 9223372036854775807) :
    Calls Tryd.prog 67 #[v, .func (.func 68) #[] #[]] w fun e w' => e = .returned (.bool (ts.any longI)) ∧ Below w.heap.size w w' := by
  have hi := IndexFew_any v ts w h hn
  have hf := fIdx_any longI ts 0
  generalize fIdx longI ts 0 = r at hi hf
  have HI := Lib.hid hi
  have HF := Lib.hid hf
  clear hi hf
  go_enter Tryd.func67, Tryd.ntmps67
  go_wp2_with fail
  refine (HI.out).mono ?_
  rintro e w' ⟨rfl, hb⟩
  go_wp2_with fail
  go_ret
  exact ⟨by rw [← HF.out]; rfl, hb⟩
def fewI (ts : List T3) : Bool := decide (ts.length ≤ 5100) && !ts.any longI
set_option maxHeartbeats 1000000 in
theorem few_any (v : Value) (ts : List T3) (w : World) (h : TokRow w v ts) (hn : ts.length ≤ 9223372036854775807) :
    Calls Tryd.prog 34 #[v] w fun e w' => e = .returned (.bool (fewI ts)) ∧ Below w.heap.size w w' := by
  have hc := fun W (hW : TokRow W v ts) => ContFew_any v ts W hW hn
  have HC := Lib.hid hc
  have H := Lib.hid h
  obtain ⟨ao, cap, rfl, _⟩ := h
  clear hc
  by_cases hl : ts.length ≤ 5100
  · have hlz : (ts.length : Int) ≤ 5100 := by omega
    have hf : fewI ts = !ts.any longI := by unfold fewI; rw [decide_eq_true hl]; rfl
    have HF := Lib.hid hf
    clear hf
    go_enter Tryd.func34, Tryd.ntmps34
    go_wp2_with fail
    refine (HC.out _ H.out).mono ?_
    rintro e w' ⟨rfl, hb⟩
    go_wp2_with fail
    go_ret
    exact ⟨by rw [HF.out]; simp, hb⟩
  · have hlz : ¬ (ts.length : Int) ≤ 5100 := by omega
    have hf : fewI ts = false := by unfold fewI; rw [decide_eq_false hl]; rfl
    have HF := Lib.hid hf
    clear hf
    go_enter Tryd.func34, Tryd.ntmps34
    go_wp2_with fail
    go_ret
    exact ⟨by rw [HF.out]; rfl, Below.refl _ _⟩
end Go.Proofs.YtafofcenphopbaaDoor
namespace Go.Proofs.YtafofcenphopbaaDoor
open Go.RowKit Lx

theorem z_kt3 (l : List T3) (us : List Tok) (h : us.map kt = l.map kt3) : l.map T3.z = (us.map Tok.t3).map T3.z := by
  have e : ∀ l : List Tok, (l.map Tok.t3).map T3.z = (l.map kt).map fun a => (⟨a.1, a.2, 0⟩ : T3) := by
    intro l; simp [List.map_map]; intro a _; rfl
  have e2 : ∀ l : List T3, l.map T3.z = (l.map kt3).map fun a => (⟨a.1, a.2, 0⟩ : T3) := by
    intro l; simp [List.map_map]; intro a _; rfl
  rw [e, e2, h]
theorem fewI_texts (l : List T3) (h : fewI l = true) : ∀ t ∈ l, t.text.size ≤ 1000 := by
  unfold fewI at h
  simp only [Bool.and_eq_true, Bool.not_eq_true', List.any_eq_false] at h
  intro t ht
  have := h.2 t ht
  unfold longI at this
  simpa using this
theorem printR_size (l : List (Int × ByteArray)) (h : (printR l).2 = 0) : (printR l).1.size ≤ 20000 ∧ l.length ≤ 5000 := by
  unfold printR at h ⊢
  split at h
  · exact absurd h (by decide)
  · rename_i h1
    rw [if_neg h1]
    split at h
    · exact absurd h (by decide)
    · rename_i h2
      rw [if_neg h2]
      split at h
      · exact absurd h (by decide)
      · rename_i h3
        rw [if_neg h3]
        exact ⟨by show (printL l).toArray.size ≤ _; simp; omega, by omega⟩
set_option maxHeartbeats 1000000 in
set_option maxRecDepth 100000 in
theorem LexReadBack_walk (v : Value) (l : List T3) (w : World) (h : TokRow w v l) (hn : l.length ≤ 9223372036854775807) (hml : ML w) : Calls Tryd.prog 9 #[v] w fun e w' => e = .returned (.bool true) ∧ Below w.heap.size w w' := by
  have hf := fun W (hW : TokRow W v l) => few_any v l W hW hn
  have H := Lib.hid h
  cases hfew : fewI l with
  | false =>
    rw [hfew] at hf
    have HF := Lib.hid hf
    obtain ⟨ao, cap, rfl, _⟩ := h
    clear hf
    go_enter Tryd.func9, Tryd.ntmps9
    go_wp2_with (go_at_call 13; refine (sane_any _ hml).mono ?_; rintro e w1 ⟨rfl, bb⟩)
    refine (HF.out _ (H.out.after bb)).mono ?_
    rintro e w2 ⟨rfl, hb⟩
    go_wp2_with fail
    go_ret
    exact ⟨rfl, bb.trans (hb.mono bb.size)⟩
  | true =>
    rw [hfew] at hf
    have HF := Lib.hid hf
    have htx := fewI_texts l hfew
    obtain ⟨ao, cap, rfl, _⟩ := h
    clear hf
    by_cases hl : 1000 < l.length
    · have hlz : (1000 : Int) < (l.length : Int) := by omega
      clear htx
      go_enter Tryd.func9, Tryd.ntmps9
      go_wp2_with (go_at_call 13; refine (sane_any _ hml).mono ?_; rintro e w1 ⟨rfl, bb⟩)
      refine (HF.out _ (H.out.after bb)).mono ?_
      rintro e w2 ⟨rfl, hb⟩
      go_wp2_with fail
      go_ret
      exact ⟨rfl, bb.trans (hb.mono bb.size)⟩
    · have hlz : ¬ (1000 : Int) < (l.length : Int) := by omega
      have hp := fun W (hW : TokRow W (.slice ao l.length cap) l) hm => Print_any (.slice ao l.length cap) l (fun t ht => by have := htx t ht; omega) hn W hm hW
      have HP := Lib.hid hp
      clear hp htx
      by_cases he : (printR (l.map kt3)).2 = 0
      · obtain ⟨r1, r2, r3⟩ := law_readback _ he
        have hsz := printR_size _ he
        obtain ⟨s, hs⟩ : ∃ s, (printR (l.map kt3)).1 = s := ⟨_, rfl⟩
        have hpe : printR (l.map kt3) = (s, 0) := by rw [← hs, ← he]
        rw [hs] at r1 r2 r3 hsz
        have c3 : ∀ W, ML W → Calls Tryd.prog 14 #[.string s] W fun e w' => ∃ lv, e = .returned (.tuple #[lv, .int .i64 0, .int .i64 0]) ∧ TokRow w' lv ((scanR s).toks.map Tok.t3) ∧ Below W.heap.size W w' := by
          intro W h; have := Tokens_row s (by omega) W h; rw [r1, r2, outT_ok r1] at this; exact this
        have htl := toks_le s r1
        have hal := z_kt3 l _ r3
        have hll : l.length ≤ 1000 := by omega
        obtain ⟨us, hus⟩ : ∃ us, (scanR s).toks.map Tok.t3 = us := ⟨_, rfl⟩
        rw [hus] at c3 hal
        have htl : us.length ≤ 5000 := by rw [← hus, List.length_map]; exact htl
        have C3 := Lib.hid c3
        have HAL := Lib.hid hal
        have HPE := Lib.hid hpe
        clear c3 hal r1 r2 r3 hsz hs hpe hus he
        go_enter Tryd.func9, Tryd.ntmps9
        go_wp2_with (go_at_call 13; refine (sane_any _ hml).mono ?_; rintro e w1 ⟨rfl, bb⟩)
        refine (HF.out _ (H.out.after bb)).mono ?_
        rintro e w2 ⟨rfl, hb⟩
        have T1 := (H.out.after bb).after hb
        have bb := bb.trans (hb.mono bb.size)
        clear hb
        go_wp2_with fail
        refine (HP.out _ T1 (hml.below bb)).mono ?_
        rintro e w3 ⟨rfl, hb⟩
        rw [HPE.out]
        have T1 := T1.after hb
        have bb := bb.trans (hb.mono bb.size)
        clear hb
        go_wp2_with fail
        refine (C3.out _ (hml.below bb)).mono ?_
        rintro e w4 ⟨lv, rfl, T2, hb⟩
        have T1 := T1.after hb
        have bb := bb.trans (hb.mono bb.size)
        clear hb
        go_wp2_with fail
        refine (alike_any _ _ l us _ T1 T2 (by omega) (by omega)).mono ?_
        rintro e w5 ⟨rfl, hb⟩
        rw [decide_eq_true HAL.out]
        have bb := bb.trans (hb.mono bb.size)
        go_wp2_with fail
        go_ret
        exact ⟨rfl, bb⟩
      · have hor := printR_err (l.map kt3)
        obtain ⟨s, er, hpe⟩ : ∃ s er, printR (l.map kt3) = (s, er) := ⟨_, _, rfl⟩
        rw [hpe] at he hor
        simp only at he hor
        have HPE := Lib.hid hpe
        clear hpe
        have hor' : er = 2 ∨ er = 50 := by rcases hor with h | h | h <;> simp_all
        clear hor he
        rcases hor' with rfl | rfl
        all_goals (
          go_enter Tryd.func9, Tryd.ntmps9
          go_wp2_with (go_at_call 13; refine (sane_any _ hml).mono ?_; rintro e w1 ⟨rfl, bb⟩)
          refine (HF.out _ (H.out.after bb)).mono ?_
          rintro e w2 ⟨rfl, hb⟩
          have T1 := (H.out.after bb).after hb
          have bb := bb.trans (hb.mono bb.size)
          clear hb
          go_wp2_with fail
          refine (HP.out _ T1 (hml.below bb)).mono ?_
          rintro e w3 ⟨rfl, hb⟩
          rw [HPE.out]
          have bb := bb.trans (hb.mono bb.size)
          clear hb
          go_wp2_with fail
          go_ret
          exact ⟨rfl, bb⟩)
end Go.Proofs.YtafofcenphopbaaDoor
