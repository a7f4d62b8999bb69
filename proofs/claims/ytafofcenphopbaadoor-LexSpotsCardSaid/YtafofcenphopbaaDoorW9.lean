/- LexWords: the walk. -/
import Derived.Test.YtafofcenphopbaaDoorB7
import Derived.Test.YtafofcenphopbaaDoorA36
import Derived.Lib.QuietBelow
namespace Go.Proofs.YtafofcenphopbaaDoor
open Go.RowKit Go.Sort Lx

def wideS (s : ByteArray) : Bool := decide (21000 < s.size)
theorem short1_any (s : ByteArray) (w : World) : Calls Tryd.prog 49 #[.string s] w fun e w' => e = .returned (.bool (wideS s)) ∧ w' = w := by
  unfold wideS
  go_enter Tryd.func49, Tryd.ntmps49
  go_wp2
  all_goals (
    go_ret
    refine ⟨ret_bool ?_, rfl⟩
    rw [Bool.eq_iff_iff]
    simp
    try omega)
def fIdxS (p : ByteArray → Bool) : List ByteArray → Nat → Int
  | [], _ => -1
  | t :: r, k => if p t then (k : Int) else fIdxS p r (k + 1)
theorem fIdxS_cons (p : ByteArray → Bool) (t : ByteArray) (r : List ByteArray) (k : Nat) : fIdxS p (t :: r) k = if p t then (k : Int) else fIdxS p r (k + 1) := rfl
theorem fIdxS_any (p : ByteArray → Bool) : ∀ (l : List ByteArray) (k : Nat), decide (0 ≤ fIdxS p l k) = l.any p := by
  intro l
  induction l with
  | nil => intro k; rfl
  | cons t r ih =>
    intro k
    rw [fIdxS_cons]
    cases h : p t with
    | true => simp [h]
    | false => simp [h, ih]
set_option maxHeartbeats 1000000 in
set_option maxRecDepth 100000 in
theorem IndexShort_any (ss : List ByteArray) (B : Nat) (w : World) (hc : ∀ j (h : j < ss.length), w.cell? ⟨B, j, none⟩ = some (.string (ss[j]'h))) (hn : ss.length ≤ 1000) :
    Calls Tryd.prog 84 #[.slice (some ⟨B, 0, none⟩) ss.length ss.length, .func (.func 49) #[] #[]] w fun e w' => e = .returned (.int .i64 (fIdxS wideS ss 0)) ∧ w' = w := by
  generalize hnn : ss.length = n at hn ⊢
  have HN := Lib.hid hnn
  have H1 := Lib.hid hc
  clear hnn hc
  go_enter Tryd.func84, Tryd.ntmps84
  go_wp2_with fail
  go_loop [8] (fun q => ∃ k : Nat, k ≤ n ∧ q = .int .i64 k ∧ fIdxS wideS ss 0 = fIdxS wideS (ss.drop k) k) (fun q => n - (intOf q).toNat)
  case atStart => exact ⟨0, Nat.zero_le _, rfl, rfl⟩
  case round =>
    obtain ⟨k, hk, rfl, hf⟩ := hrel
    have HF := Lib.hid hf
    clear hf
    by_cases hlt : k < n
    · have hltz : (k : Int) < (n : Int) := by omega
      have hl : k < ss.length := by rw [HN.out]; exact hlt
      have hcell := H1.out k hl
      have hst : fIdxS wideS (ss.drop k) k = if wideS (ss[k]'hl) then (k : Int) else fIdxS wideS (ss.drop (k + 1)) (k + 1) := by rw [List.drop_eq_getElem_cons hl, fIdxS_cons]
      generalize ss[k] = x at hcell hst
      have hq := fun W => short1_any x W
      have HQ := Lib.hid hq
      have HST := Lib.hid hst
      clear hq hst
      cases hv : wideS x with
      | true =>
        rw [hv] at HQ HST
        clear hv
        go_wp2_with fail
        refine (HQ.out _).mono ?_
        rintro e w' ⟨rfl, hw⟩
        rw [hw]
        clear hw
        go_wp2_with fail
        go_ret
        exact ⟨by rw [HF.out, HST.out]; rfl, rfl⟩
      | false =>
        rw [hv] at HQ HST
        clear hv
        go_wp2_with fail
        refine (HQ.out _).mono ?_
        rintro e w' ⟨rfl, hw⟩
        rw [hw]
        clear hw
        go_wp2_with fail
        go_round
        case rel => exact ⟨k + 1, hlt, by go_num, by rw [HF.out, HST.out]; rfl⟩
        case measure => simp [intOf]; omega
    · have hltz : ¬ (k : Int) < (n : Int) := by omega
      have hfin : fIdxS wideS ss 0 = -1 := by rw [HF.out, List.drop_of_length_le (by rw [HN.out]; omega)]; rfl
      have HFN := Lib.hid hfin
      clear hfin
      go_wp2_with fail
      go_ret
      exact ⟨by rw [HFN.out]; rfl, rfl⟩
set_option maxHeartbeats 1000000 in
theorem short_any (ss : List ByteArray) (B n : Nat) (hnn : ss.length = n) (b : Bool) (hb : (!ss.any wideS) = b) (w : World) (hc : ∀ j (h : j < ss.length), w.cell? ⟨B, j, none⟩ = some (.string (ss[j]'h))) (hn : n ≤ 1000) :
    Calls Tryd.prog 18 #[.slice (some ⟨B, 0, none⟩) n n] w fun e w' => e = .returned (.bool b) ∧ w' = w := by
  have hq := IndexShort_any ss B w hc (by omega)
  rw [hnn] at hq
  have hi := fIdxS_any wideS ss 0
  generalize fIdxS wideS ss 0 = x at hq hi
  have hcf : Calls Tryd.prog 48 #[.slice (some ⟨B, 0, none⟩) n n, .func (.func 49) #[] #[]] w fun e w' => e = .returned (.bool (ss.any wideS)) ∧ w' = w := by
    have HQ := Lib.hid hq
    have HI := Lib.hid hi
    clear hq hi hb hc
    go_enter Tryd.func48, Tryd.ntmps48
    go_wp2_with fail
    refine HQ.out.mono ?_
    rintro e w' ⟨rfl, hw⟩
    rw [hw]
    clear hw
    go_wp2_with fail
    go_ret
    exact ⟨by rw [← HI.out]; rfl, rfl⟩
  have HC := Lib.hid hcf
  have HB := Lib.hid hb
  clear hcf hq hi hb hc
  go_enter Tryd.func18, Tryd.ntmps18
  go_wp2_with fail
  refine HC.out.mono ?_
  rintro e w' ⟨rfl, hw⟩
  rw [hw]
  clear hw
  go_wp2_with fail
  go_ret
  exact ⟨by rw [← HB.out]; rfl, rfl⟩
end Go.Proofs.YtafofcenphopbaaDoor
namespace Go.Proofs.YtafofcenphopbaaDoor
open Go.RowKit Go.Sort Lx

set_option maxHeartbeats 4000000 in
set_option maxRecDepth 100000 in
theorem LexWords_walk (s : ByteArray) (k : Int) (t : ByteArray) (a : Int) (w : World) (hml : ML w) : Calls Tryd.prog 7 #[.string s, .agg #[.int .i64 k, .string t, .int .i64 a]] w fun e w' => e = .returned (.bool true) ∧ Below w.heap.size w w' := by
  cases hv : !([s, t].any wideS) with
  | false =>
    have hsh := fun B W hc => short_any [s, t] B 2 rfl _ hv W hc (by decide)
    have HSH := Lib.hid hsh
    clear hsh
    clear hv
    have b0 := below_box w (.cells #[.int .i64 k, .string t, .int .i64 a] 37)
    have n0 := heap_alloc_new w (.cells #[.int .i64 k, .string t, .int .i64 a] 37)
    have hm0 : ML (w.alloc (.cells #[.int .i64 k, .string t, .int .i64 a] 37)) := hml.below b0
    go_enter Tryd.func7, Tryd.ntmps7
    go_wp2_with fail
    generalize w.alloc (.cells #[.int .i64 k, .string t, .int .i64 a] 37) = w0 at b0 n0 hm0 ⊢
    refine (sane_any _ hm0).mono ?_
    rintro e w1 ⟨rfl, hb⟩
    have l0 := (Array.getElem?_eq_some_iff.1 n0).1
    have n1 := (hb.block _ l0).trans n0
    have bb := b0.trans (hb.mono b0.size)
    have hm1 := hm0.below hb
    clear b0 n0 hm0 hb l0
    generalize hB0 : w.heap.size = B0 at n1 bb ⊢
    have HB0 := Lib.hid hB0
    clear hB0
    have N1 := Lib.hid n1
    have p1 : w1.cell? ⟨B0, 1, none⟩ = some (.string t) := cell_of_row _ _ 1 _ _ _ n1
    have l1 := (Array.getElem?_eq_some_iff.1 n1).1
    clear n1
    go_wp2_with fail
    have b2 := below_box w1 (.cells #[.string s, .string t] 9)
    have d0 := cell_box w1 #[.string s, .string t] 9 0
    have d1 := cell_box w1 #[.string s, .string t] 9 1
    have n2 := (b2.block _ l1).trans N1.out
    have hm2 := hm1.below b2
    have bb := bb.trans (b2.mono (Nat.le_of_lt l1))
    generalize w1.alloc (.cells #[.string s, .string t] 9) = w2 at b2 d0 d1 n2 hm2 bb ⊢
    refine (HSH.out _ w2 (fun j h => by
      match j, h with
      | 0, _ => exact d0
      | 1, _ => exact d1)).mono ?_
    rintro e w' ⟨rfl, hw⟩
    rw [hw]
    have l2 := (Array.getElem?_eq_some_iff.1 n2).1
    have N2 := Lib.hid n2
    clear hw b2 d0 d1 n2 N1 p1 l1 hm1 HSH
    go_wp2_with fail
    go_ret
    exact ⟨rfl, by rw [HB0.out]; exact bb⟩
  | true =>
    have hsh := fun B W hc => short_any [s, t] B 2 rfl _ hv W hc (by decide)
    have HSH := Lib.hid hsh
    clear hsh
    have hsz : s.size ≤ 21000 ∧ t.size ≤ 21000 := by
      simp [wideS] at hv
      omega
    obtain ⟨hs, ht⟩ := hsz
    have c1 := fun W => Name_any s (by omega) W
    have c2 := fun W => rName_any s (by omega) W
    have c3 := fun W h => Spell_any k t a (by omega) W h
    have c4 := fun W => rSpell_any k t a (by omega) W
    have c5 := fun W => IsName_any s (by omega) W
    have c6 := fun W => rIsName_any s (by omega) W
    have c7 := fun W => Check_any k t a (by omega) W
    have c8 := fun W => rCheck_any k t a (by omega) W
    generalize (if nameI s then upS s else ⟨#[]⟩) = X at c1 c2
    generalize (if nameI s then (0 : Int) else 50) = E at c1 c2
    generalize (if checkI k t then spellI k t else ⟨#[]⟩) = Y at c3 c4
    generalize errIf (checkI k t) = F at c3 c4 c7 c8
    generalize isNameI s = N at c5 c6
    have C1 := Lib.hid c1
    have C2 := Lib.hid c2
    have C3 := Lib.hid c3
    have C4 := Lib.hid c4
    have C5 := Lib.hid c5
    have C6 := Lib.hid c6
    have C7 := Lib.hid c7
    have C8 := Lib.hid c8
    clear c1 c2 c3 c4 c5 c6 c7 c8 hs ht
    clear hv
    have b0 := below_box w (.cells #[.int .i64 k, .string t, .int .i64 a] 37)
    have n0 := heap_alloc_new w (.cells #[.int .i64 k, .string t, .int .i64 a] 37)
    have hm0 : ML (w.alloc (.cells #[.int .i64 k, .string t, .int .i64 a] 37)) := hml.below b0
    go_enter Tryd.func7, Tryd.ntmps7
    go_wp2_with fail
    generalize w.alloc (.cells #[.int .i64 k, .string t, .int .i64 a] 37) = w0 at b0 n0 hm0 ⊢
    refine (sane_any _ hm0).mono ?_
    rintro e w1 ⟨rfl, hb⟩
    have l0 := (Array.getElem?_eq_some_iff.1 n0).1
    have n1 := (hb.block _ l0).trans n0
    have bb := b0.trans (hb.mono b0.size)
    have hm1 := hm0.below hb
    clear b0 n0 hm0 hb l0
    generalize hB0 : w.heap.size = B0 at n1 bb ⊢
    have HB0 := Lib.hid hB0
    clear hB0
    have N1 := Lib.hid n1
    have p1 : w1.cell? ⟨B0, 1, none⟩ = some (.string t) := cell_of_row _ _ 1 _ _ _ n1
    have l1 := (Array.getElem?_eq_some_iff.1 n1).1
    clear n1
    go_wp2_with fail
    have b2 := below_box w1 (.cells #[.string s, .string t] 9)
    have d0 := cell_box w1 #[.string s, .string t] 9 0
    have d1 := cell_box w1 #[.string s, .string t] 9 1
    have n2 := (b2.block _ l1).trans N1.out
    have hm2 := hm1.below b2
    have bb := bb.trans (b2.mono (Nat.le_of_lt l1))
    generalize w1.alloc (.cells #[.string s, .string t] 9) = w2 at b2 d0 d1 n2 hm2 bb ⊢
    refine (HSH.out _ w2 (fun j h => by
      match j, h with
      | 0, _ => exact d0
      | 1, _ => exact d1)).mono ?_
    rintro e w' ⟨rfl, hw⟩
    rw [hw]
    have l2 := (Array.getElem?_eq_some_iff.1 n2).1
    have N2 := Lib.hid n2
    clear hw b2 d0 d1 n2 N1 p1 l1 hm1 HSH
    go_wp2_with fail
    refine (C1.out _).mono ?_
    rintro e w3 ⟨rfl, hb⟩
    have n3 := (hb.block _ l2).trans N2.out
    have hm3 := hm2.below hb
    have bb := bb.trans (hb.mono (Nat.le_of_lt l2))
    clear hb N2 hm2 l2
    have l3 := (Array.getElem?_eq_some_iff.1 n3).1
    have N3 := Lib.hid n3
    clear n3
    go_wp2_with fail
    refine (C2.out _).mono ?_
    rintro e w4 ⟨rfl, hb⟩
    have n4 := (hb.block _ l3).trans N3.out
    have hm4 := hm3.below hb
    have bb := bb.trans (hb.mono (Nat.le_of_lt l3))
    clear hb N3 hm3 l3
    have l4 := (Array.getElem?_eq_some_iff.1 n4).1
    have N4 := Lib.hid n4
    have p0 : w4.cell? ⟨B0, 0, none⟩ = some (.int .i64 k) := cell_of_row _ _ 0 _ _ _ n4
    have p1 : w4.cell? ⟨B0, 1, none⟩ = some (.string t) := cell_of_row _ _ 1 _ _ _ n4
    have p2 : w4.cell? ⟨B0, 2, none⟩ = some (.int .i64 a) := cell_of_row _ _ 2 _ _ _ n4
    clear n4
    go_wp2_with fail
    refine (C3.out _ hm4).mono ?_
    rintro e w5 ⟨rfl, hb⟩
    have n5 := (hb.block _ l4).trans N4.out
    have bb := bb.trans (hb.mono (Nat.le_of_lt l4))
    clear hb N4 hm4 l4 p0 p1 p2
    have l5 := (Array.getElem?_eq_some_iff.1 n5).1
    have N5 := Lib.hid n5
    have p0 : w5.cell? ⟨B0, 0, none⟩ = some (.int .i64 k) := cell_of_row _ _ 0 _ _ _ n5
    have p1 : w5.cell? ⟨B0, 1, none⟩ = some (.string t) := cell_of_row _ _ 1 _ _ _ n5
    have p2 : w5.cell? ⟨B0, 2, none⟩ = some (.int .i64 a) := cell_of_row _ _ 2 _ _ _ n5
    clear n5
    go_wp2_with fail
    refine (C4.out _).mono ?_
    rintro e w6 ⟨rfl, hb⟩
    have n6 := (hb.block _ l5).trans N5.out
    have bb := bb.trans (hb.mono (Nat.le_of_lt l5))
    clear hb N5 l5 p0 p1 p2
    have l6 := (Array.getElem?_eq_some_iff.1 n6).1
    have p0 : w6.cell? ⟨B0, 0, none⟩ = some (.int .i64 k) := cell_of_row _ _ 0 _ _ _ n6
    have p1 : w6.cell? ⟨B0, 1, none⟩ = some (.string t) := cell_of_row _ _ 1 _ _ _ n6
    have p2 : w6.cell? ⟨B0, 2, none⟩ = some (.int .i64 a) := cell_of_row _ _ 2 _ _ _ n6
    clear n6
    have cA : ∀ d os, Calls Tryd.prog 28 #[.string s] (grow (redrawn w6 d) os) fun e w'' => e = .returned (.bool N) ∧ ∃ p : Regrown, w'' = grow (redrawn w6 p.d) p.os := fun d os => Calls.regrown_of (C5.out _)
    have cB : ∀ d os, Calls Tryd.prog 29 #[.string s] (grow (redrawn w6 d) os) fun e w'' => e = .returned (.bool N) ∧ ∃ p : Regrown, w'' = grow (redrawn w6 p.d) p.os := fun d os => Calls.regrown_of (C6.out _)
    have cC : ∀ d os, Calls Tryd.prog 30 #[.agg #[.int .i64 k, .string t, .int .i64 a]] (grow (redrawn w6 d) os) fun e w'' => e = .returned (.int .i64 F) ∧ ∃ p : Regrown, w'' = grow (redrawn w6 p.d) p.os := fun d os => Calls.regrown_of (C7.out _)
    have cD : ∀ d os, Calls Tryd.prog 31 #[.agg #[.int .i64 k, .string t, .int .i64 a]] (grow (redrawn w6 d) os) fun e w'' => e = .returned (.int .i64 F) ∧ ∃ p : Regrown, w'' = grow (redrawn w6 p.d) p.os := fun d os => Calls.regrown_of (C8.out _)
    have CA := Lib.hid cA
    have CB := Lib.hid cB
    have CC := Lib.hid cC
    have CD := Lib.hid cD
    clear cA cB cC cD C1 C2 C3 C4 C5 C6 C7 C8
    have g0 := cell_regrown p0
    have g1 := cell_regrown p1
    have g2 := cell_regrown p2
    go_upto_region 9 with fail
    refine wp_region_quiet_below (by kernel_rfl) (by kernel_rfl) ?_
    repeat (go_big_quiet_step (first | exact CA.out _ _ | exact CB.out _ _ | exact CC.out _ _ | exact CD.out _ _))
    refine wpQuiet_nil ?_
    intro _ hw'
    obtain ⟨⟨dq, osq⟩, hw''⟩ := hw'
    subst hw''
    go_wp2_with fail
    go_ret
    exact ⟨by simp, by rw [HB0.out]; exact bb.trans ((below_regrown w6 dq osq).mono (Nat.le_of_lt l6))⟩
end Go.Proofs.YtafofcenphopbaaDoor
