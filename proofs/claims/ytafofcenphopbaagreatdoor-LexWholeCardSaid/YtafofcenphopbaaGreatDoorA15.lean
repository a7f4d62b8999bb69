/- tight, Tight. -/
import Derived.Test.YtafofcenphopbaaGreatDoorA14
namespace Go.Proofs.YtafofcenphopbaaGreatDoor
open Go.RowKit Lx

theorem dbl_len (l : Bs) : (dbl l).length ≤ 2 * l.length := by
  induction l with
  | nil => exact Nat.le_refl _
  | cons c l ih =>
    unfold dbl
    split <;> simp <;> omega
theorem spellI_size (k : Int) (t : ByteArray) : (spellI k t).size ≤ 2 * t.size + 3 := by
  unfold spellI
  have h := dbl_len t.data.toList
  have e : t.data.toList.length = t.size := by simp
  rw [e] at h
  split
  · show (t.data ++ #[66]).size ≤ _
    rw [Array.size_append, show t.data.size = t.size from rfl]; simp; omega
  · split
    · show (List.toArray _).size ≤ _
      simp; omega
    · split
      · show (List.toArray _).size ≤ _
        simp; omega
      · omega
def tightI (x y : T3) : Bool := decide ((scanR (spellI x.kind x.text ++ spellI y.kind y.text)).err = 0) && Lib.allEq sameI ((outT (spellI x.kind x.text ++ spellI y.kind y.text)).map Tok.t3) [x, y]
theorem below_next {w wc w' : World} {B : Nat} (h : Below B w wc) (hB : B ≤ w.heap.size) (hb : Below wc.heap.size wc w') : Below B w w' := h.trans (hb.mono (Nat.le_trans hB h.size))
set_option maxHeartbeats 1000000 in
set_option maxRecDepth 100000 in
theorem tight_any (x y : T3) (hx : x.text.size ≤ 2147483647) (hy : y.text.size ≤ 2147483647) (w : World) (hm : ML w) : Calls Tryz.prog 37 #[tokA x, tokA y] w fun e w' => e = .returned (.bool (tightI x y)) ∧ Below w.heap.size w w' := by
  obtain ⟨r, hr⟩ : ∃ r, r = scanR (spellI x.kind x.text ++ spellI y.kind y.text) := ⟨_, rfl⟩
  obtain ⟨ts, hts⟩ : ∃ ts, ts = outT (spellI x.kind x.text ++ spellI y.kind y.text) := ⟨_, rfl⟩
  have htt : tightI x y = (decide (r.err = 0) && Lib.allEq sameI (ts.map Tok.t3) [x, y]) := by unfold tightI; rw [hr, hts]
  rw [htt]
  clear htt
  unfold tokA
  go_enter Tryz.func37, Tryz.ntmps37
  go_upto_region 1 with fail
  have b2 := below_box2 w (.cells #[.int .i64 x.kind, .string x.text, .int .i64 x.at_] 24) (.cells #[.int .i64 y.kind, .string y.text, .int .i64 y.at_] 24)
  have n1 := heap_alloc_new w (.cells #[.int .i64 x.kind, .string x.text, .int .i64 x.at_] 24)
  have n2 := heap_alloc_new (w.alloc (.cells #[.int .i64 x.kind, .string x.text, .int .i64 x.at_] 24)) (.cells #[.int .i64 y.kind, .string y.text, .int .i64 y.at_] 24)
  have n3 := (Lib.alloc_old (w.alloc (.cells #[.int .i64 x.kind, .string x.text, .int .i64 x.at_] 24)) (.cells #[.int .i64 y.kind, .string y.text, .int .i64 y.at_] 24) w.heap.size (Array.getElem?_eq_some_iff.1 n1).1).trans n1
  rw [World.size_alloc] at n2
  generalize (w.alloc (.cells #[.int .i64 x.kind, .string x.text, .int .i64 x.at_] 24)).alloc (.cells #[.int .i64 y.kind, .string y.text, .int .i64 y.at_] 24) = w2 at b2 n2 n3 ⊢
  have hm2 := hm.below b2
  have l1 := (Array.getElem?_eq_some_iff.1 n3).1
  have l2 := (Array.getElem?_eq_some_iff.1 n2).1
  have p0 : w2.cell? ⟨w.heap.size, 0, none⟩ = some (.int .i64 x.kind) := by rw [Lib.cell_of_heap n3]; rfl
  have p1 : w2.cell? ⟨w.heap.size, 1, none⟩ = some (.string x.text) := by rw [Lib.cell_of_heap n3]; rfl
  have p2 : w2.cell? ⟨w.heap.size, 2, none⟩ = some (.int .i64 x.at_) := by rw [Lib.cell_of_heap n3]; rfl
  have q0 : w2.cell? ⟨w.heap.size + 1, 0, none⟩ = some (.int .i64 y.kind) := by rw [Lib.cell_of_heap n2]; rfl
  have q1 : w2.cell? ⟨w.heap.size + 1, 1, none⟩ = some (.string y.text) := by rw [Lib.cell_of_heap n2]; rfl
  have q2 : w2.cell? ⟨w.heap.size + 1, 2, none⟩ = some (.int .i64 y.at_) := by rw [Lib.cell_of_heap n2]; rfl
  have zx := spellI_size x.kind x.text
  have zy := spellI_size y.kind y.text
  have hsz : (spellI x.kind x.text ++ spellI y.kind y.text).size ≤ 140737488351232 := by rw [ByteArray.size_append]; omega
  have hb2 : Below w2.heap.size w2 w2.drew := (Below.refl _ _).drew
  have hc3 : ∀ W, ML W → Calls Tryz.prog 19 #[.string (spellI x.kind x.text ++ spellI y.kind y.text)] W fun e w' => ∃ lv, e = .returned (.tuple #[lv, .int .i64 r.at_, .int .i64 r.err]) ∧ w'.ownsRow W.heap.size 24 3 lv ts.length (tcells ts) ∧ Below W.heap.size W w' := by
    intro W h; rw [hr, hts]; exact Tokens_any (spellI x.kind x.text ++ spellI y.kind y.text) hsz W h
  have hab : (spellI x.kind x.text).size + (spellI y.kind y.text).size ≤ 140737488351232 := by omega
  have hnl : ¬ 9223372036854775807 < (spellI x.kind x.text).size + (spellI y.kind y.text).size := by omega
  have HC3 := Lib.hid hc3
  clear n1 n2 n3 zx zy hr hts hc3
  go_region_held3 (fun w' => w'.cell? ⟨w.heap.size, 0, none⟩ = some (.int .i64 x.kind) ∧ w'.cell? ⟨w.heap.size, 1, none⟩ = some (.string x.text) ∧ w'.cell? ⟨w.heap.size, 2, none⟩ = some (.int .i64 x.at_) ∧ w'.cell? ⟨w.heap.size + 1, 0, none⟩ = some (.int .i64 y.kind) ∧ w'.cell? ⟨w.heap.size + 1, 1, none⟩ = some (.string y.text) ∧ w'.cell? ⟨w.heap.size + 1, 2, none⟩ = some (.int .i64 y.at_) ∧ Below w2.heap.size w2 w') (go_keep) (first
    | (go_at_call 42; refine (spell_any _ _ _ (by assumption) _ (hm2.below (by assumption))).mono ?_; rintro e w' ⟨rfl, hb⟩; have hn := below_next (by assumption) (Nat.le_refl w2.heap.size) hb; have g0 := (hn.cell (p := ⟨w.heap.size, 0, none⟩) l1).trans p0; have g1 := (hn.cell (p := ⟨w.heap.size, 1, none⟩) l1).trans p1; have g2 := (hn.cell (p := ⟨w.heap.size, 2, none⟩) l1).trans p2; have k0 := (hn.cell (p := ⟨w.heap.size + 1, 0, none⟩) l2).trans q0; have k1 := (hn.cell (p := ⟨w.heap.size + 1, 1, none⟩) l2).trans q1; have k2 := (hn.cell (p := ⟨w.heap.size + 1, 2, none⟩) l2).trans q2)
    | (go_at_call 19; refine (HC3.out _ (hm2.below (by assumption))).mono ?_; rintro e w' ⟨lv, rfl, hown, hb⟩; have hn := below_next (by assumption) (Nat.le_refl w2.heap.size) hb; have g0 := (hn.cell (p := ⟨w.heap.size, 0, none⟩) l1).trans p0; have g1 := (hn.cell (p := ⟨w.heap.size, 1, none⟩) l1).trans p1; have g2 := (hn.cell (p := ⟨w.heap.size, 2, none⟩) l1).trans p2; have k0 := (hn.cell (p := ⟨w.heap.size + 1, 0, none⟩) l2).trans q0; have k1 := (hn.cell (p := ⟨w.heap.size + 1, 1, none⟩) l2).trans q1; have k2 := (hn.cell (p := ⟨w.heap.size + 1, 2, none⟩) l2).trans q2))
  have z2 := b2.size
  have z3 := hn.size
  clear hab hnl hsz p0 p1 p2 q0 q1 q2 HC3 hm2 hm hx hy
  by_cases he : r.err = 0
  · rw [he]
    go_wp2_with fail
    have hr1 : TokRow w' lv (ts.map Tok.t3) := TokRow.of_own (by rw [List.length_map, ← rcells_tcells]; exact hown)
    have hln : (ts.map Tok.t3).length ≤ 9223372036854775807 := by
      rw [List.length_map]
      rcases hown.2 with ⟨_, h0⟩ | ⟨g, cap', cur, hv, hB, hg, hnc, hcm, rest⟩
      · omega
      · unfold maxLen at hcm; omega
    have hr2 := hr1.below (below_box w' (.cells #[.int .i64 x.kind, .string x.text, .int .i64 x.at_, .int .i64 y.kind, .string y.text, .int .i64 y.at_] 24)) (Nat.le_refl _)
    have n4 := heap_alloc_new w' (.cells #[.int .i64 x.kind, .string x.text, .int .i64 x.at_, .int .i64 y.kind, .string y.text, .int .i64 y.at_] 24)
    have b4 := below_box w' (.cells #[.int .i64 x.kind, .string x.text, .int .i64 x.at_, .int .i64 y.kind, .string y.text, .int .i64 y.at_] 24)
    generalize w'.alloc (.cells #[.int .i64 x.kind, .string x.text, .int .i64 x.at_, .int .i64 y.kind, .string y.text, .int .i64 y.at_] 24) = w4 at hr2 n4 b4 ⊢
    have hr3 : TokRow w4 (.slice (some ⟨w'.heap.size, 0, none⟩) 2 2) [x, y] := by
      refine ⟨_, 2, rfl, fun _ => ⟨w'.heap.size, 0, rfl, (Array.getElem?_eq_some_iff.1 n4).1, fun j hj i u hu => ?_⟩⟩
      rw [Lib.cell_of_heap n4]
      have hi : i < 3 := by
        have := (List.getElem?_eq_some_iff.1 hu).1
        simpa [tokv] using this
      have hj' : j = 0 ∨ j = 1 := by simp at hj; omega
      have hi' : i = 0 ∨ i = 1 ∨ i = 2 := by omega
      rcases hj' with rfl | rfl <;> rcases hi' with rfl | rfl | rfl <;> simpa [tokv] using hu
    refine (EqualF_any _ _ _ _ w4 hr2 hr3 hln (by show 2 ≤ _; decide)).mono ?_
    rintro e w5 ⟨rfl, hb5⟩
    have z4 := b4.size
    go_wp2_with fail
    go_ret
    exact ⟨by rw [he]; rfl, ((b2.trans (hn.mono z2)).trans (b4.mono (by omega))).trans (hb5.mono (by omega))⟩
  · have hd : decide (r.err = 0) = false := decide_eq_false he
    have hd' : (r.err == 0) = false := by rw [beq_eq_false_iff_ne]; exact he
    go_wp2_with fail
    go_ret
    refine ⟨?_, b2.trans (hn.mono z2)⟩
    rw [hd]
    simp
end Go.Proofs.YtafofcenphopbaaGreatDoor
