/- LexStripped: the walk. -/
import Derived.Test.YtafofcenphopbaaDoorA37
import Derived.Test.YtafofcenphopbaaDoorW1
namespace Go.Proofs.YtafofcenphopbaaDoor
open Go.RowKit Lx

theorem less_succ (cs : List (Nat × Nat)) : ∀ (k : Nat) (h : k < cs.length), less (cs.take (k + 1)) = less (cs.take k) + ((cs[k]'h).2 - (cs[k]'h).1 - 1) := by
  induction cs with
  | nil => intro k h; cases h
  | cons c cs ih =>
    intro k h
    cases k with
    | zero => simp [less]
    | succ k =>
      have := ih k (by simpa using h)
      simp only [List.take_succ_cons, less, List.getElem_cons_succ]
      rw [this]; omega
theorem less_take (cs : List (Nat × Nat)) : ∀ k, less (cs.take k) ≤ less cs := by
  induction cs with
  | nil => intro k; simp [less]
  | cons c cs ih =>
    intro k
    cases k with
    | zero => simp [less]
    | succ k => simp only [List.take_succ_cons, less]; have := ih k; omega
theorem chain_at {n : Nat} : ∀ {cs : List (Nat × Nat)} {i : Nat}, Chain n i cs → ∀ k (h : k < cs.length), (cs[k]'h).1 < (cs[k]'h).2 ∧ (cs[k]'h).2 ≤ n := by
  intro cs
  induction cs with
  | nil => intro i _ k h; cases h
  | cons c cs ih =>
    intro i hc k h
    cases k with
    | zero => exact ⟨hc.2.1, chain_le hc.2.2⟩
    | succ k => exact ih hc.2.2 k (by simpa using h)
theorem com_row_cells {w : World} {v : Value} {cs : List (Nat × Nat)} (h : ComRow w v (comI cs)) (hne : 0 < cs.length) : ∃ b off cap, v = .slice (some ⟨b, off, none⟩) cs.length cap ∧ b < w.heap.size ∧
    ∀ k (hk : k < cs.length), w.cell? ⟨b, off + k * 2, none⟩ = some (.int .i64 (cs[k]'hk).1) ∧ w.cell? ⟨b, off + k * 2 + 1, none⟩ = some (.int .i64 (cs[k]'hk).2) := by
  obtain ⟨ao, cap, rfl, h⟩ := h
  have hl : (comI cs).length = cs.length := by simp [comI]
  obtain ⟨b, off, rfl, hlt, hc⟩ := h (by intro e; rw [e] at hl; simp at hl; omega)
  refine ⟨b, off, cap, by rw [hl], hlt, fun k hk => ?_⟩
  have e : (comI cs)[k]! = ((cs[k].1 : Int), (cs[k].2 : Int)) := by simp [comI, hk, getElem!_pos]
  have h0 := hc k (by rw [hl]; exact hk) 0
  have h1 := hc k (by rw [hl]; exact hk) 1
  rw [e] at h0 h1
  exact ⟨h0 _ rfl, h1 _ rfl⟩
theorem z_kt (ts us : List Tok) (h : ts.map kt = us.map kt) : (ts.map Tok.t3).map T3.z = (us.map Tok.t3).map T3.z := by
  have e : ∀ l : List Tok, (l.map Tok.t3).map T3.z = (l.map kt).map fun a => (⟨a.1, a.2, 0⟩ : T3) := by
    intro l; simp [List.map_map]; intro a _; rfl
  rw [e, e, h]
theorem toks_le (s : ByteArray) (h : (scanR s).err = 0) : (scanR s).toks.length ≤ 5000 := by
  obtain ⟨_, _, h3, h4⟩ := scanR_ok s h
  rw [h4]; show (itoks 0 _).length ≤ _; rw [itoks_ntok]; exact h3
set_option maxHeartbeats 2000000 in
set_option maxRecDepth 100000 in
theorem LexStripped_walk (s : ByteArray) (w : World) (hs : s.size ≤ 140737488351232) (hml : ML w) : Calls Tryd.prog 4 #[.string s] w fun e w' => e = .returned (.bool true) ∧ Below w.heap.size w w' := by
  by_cases hbig : 2000 < s.size
  · have hb' : (2000 : Int) < (s.size : Int) := by omega
    go_enter Tryd.func4, Tryd.ntmps4
    go_wp2_with (go_at_call 13; refine (sane_any _ hml).mono ?_; rintro e w1 ⟨rfl, hb⟩)
    go_ret
    exact ⟨rfl, hb⟩
  · have hb' : ¬ (2000 : Int) < (s.size : Int) := by omega
    by_cases he : (scanR s).err = 0
    · obtain ⟨h1, h2, h3, h4⟩ := law_stripped s (by omega) he
      have hat := scanR_at0 s he
      have hch := scanR_chain s he
      have hoT : outT s = (scanR s).toks := outT_ok he
      have hoC : outC s = (scanR s).coms := outC_ok he
      have htl := toks_le s he
      have htl2 := toks_le _ h1
      have hal : ((scanR s).toks.map Tok.t3).map T3.z = ((scanR (stripR s)).toks.map Tok.t3).map T3.z := (z_kt _ _ h3).symm
      have hat2 := scanR_at0 _ h1
      obtain ⟨t, ht⟩ : ∃ t, stripR s = t := ⟨_, rfl⟩
      rw [ht] at h1 h2 h4 hal htl2 hat2
      have hts : t.size ≤ 140737488351232 := by omega
      have c1 : ∀ W, ML W → Calls Tryd.prog 14 #[.string s] W fun e w' => ∃ lv, e = .returned (.tuple #[lv, .int .i64 0, .int .i64 0]) ∧ TokRow w' lv ((scanR s).toks.map Tok.t3) ∧ Below W.heap.size W w' := by
        intro W h; have := Tokens_row s hs W h; rw [he, hat, hoT] at this; exact this
      have c2 : ∀ W, ML W → Calls Tryd.prog 15 #[.string s] W fun e w' => e = .returned (.tuple #[.string t, .int .i64 0, .int .i64 0]) ∧ Below W.heap.size W w' := by
        intro W h; have := Strip_any s hs W h; unfold StripQ at this; rw [he, hat, ht] at this; exact this
      have c3 : ∀ W, ML W → Calls Tryd.prog 14 #[.string t] W fun e w' => ∃ lv, e = .returned (.tuple #[lv, .int .i64 0, .int .i64 0]) ∧ TokRow w' lv ((scanR t).toks.map Tok.t3) ∧ Below W.heap.size W w' := by
        intro W h; have := Tokens_row t hts W h; rw [h1, hat2, outT_ok h1] at this; exact this
      have c4 : ∀ W, ML W → Calls Tryd.prog 15 #[.string t] W fun e w' => e = .returned (.tuple #[.string t, .int .i64 0, .int .i64 0]) ∧ Below W.heap.size W w' := by
        intro W h; have := Strip_any t hts W h; unfold StripQ at this; rw [h1, hat2, h2] at this; exact this
      have c5 : ∀ W, ML W → Calls Tryd.prog 16 #[.string s] W fun e w' => ∃ cv, e = .returned (.tuple #[cv, .int .i64 0, .int .i64 0]) ∧ ComRow w' cv (comI (scanR s).coms) ∧ Below W.heap.size W w' := by
        intro W h; have := Comments_row s hs W h; rw [he, hat, hoC] at this; exact this
      obtain ⟨cs, hcs⟩ : ∃ cs, (scanR s).coms = cs := ⟨_, rfl⟩
      obtain ⟨ts, hts'⟩ : ∃ ts, (scanR s).toks.map Tok.t3 = ts := ⟨_, rfl⟩
      obtain ⟨us, hus⟩ : ∃ us, (scanR t).toks.map Tok.t3 = us := ⟨_, rfl⟩
      rw [hcs] at c5 h4 hch
      rw [hts'] at c1 hal
      rw [hus] at c3 hal
      have htl : ts.length ≤ 5000 := by rw [← hts', List.length_map]; exact htl
      have htl2 : us.length ≤ 5000 := by rw [← hus, List.length_map]; exact htl2
      have C1 := Lib.hid c1
      have C2 := Lib.hid c2
      have C3 := Lib.hid c3
      have C4 := Lib.hid c4
      have C5 := Lib.hid c5
      have CH := Lib.hid hch
      have HAL := Lib.hid hal
      have HLESS := Lib.hid h4
      clear c1 c2 c3 c4 c5 h1 h2 h3 h4 hat hoT hoC hal hat2 ht hcs hts' hus he hch
      go_enter Tryd.func4, Tryd.ntmps4
      go_wp2_with (go_at_call 13; refine (sane_any _ hml).mono ?_; rintro e w1 ⟨rfl, bb⟩)
      refine (C1.out _ (hml.below bb)).mono ?_
      rintro e w2 ⟨lv, rfl, T1, hb⟩
      have bb := bb.trans (hb.mono bb.size)
      clear hb
      go_wp2_with fail
      refine (C2.out _ (hml.below bb)).mono ?_
      rintro e w3 ⟨rfl, hb⟩
      have bb := bb.trans (hb.mono bb.size)
      have T1 := T1.after hb
      clear hb
      go_wp2_with fail
      refine (C3.out _ (hml.below bb)).mono ?_
      rintro e w4 ⟨lv2, rfl, T2, hb⟩
      have bb := bb.trans (hb.mono bb.size)
      have T1 := T1.after hb
      clear hb
      go_wp2_with fail
      refine (C4.out _ (hml.below bb)).mono ?_
      rintro e w5 ⟨rfl, hb⟩
      have bb := bb.trans (hb.mono bb.size)
      have T1 := T1.after hb
      have T2 := T2.after hb
      clear hb
      go_wp2_with fail
      refine (C5.out _ (hml.below bb)).mono ?_
      rintro e w6 ⟨cv, rfl, R1, hb⟩
      have bb := bb.trans (hb.mono bb.size)
      have T1 := T1.after hb
      have T2 := T2.after hb
      clear hb
      obtain ⟨ao, cap, rfl⟩ : ∃ ao cap, cv = .slice ao cs.length cap := by
        obtain ⟨ao, cap, h, _⟩ := R1
        exact ⟨ao, cap, by rw [h]; simp [comI]⟩
      have hcl : cs.length ≤ s.size := by have := chain_len CH.out; omega
      have R1' := Lib.hid R1
      clear R1
      go_wp2_with fail
      go_loopw [16, 65] (fun nn q wr => ∃ k m : Nat, k ≤ cs.length ∧ q = .int .i64 k ∧ nn = .int .i64 m ∧ m + less (cs.take k) = s.size ∧ Below w6.heap.size w6 wr) (fun _ q _ => cs.length - (intOf q).toNat)
      case atStart => exact ⟨0, s.size, Nat.zero_le _, rfl, rfl, by simp [less], Below.refl _ _⟩
      case round =>
        obtain ⟨k, m, hk, rfl, rfl, hm, bel⟩ := hrel
        by_cases hlt : k < cs.length
        · have hltz : (k : Int) < (cs.length : Int) := by omega
          obtain ⟨b, off, cap', hv, hb, hc⟩ := com_row_cells R1'.out (by omega)
          injection hv with e1 e2 e3
          subst e1
          obtain ⟨c0, c1⟩ := hc k hlt
          have c0 := (bel.cell (p := ⟨b, off + k * 2, none⟩) hb).trans c0
          have c1 := (bel.cell (p := ⟨b, off + k * 2 + 1, none⟩) hb).trans c1
          have hca := chain_at CH.out k hlt
          have hls := less_succ cs k hlt
          have hlt' := less_take cs (k + 1)
          have hless := HLESS.out
          generalize cs[k] = p at c0 c1 hca hls
          obtain ⟨p1, p2⟩ := p
          simp only at c0 c1 hca hls
          obtain ⟨x1, x2⟩ := hca
          have hm2 : m - (p2 - p1 - 1) + less (cs.take (k + 1)) = s.size := by omega
          have x3 : p2 - p1 - 1 ≤ m := by omega
          have x4 : (m : Int) ≤ 2000 := by omega
          have x5 : (p2 : Int) ≤ 2000 := by omega
          have x6 : (p1 : Int) < (p2 : Int) := by omega
          have HM2 := Lib.hid hm2
          clear hm hls hlt' hless hm2 hc hb e2 e3
          go_wp2_with fail
          go_roundw
          case rel =>
            refine ⟨k + 1, m - (p2 - p1 - 1), by omega, by go_num, ?_, HM2.out, bel.alloc bel.size _⟩
            congr 1
            omega
          case measure => simp [intOf]; omega
        · have hke : k = cs.length := by omega
          subst hke
          have hltz : ¬ (cs.length : Int) < (cs.length : Int) := by omega
          rw [List.take_length] at hm
          have hless := HLESS.out
          have hmt : (t.size : Int) = (m : Int) := by omega
          have hme : ((t.size : Int) == (m : Int)) = true := by rw [beq_iff_eq]; exact hmt
          clear hm hless hmt
          have T1 := T1.after bel
          have T2 := T2.after bel
          go_wp2_with fail
          refine (alike_any _ _ ts us _ T1 T2 (by omega) (by omega)).mono ?_
          rintro e w7 ⟨rfl, hb⟩
          rw [decide_eq_true HAL.out]
          have bb := (bb.trans (bel.mono bb.size)).trans (hb.mono (bb.trans (bel.mono bb.size)).size)
          clear hb
          go_wp2_with fail
          go_ret
          exact ⟨by simp, bb⟩
    · have hst : stripR s = ⟨#[]⟩ := by unfold stripR; rw [if_neg he]
      obtain ⟨i, hi⟩ : ∃ i, (scanR s).at_ = i := ⟨_, rfl⟩
      obtain ⟨er, her⟩ : ∃ er, (scanR s).err = er := ⟨_, rfl⟩
      have c1 := fun W h => Tokens_err s hs i er (by rw [hi]) her W h
      have c2 : ∀ W, ML W → Calls Tryd.prog 15 #[.string s] W fun e w' => e = .returned (.tuple #[.string ⟨#[]⟩, .int .i64 i, .int .i64 er]) ∧ Below W.heap.size W w' := by
        intro W h; have := Strip_any s hs W h; unfold StripQ at this; rw [hst, hi, her] at this; exact this
      rw [her] at he
      have e1 : (er != 0) = true := by rw [bne_iff_ne]; exact he
      have e2 : (er != er) = false := by simp
      have C1 := Lib.hid c1
      have C2 := Lib.hid c2
      clear c1 c2 hst hi her he
      go_enter Tryd.func4, Tryd.ntmps4
      go_wp2_with (go_at_call 13; refine (sane_any _ hml).mono ?_; rintro e w1 ⟨rfl, bb⟩)
      refine (C1.out _ (hml.below bb)).mono ?_
      rintro e w2 ⟨lv, rfl, hb⟩
      have bb := bb.trans (hb.mono bb.size)
      clear hb
      go_wp2_with fail
      refine (C2.out _ (hml.below bb)).mono ?_
      rintro e w3 ⟨rfl, hb⟩
      have bb := bb.trans (hb.mono bb.size)
      clear hb
      go_wp2_with fail
      go_ret
      exact ⟨by simp, bb⟩
end Go.Proofs.YtafofcenphopbaaDoor
