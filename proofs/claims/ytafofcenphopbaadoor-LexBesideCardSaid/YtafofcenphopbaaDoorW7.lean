/- LexBeside: the walk. -/
import Derived.Test.YtafofcenphopbaaDoorA40
import Derived.Test.YtafofcenphopbaaDoorW2
namespace Go.Proofs.YtafofcenphopbaaDoor
open Go.RowKit Lx

theorem scanR_small (s : ByteArray) (h : s.size ≤ 5000) : ((scanR s).err = 0 ∨ (scanR s).err = 50) ∧ (scanR s).at_ ≤ s.size := by
  have h2 := (parse_rest s.data.toList).1
  rw [show s.data.toList.length = s.size from rfl] at h2
  rw [scanR_parse s h]
  refine ⟨?_, ?_⟩
  · show (if _ then _ else _) = (0 : Int) ∨ (if _ then _ else _) = (50 : Int)
    split
    · exact .inl rfl
    · exact .inr rfl
  · show (if _ then _ else _) ≤ _
    split <;> omega
theorem Tokens_own (s : ByteArray) (hs : s.size ≤ 140737488351232) (he : (scanR s).err = 0) (us : List T3) (hu : (scanR s).toks.map Tok.t3 = us) (w : World) (hml : ML w) : Calls Tryd.prog 14 #[.string s] w fun e w' =>
    ∃ lv, e = .returned (.tuple #[lv, .int .i64 0, .int .i64 0]) ∧ w'.ownsRow w.heap.size 37 3 lv us.length (rcells us) ∧ Below w.heap.size w w' := by
  have hat := scanR_at0 s he
  refine (Tokens_any s hs w hml).mono ?_
  rintro e w' ⟨lv, rfl, hown, hb⟩
  rw [outT_ok he, rcells_tcells, ← List.length_map (f := Tok.t3), hu] at hown
  rw [he, hat]
  exact ⟨lv, rfl, hown, hb⟩
def shiftT (d : Nat) (t : T3) : T3 := ⟨t.kind, t.text, t.at_ + (d : Int)⟩
theorem rcells_shift (d : Nat) (a r : List T3) (t : T3) (v : Int) (hv : v = t.at_ + (d : Int)) : (rcells (a ++ t :: r)).set (a.length * 3 + 2) (.int .i64 v) = rcells (a ++ shiftT d t :: r) := by
  subst hv
  rw [rcells_app, rcells_app, List.set_append_right _ _ (by rw [rcells_length]; omega), rcells_length]
  rw [show a.length * 3 + 2 - a.length * 3 = 2 from by omega]
  rfl
theorem itoks_at (r : List It) : ∀ i, ∀ t ∈ itoks i r, t.at_ ≤ i + wid r := by
  induction r with
  | nil => intro i t ht; cases ht
  | cons it r ih =>
    intro i t ht
    unfold itoks at ht
    simp only [wid]
    rcases h : it.tok with _ | ⟨k, x⟩
    · rw [h] at ht
      have := ih _ t ht; omega
    · rw [h] at ht
      rcases List.mem_cons.1 ht with rfl | ht
      · show i ≤ _; omega
      · have := ih _ t ht; omega
theorem toks_at (s : ByteArray) (h : s.size ≤ 5000) : ∀ t ∈ (scanR s).toks, t.at_ ≤ 5000 := by
  intro t ht
  rw [scanR_parse s h] at ht
  have := itoks_at _ _ t ht
  have h2 := (parse_rest s.data.toList).1
  rw [show s.data.toList.length = s.size from rfl] at h2
  omega
theorem own_store {w : World} {B0 b n size : Nat} {e : TypeId} {v : Value} {xs : List Value} (h : w.ownsRow B0 e size v n xs) (hb : b < B0) (j : Nat) (u : Value) : (w.setCell ⟨b, j, none⟩ u).ownsRow B0 e size v n xs := by
  refine ⟨h.1, ?_⟩
  rcases h.2 with hn | ⟨g, cap, cur, rfl, hb0, hgg, rest⟩
  · exact .inl hn
  · exact .inr ⟨g, cap, cur, rfl, hb0, by rw [Below.heap_setCell _ _ _ _ (fun e => by simp at e; omega)]; exact hgg, rest⟩
set_option maxHeartbeats 4000000 in
set_option maxRecDepth 100000 in
theorem LexBeside_fine (a b : ByteArray) (nl : Bool) (c : UInt8) (hc : c = if nl then 10 else 32) (ha : a.size ≤ 2000) (hbs : b.size ≤ 2000) (he : (scanR a).err = 0) (he2 : (scanR b).err = 0) (w : World) (hml : ML w) :
    Calls Tryd.prog 10 #[.string a, .string b, .bool nl] w fun e w' => e = .returned (.bool true) ∧ Below w.heap.size w w' := by
  obtain ⟨q1, _, q3⟩ := law_beside a b c (by subst hc; cases nl <;> simp) ha hbs he
  have q1 := q1.trans he2
  have q3 := q3 he2
  have hta := toks_le a he
  have htb := toks_le b he2
  have hat := toks_at b (by omega)
  obtain ⟨xs, hxs⟩ : ∃ xs, (scanR a).toks.map Tok.t3 = xs := ⟨_, rfl⟩
  obtain ⟨ys, hys⟩ : ∃ ys, (scanR b).toks.map Tok.t3 = ys := ⟨_, rfl⟩
  have hzs : (scanR (a ++ ⟨#[c]⟩ ++ b)).toks.map Tok.t3 = xs ++ ys.map (shiftT (a.size + 1)) := by
    rw [q3, List.map_append, hxs, ← hys, List.map_map, List.map_map]; rfl
  have hsz : (a ++ ⟨#[c]⟩ ++ b).size ≤ 140737488351232 := by
    rw [ByteArray.size_append, ByteArray.size_append]; show a.size + 1 + b.size ≤ _; omega
  have hyat : ∀ k (h : k < ys.length), 0 ≤ (ys[k]'h).at_ ∧ (ys[k]'h).at_ ≤ 5000 := by
    intro k h
    have hk : k < (scanR b).toks.length := by rw [← List.length_map (f := Tok.t3), hys]; exact h
    have e : ys[k]'h = Tok.t3 ((scanR b).toks[k]'hk) := by simp only [← hys, List.getElem_map]
    rw [e]
    have := hat _ (List.getElem_mem hk)
    exact ⟨by show (0 : Int) ≤ ((_ : Nat) : Int); omega, by show ((_ : Nat) : Int) ≤ 5000; omega⟩
  have c1 := Tokens_own a (by omega) he xs hxs
  have c2 := Tokens_own b (by omega) he2 ys hys
  have c3 := Tokens_own _ hsz q1 _ hzs
  have hxl : xs.length ≤ 5000 := by rw [← hxs, List.length_map]; exact hta
  have hyl : ys.length ≤ 5000 := by rw [← hys, List.length_map]; exact htb
  have C1 := Lib.hid c1
  have C2 := Lib.hid c2
  have C3 := Lib.hid c3
  have YAT := Lib.hid hyat
  clear c1 c2 c3 q1 q3 hta htb hat hzs hsz hyat hxs hys he he2
  generalize hn : ys.length = n at C2 hyl
  have HN := Lib.hid hn
  have YAT' := YAT
  clear hn
  have g1 : ¬ (2000 : Int) < (a.size : Int) := by omega
  have g2 : ¬ (2000 : Int) < (b.size : Int) := by omega
  have g3 : ¬ 9223372036854775807 < a.size + 1 := by omega
  have g4 : ¬ 9223372036854775807 < a.size + 1 + b.size := by omega
  have g5 : IntKind.i64.wrap ((a.size : Int) + 1) = (a.size : Int) + 1 := IntWalk.i64_in _ (by omega)
  have hyk : ∀ k (h : k < ys.length), IntKind.i64.wrap ((ys[k]'h).at_ + ((a.size : Int) + 1)) = (ys[k]'h).at_ + ((a.size : Int) + 1) := fun k h => IntWalk.i64_in _ (by have := YAT.out k h; omega)
  have YK := Lib.hid hyk
  clear YAT YAT' hyk
  obtain ⟨zs, hzs⟩ : ∃ zs, xs ++ ys.map (shiftT (a.size + 1)) = zs := ⟨_, rfl⟩
  rw [hzs] at C3
  have HZ := Lib.hid hzs
  have hzl : zs.length ≤ 10000 := by rw [← hzs, List.length_append, List.length_map, HN.out]; omega
  clear hzs
  obtain ⟨nx, hnx⟩ : ∃ m, xs.length = m := ⟨_, rfl⟩
  have NX := Lib.hid hnx
  rw [hnx] at C1 hxl
  clear hnx
  have hcc : (nl = false ∧ c = 32) ∨ (nl = true ∧ c = 10) := by subst hc; cases nl <;> simp
  clear hc
  rcases hcc with ⟨rfl, rfl⟩ | ⟨rfl, rfl⟩
  all_goals (
    go_enter Tryd.func10, Tryd.ntmps10
    go_wp2_with (go_at_call 13; refine (sane_any _ hml).mono ?_; rintro e w1 ⟨rfl, bb⟩)
    refine (C1.out _ (hml.below bb)).mono ?_
    rintro e w2 ⟨xv, rfl, T1, hb⟩
    obtain ⟨ax, cx, rfl⟩ := own_form T1
    have T1 := Lib.hid T1
    have bb := bb.trans (hb.mono bb.size)
    clear hb
    go_wp2_with fail
    refine (C2.out _ (hml.below bb)).mono ?_
    rintro e w3 ⟨yv, rfl, T2, hb2⟩
    obtain ⟨ay, cy, rfl⟩ := own_form T2
    have T2 := Lib.hid T2
    have z2 := hb2.size
    have bb3 := bb.trans (hb2.mono bb.size)
    go_wp2_with fail
    refine (C3.out _ (hml.below bb3)).mono ?_
    rintro e w4 ⟨zv, rfl, T3, hb3⟩
    have z3 := hb3.size
    have T3 := Lib.hid T3
    have T2' := Lib.hid (own_below T2.out hb3)
    have hb4 := hb2.trans (hb3.mono z2)
    have HG := Lib.hid (fun k hk => (T2.out.lt k hk).2)
    clear T2 bb3 hb2 hb3
    go_wp2_with fail
    go_loopw [71] (fun q wr => ∃ k : Nat, k ≤ n ∧ q = .int .i64 k ∧ wr.ownsRow w2.heap.size 37 3 (.slice ay n cy) n (rcells ((ys.take k).map (shiftT (a.size + 1)) ++ ys.drop k)) ∧ wr.ownsRow w3.heap.size 37 3 zv zs.length (rcells zs) ∧ Below w2.heap.size w2 wr) (fun q _ => n - (intOf q).toNat)
    case atStart => exact ⟨0, Nat.zero_le _, rfl, by simpa using T2'.out, T3.out, hb4⟩
    case round =>
      obtain ⟨k, hk, rfl, ownr, ownz, bel⟩ := hrel
      by_cases hlt : k < n
      · have hltz : (k : Int) < (n : Int) := by omega
        have hkl : k < ys.length := by rw [HN.out]; exact hlt
        have hdr : ys.drop k = ys[k] :: ys.drop (k + 1) := List.drop_eq_getElem_cons hkl
        have hrow := ownr
        rcases ownr.2 with ⟨_, h0⟩ | ⟨g, cap', cur, hv, hB, hg, rest⟩
        · omega
        injection hv with e1 e2 e3
        subst e1
        have hgl : g < w3.heap.size := HG.out g rfl
        clear rest hg
        have hst := hrow.stored (k * 3 + 2) (.int .i64 (ys[k].at_ + ((a.size : Int) + 1)))
        have hln : ((ys.take k).map (shiftT (a.size + 1))).length = k := by rw [List.length_map, List.length_take]; omega
        rw [hdr] at hst
        have hset := rcells_shift (a.size + 1) ((ys.take k).map (shiftT (a.size + 1))) (ys.drop (k + 1)) ys[k] (ys[k].at_ + ((a.size : Int) + 1)) (by simp)
        rw [hln] at hset
        rw [hset] at hst
        have hx : (ys.take (k + 1)).map (shiftT (a.size + 1)) ++ ys.drop (k + 1) = (ys.take k).map (shiftT (a.size + 1)) ++ shiftT (a.size + 1) ys[k] :: ys.drop (k + 1) := by
          rw [List.take_succ_eq_append_getElem hkl, List.map_append, List.append_assoc]; rfl
        rw [← hx] at hst
        have hf := hrow.frozenAt (k * 3 + 2)
        have hcl := hrow.cellAt (k * 3 + 2) (by omega)
        have hcc : wr.cell? ⟨g, k * 3 + 2, none⟩ = some (.int .i64 ys[k].at_) := by
          rw [hcl, hdr, rcells_app, List.getElem?_append_right (by rw [rcells_length, hln]; omega), rcells_length, hln]
          rw [show k * 3 + 2 - k * 3 = 2 from by omega]; rfl
        have hoz := own_store ownz hgl (k * 3 + 2) (.int .i64 (ys[k].at_ + ((a.size : Int) + 1)))
        have HST := Lib.hid hst
        have HOZ := Lib.hid hoz
        have hw := YK.out k hkl
        generalize ys[k].at_ = yk at hcc HST HOZ hw
        clear hst hoz hset hx hcl hdr hrow hln ownr ownz
        go_wp2_with fail
        go_roundw
        case rel => exact ⟨k + 1, hlt, by go_num, HST.out.1, HOZ.out, bel.setCell (p := ⟨g, k * 3 + 2, none⟩) hB _⟩
        case measure => simp [intOf]; omega
      · have hke : k = n := by omega
        subst hke
        have hltz : ¬ (k : Int) < (k : Int) := by omega
        rw [← HN.out, List.take_length, List.drop_length, List.append_nil] at ownr
        have S2 : Src wr (.slice ay ys.length cy) (ys.map (shiftT (a.size + 1))) := Src.of_own (by rw [List.length_map]; exact ownr)
        rw [HN.out] at S2
        have S1 : Src w2 (.slice ax nx cx) xs := Src.of_own (by rw [NX.out]; exact T1.out)
        have S1 := S1.below bel (Nat.le_refl _)
        have SZ := TokRow.of_own ownz
        have bb := bb.trans (bel.mono bb.size)
        have HS1 := Lib.hid S1
        have HS2 := Lib.hid S2
        have HSZ := Lib.hid SZ
        clear S1 S2 SZ ownr ownz T1 T2' T3 HG YK C1 C2 C3
        go_wp2_with fail
        have nB := heap_alloc_new wr (.cells #[.slice ax nx cx, .slice ay k cy] 23)
        have bB := below_box wr (.cells #[.slice ax nx cx, .slice ay k cy] 23)
        refine (Concat_any _ _ xs (ys.map (shiftT (a.size + 1))) wr.heap.size _ nB (HS1.out.below bB (Nat.le_refl _)) (HS2.out.below bB (Nat.le_refl _)) (by rw [NX.out]; omega) (by rw [List.length_map, HN.out]; omega)).mono ?_
        rintro e w5 ⟨cv, rfl, SC, hb5⟩
        have hbb := bB.trans (hb5.mono bB.size)
        have bb5 := bb.trans (hbb.mono bb.size)
        have SZ := HSZ.out.after hbb
        have SC : TokRow w5 cv zs := by rw [← HZ.out]; exact SC.row
        clear nB bB hb5 hbb
        go_wp2_with fail
        refine (EqualT_any zv cv zs zs _ SZ SC (by omega) (by omega)).mono ?_
        rintro e w6 ⟨rfl, q, rfl⟩
        rw [decide_eq_true rfl]
        go_wp2_with fail
        go_ret
        exact ⟨rfl, below_drewN bb5 q⟩)
set_option maxHeartbeats 4000000 in
set_option maxRecDepth 100000 in
theorem LexBeside_err (a b : ByteArray) (nl : Bool) (ha : a.size ≤ 2000) (hbs : b.size ≤ 2000) (he : (scanR a).err = 0) (he2 : (scanR b).err ≠ 0) (w : World) (hml : ML w) :
    Calls Tryd.prog 10 #[.string a, .string b, .bool nl] w fun e w' => e = .returned (.bool true) ∧ Below w.heap.size w w' := by
  obtain ⟨c, hc⟩ : ∃ c : UInt8, c = if nl then 10 else 32 := ⟨_, rfl⟩
  obtain ⟨q1, q2, _⟩ := law_beside a b c (by subst hc; cases nl <;> simp) ha hbs he
  have q2 := q2 he2
  obtain ⟨e50, hatb⟩ := scanR_small b (by omega)
  have e50 : (scanR b).err = 50 := by rcases e50 with h | h; exact absurd h he2; exact h
  have q1 := q1.trans e50
  have hat0 := scanR_at0 a he
  obtain ⟨d, hd⟩ : ∃ d, (scanR b).at_ = d := ⟨_, rfl⟩
  rw [hd] at q2 hatb
  have hsz : (a ++ ⟨#[c]⟩ ++ b).size ≤ 140737488351232 := by
    rw [ByteArray.size_append, ByteArray.size_append]; show a.size + 1 + b.size ≤ _; omega
  have c1 := fun W h => Tokens_err a (by omega) 0 0 (by rw [hat0]; rfl) he W h
  have c2 := fun W h => Tokens_err b (by omega) d 50 (by rw [hd]) e50 W h
  have c3 := fun W h => Tokens_err (a ++ ⟨#[c]⟩ ++ b) hsz ((a.size : Int) + 1 + d) 50 (by rw [q2]; omega) q1 W h
  have C1 := Lib.hid c1
  have C2 := Lib.hid c2
  have C3 := Lib.hid c3
  clear c1 c2 c3 q1 q2 hsz e50 hat0 hd he he2
  have g1 : ¬ (2000 : Int) < (a.size : Int) := by omega
  have g2 : ¬ (2000 : Int) < (b.size : Int) := by omega
  have g3 : ¬ 9223372036854775807 < a.size + 1 := by omega
  have g4 : ¬ 9223372036854775807 < a.size + 1 + b.size := by omega
  have g5 : IntKind.i64.wrap ((a.size : Int) + 1) = (a.size : Int) + 1 := IntWalk.i64_in _ (by omega)
  have g6 : IntKind.i64.wrap ((a.size : Int) + 1 + (d : Int)) = (a.size : Int) + 1 + (d : Int) := IntWalk.i64_in _ (by omega)
  have hcc : (nl = false ∧ c = 32) ∨ (nl = true ∧ c = 10) := by subst hc; cases nl <;> simp
  clear hc
  rcases hcc with ⟨rfl, rfl⟩ | ⟨rfl, rfl⟩
  all_goals (
    go_enter Tryd.func10, Tryd.ntmps10
    go_wp2_with (go_at_call 13; refine (sane_any _ hml).mono ?_; rintro e w1 ⟨rfl, bb⟩)
    refine (C1.out _ (hml.below bb)).mono ?_
    rintro e w2 ⟨xv, rfl, hb⟩
    have bb := bb.trans (hb.mono bb.size)
    clear hb
    go_wp2_with fail
    refine (C2.out _ (hml.below bb)).mono ?_
    rintro e w3 ⟨yv, rfl, hb⟩
    have bb := bb.trans (hb.mono bb.size)
    clear hb
    go_wp2_with fail
    refine (C3.out _ (hml.below bb)).mono ?_
    rintro e w4 ⟨zv, rfl, hb⟩
    have bb := bb.trans (hb.mono bb.size)
    clear hb
    go_wp2_with fail
    go_ret
    exact ⟨rfl, bb⟩)
set_option maxHeartbeats 4000000 in
set_option maxRecDepth 100000 in
theorem LexBeside_walk (a b : ByteArray) (nl : Bool) (w : World) (hml : ML w) :
    Calls Tryd.prog 10 #[.string a, .string b, .bool nl] w fun e w' => e = .returned (.bool true) ∧ Below w.heap.size w w' := by
  by_cases h1 : (2000 : Int) < (a.size : Int)
  · go_enter Tryd.func10, Tryd.ntmps10
    go_wp2_with (go_at_call 13; refine (sane_any _ hml).mono ?_; rintro e w1 ⟨rfl, bb⟩)
    go_ret
    exact ⟨rfl, bb⟩
  by_cases h2 : (2000 : Int) < (b.size : Int)
  · go_enter Tryd.func10, Tryd.ntmps10
    go_wp2_with (go_at_call 13; refine (sane_any _ hml).mono ?_; rintro e w1 ⟨rfl, bb⟩)
    go_ret
    exact ⟨rfl, bb⟩
  by_cases he : (scanR a).err = 0
  · by_cases he2 : (scanR b).err = 0
    · exact LexBeside_fine a b nl _ rfl (by omega) (by omega) he he2 w hml
    · exact LexBeside_err a b nl (by omega) (by omega) he he2 w hml
  · obtain ⟨e50, _⟩ := scanR_small a (by omega)
    have e50 : (scanR a).err = 50 := by rcases e50 with h | h; exact absurd h he; exact h
    have c1 := fun W h => Tokens_err a (by omega) _ 50 rfl e50 W h
    have c2 := fun W h => Tokens_err b (by omega) _ _ rfl rfl W h
    have C1 := Lib.hid c1
    have C2 := Lib.hid c2
    clear c1 c2 e50 he
    go_enter Tryd.func10, Tryd.ntmps10
    go_wp2_with (go_at_call 13; refine (sane_any _ hml).mono ?_; rintro e w1 ⟨rfl, bb⟩)
    refine (C1.out _ (hml.below bb)).mono ?_
    rintro e w2 ⟨xv, rfl, hb⟩
    have bb := bb.trans (hb.mono bb.size)
    clear hb
    go_wp2_with fail
    refine (C2.out _ (hml.below bb)).mono ?_
    rintro e w3 ⟨yv, rfl, hb⟩
    have bb := bb.trans (hb.mono bb.size)
    clear hb
    go_wp2_with fail
    go_ret
    exact ⟨rfl, bb⟩
end Go.Proofs.YtafofcenphopbaaDoor
