/- Walks: scan. -/
import Derived.Test.YtafofcenphopbaaGreatDoorA9
import Derived.Test.YtafofcenphopbaaGreatDoorA10
import Derived.Test.YtafofcenphopbaaGreatDoorL5
namespace Go.Proofs.YtafofcenphopbaaGreatDoor
open Go.RowKit Lx

/-- The cells of tokens. -/
def tcells (ts : List Tok) : List Value := ts.flatMap fun t => [.int .i64 t.kind, .string t.text, .int .i64 t.at_]
theorem tcells_app (a b : List Tok) : tcells (a ++ b) = tcells a ++ tcells b := by simp [tcells]
theorem infoT : (Tryz.prog.info? 24).map (fun i => (i.zero, i.size, i.bytes)) = some (some (.agg #[.int .i64 0, .string ⟨#[]⟩, .int .i64 0]), 3, 32) := by kernel_rfl
theorem undTs : Tryz.prog.underlying 22 = some (.slice 24) := by kernel_rfl
def outT (s : ByteArray) : List Tok := if (scanR s).err = 0 then (scanR s).toks else []
def outC (s : ByteArray) : List (Nat × Nat) := if (scanR s).err = 0 then (scanR s).coms else []
/-- What scan hands back. -/
def ScanQ (s : ByteArray) (w : World) (e : Ending) (w' : World) : Prop :=
  ∃ lv cv, e = .returned (.tuple #[lv, cv, .int .i64 (scanR s).at_, .int .i64 (scanR s).err]) ∧ w'.ownsRow w.heap.size 24 3 lv (outT s).length (tcells (outT s)) ∧
    w'.ownsRow w.heap.size 69 2 cv (outC s).length (ccells (outC s)) ∧ Below w.heap.size w w'
theorem scanQ_err {s : ByteArray} {w w' : World} {ts : List Tok} {cs : List (Nat × Nat)} {i : Nat} {n : Int} (h : scanR s = ⟨ts, cs, i, n⟩) (hn : n ≠ 0) (hb : Below w.heap.size w w') :
    ScanQ s w (.returned (.tuple #[.slice none 0 0, .slice none 0 0, .int .i64 i, .int .i64 n])) w' := by
  have h1 : outT s = [] := by unfold outT; rw [h, if_neg hn]
  have h2 : outC s = [] := by unfold outC; rw [h, if_neg hn]
  unfold ScanQ
  rw [h1, h2, h]
  exact ⟨_, _, rfl, World.ownsRow_nil _ _ _ _, World.ownsRow_nil _ _ _ _, hb⟩
theorem scanQ_ok {s : ByteArray} {w w' : World} {ts : List Tok} {cs : List (Nat × Nat)} {lv cv : Value} (h : scanR s = ⟨ts, cs, 0, 0⟩) (h1 : w'.ownsRow w.heap.size 24 3 lv ts.length (tcells ts))
    (h2 : w'.ownsRow w.heap.size 69 2 cv cs.length (ccells cs)) (hb : Below w.heap.size w w') : ScanQ s w (.returned (.tuple #[lv, cv, .int .i64 0, .int .i64 0])) w' := by
  have e1 : outT s = ts := by unfold outT; rw [h]; rfl
  have e2 : outC s = cs := by unfold outC; rw [h]; rfl
  unfold ScanQ
  rw [e1, e2, h]
  exact ⟨lv, cv, rfl, h1, h2, hb⟩
/-- Four results. -/
theorem results_four {fn : Func} {t u v x : Tmp} (h : fn.results = #[.tmp t, .tmp u, .tmp v, .tmp x]) (tmps : Array Value) (P : Program) (w : World) :
    (results fn tmps).run P w = .ok (.tuple #[tmps.getD t undef, tmps.getD u undef, tmps.getD v undef, tmps.getD x undef]) w := by simp [results, h]
/-- A row of another type stands behind space. -/
theorem own_others {w w' : World} {B0 b n size : Nat} {e T : TypeId} {v : Value} {xs : List Value} {cs : Array Value} {fr : Nat × Nat} (hown : w.ownsRow B0 e size v n xs) (hb : w.heap[b]? = some (.cells cs T fr)) (hne : T ≠ e) (he : e ≠ 69)
    (ho : Lib.OthersKept 69 (some b) w w') : w'.ownsRow B0 e size v n xs := by
  refine ⟨hown.1, ?_⟩
  rcases hown.2 with h | ⟨g, cap, cur, rfl, hB, hg, rest⟩
  · exact .inl h
  · refine .inr ⟨g, cap, cur, rfl, hB, ho g _ hg ?_ ?_, rest⟩
    · intro h; injection h with h; subst h
      rw [hg] at hb; injection hb with hb; injection hb with _ h2 _; exact hne h2.symm
    · intro c fz h; injection h with _ h2 _; exact he h2
theorem SignMap.others {w w' : World} {b r : Nat} {ks : List ByteArray} {cs : Array Value} {T : TypeId} {fr : Nat × Nat} (h : SignMap w r ks) (hb : w.heap[b]? = some (.cells cs T fr)) (ho : Lib.OthersKept 69 (some b) w w') : SignMap w' r ks := by
  obtain ⟨es, clk, h1, h2⟩ := h
  refine ⟨es, clk, ho r _ h1 ?_ ?_, h2⟩
  · intro h; injection h with h; subst h; rw [h1] at hb; injection hb with hb; cases hb
  · intro c fz h; cases h
/-- An owned row stands where all that lay stands. -/
theorem own_below {w w' : World} {B0 n size : Nat} {e : TypeId} {v : Value} {xs : List Value} (hown : w.ownsRow B0 e size v n xs) (hb : Below w.heap.size w w') : w'.ownsRow B0 e size v n xs := by
  refine ⟨hown.1, ?_⟩
  rcases hown.2 with h | ⟨g, cap, cur, rfl, hB, hg, rest⟩
  · exact .inl h
  · exact .inr ⟨g, cap, cur, rfl, hB, (hb.block g (Array.getElem?_eq_some_iff.1 hg).1).trans hg, rest⟩

theorem own_form {w : World} {B0 n size : Nat} {e : TypeId} {v : Value} {xs : List Value} (h : w.ownsRow B0 e size v n xs) : ∃ ao cap, v = .slice ao n cap := by
  rcases h.2 with ⟨rfl, rfl⟩ | ⟨g, cap, cur, rfl, _⟩
  · exact ⟨_, _, rfl⟩
  · exact ⟨_, _, rfl⟩
theorem own_set' {w : World} {B0 b n size : Nat} {e T : TypeId} {v : Value} {xs : List Value} {cs : Array Value} {fr : Nat × Nat} (hown : w.ownsRow B0 e size v n xs) (hb : w.heap[b]? = some (.cells cs T fr)) (hne : T ≠ e) (j : Nat) (u : Value) :
    (w.setCell ⟨b, j, none⟩ u).ownsRow B0 e size v n xs :=
  hown.kept (row := some b) ⟨rfl, rfl, rfl, by simp [World.setCell], fun k _ hk => Below.heap_setCell _ _ _ _ (fun e => hk (by simp [e]))⟩ (Or.inr (own_ne hown hb hne))
theorem SignMap.set {w : World} {b r : Nat} {ks : List ByteArray} {cs : Array Value} {T : TypeId} {fr : Nat × Nat} (h : SignMap w r ks) (hb : w.heap[b]? = some (.cells cs T fr)) (j : Nat) (u : Value) : SignMap (w.setCell ⟨b, j, none⟩ u) r ks := by
  obtain ⟨es, clk, h1, h2⟩ := h
  refine ⟨es, clk, ?_, h2⟩
  rw [Below.heap_setCell _ _ _ _ (fun e => ?_)]
  · exact h1
  · have e' : r = b := e
    subst e'; rw [h1] at hb; injection hb with hb; cases hb

theorem rows_ne {w : World} {B0 n n2 size size2 : Nat} {e e2 : TypeId} {v v2 : Value} {xs ys : List Value} (h : w.ownsRow B0 e size v n xs) (h2 : w.ownsRow B0 e2 size2 v2 n2 ys) (hne : e ≠ e2) : v.ownBlock = none ∨ v.ownBlock ≠ v2.ownBlock := by
  rcases h.2 with ⟨rfl, _⟩ | ⟨g, cap, cur, rfl, _, hg, _⟩
  · left; rfl
  · right
    rcases h2.2 with ⟨rfl, _⟩ | ⟨g2, cap2, cur2, rfl, _, hg2, _⟩
    · simp [Value.ownBlock]
    · simp only [Value.ownBlock, ne_eq, Option.some.injEq]
      rintro rfl
      rw [hg] at hg2; injection hg2 with hg2; injection hg2 with _ h3 _; exact hne h3
theorem SignMap.grown {w w' : World} {B0 n size r : Nat} {e : TypeId} {v : Value} {xs : List Value} {ks : List ByteArray} (h : SignMap w r ks) {o : Obj} (hg : (w.alloc o).grownBy w' v.ownBlock) (hown : w.ownsRow B0 e size v n xs) (_ : Obj := o) : SignMap w' r ks := by
  have hlt := h.lt
  obtain ⟨es, clk, h1, h2⟩ := h
  refine ⟨es, clk, ?_, h2⟩
  rw [hg.block r (by simp; omega) (fun hk => ?_), Below.heap_alloc w o r hlt]
  · exact h1
  · rcases hown.2 with ⟨rfl, _⟩ | ⟨g, cap, cur, rfl, _, hgg, _⟩
    · simp [Value.ownBlock] at hk
    · simp only [Value.ownBlock, Option.some.injEq] at hk
      subst hk; rw [h1] at hgg; injection hgg with hgg; cases hgg

set_option maxHeartbeats 4000000 in
set_option maxRecDepth 100000 in
theorem scan_any (s : ByteArray) (hs : s.size ≤ 140737488351232) (w : World) (hml : ML w) :
    Calls Tryz.prog 56 #[.string s] w (ScanQ s w) := by
  by_cases hbig : 20000 < s.size
  · have hr : scanR s = ⟨[], [], 0, 2⟩ := by unfold scanR; rw [if_pos hbig]
    have HR := Lib.hid hr
    clear hr
    go_enter Tryz.func56, Tryz.ntmps56
    go_wp2_with fail
    refine bodyPost_ret (results_four rfl _ _ _) rfl ?_
    exact scanQ_err HR.out (by decide) (Below.refl _ _)
  · obtain ⟨i0, hi0, hz0, hz1, hz2⟩ := info_parts infoT
    have hsz : s.size ≤ 20000 := by omega
    go_enter Tryz.func56, Tryz.ntmps56
    go_wp2_with (go_at_call 75; refine (signs_any _).mono ?_; rintro e ws ⟨rfl, hm, hbs⟩)
    have b1 : Below w.heap.size w (ws.alloc (.cells #[.string s, .int .i64 0, .map (some w.heap.size), .slice none 0 0] 123)) := hbs.alloc hbs.size _
    have sc1 : Scn (ws.alloc (.cells #[.string s, .int .i64 0, .map (some w.heap.size), .slice none 0 0] 123)) ws.heap.size s 0 w.heap.size (.slice none 0 0) := heap_alloc_new ws (.cells #[.string s, .int .i64 0, .map (some w.heap.size), .slice none 0 0] 123)
    have hm1 : SignMap (ws.alloc (.cells #[.string s, .int .i64 0, .map (some w.heap.size), .slice none 0 0] 123)) w.heap.size signList := hm.below (below_box ws (.cells #[.string s, .int .i64 0, .map (some w.heap.size), .slice none 0 0] 123)) hm.lt
    have hb0 : w.heap.size ≤ ws.heap.size := hbs.size
    generalize ws.alloc (.cells #[.string s, .int .i64 0, .map (some w.heap.size), .slice none 0 0] 123) = w1 at b1 sc1 hm1 ⊢
    generalize ws.heap.size = b at sc1 hb0 ⊢
    clear hm hbs
    obtain ⟨hMb, m0, hm0⟩ := hml
    go_loopg [7] s.size (fun g lv wr => ∃ (i : Nat) (cv : Value) (ts : List Tok) (cs : List (Nat × Nat)), i ≤ s.size ∧ g = s.size - i ∧ ts.length ≤ i ∧ ts.length ≤ 5000 ∧ cs.length ≤ i ∧ scanR s = (scn s i ts.length).pre ts cs ∧
      Scn wr b s i w.heap.size cv ∧ SignMap wr w.heap.size signList ∧ wr.ownsRow w.heap.size 24 3 lv ts.length (tcells ts) ∧ wr.ownsRow w.heap.size 69 2 cv cs.length (ccells cs) ∧ Below w.heap.size w wr)
    case atStart => exact ⟨0, _, [], [], Nat.zero_le _, rfl, Nat.le_refl _, by simp, Nat.le_refl _, by rw [scanR_eq s hsz]; simp [Res.pre], sc1, hm1, World.ownsRow_nil _ _ _ _, World.ownsRow_nil _ _ _ _, b1⟩
    case round =>
      clear b1 sc1 hm1
      obtain ⟨i, cv, ts, cs, hi, hg, hti, ht5, hci, hq, sc, hm, ownT, ownC, hb⟩ := hrel
      obtain ⟨ao, cap, rfl⟩ := own_form ownT
      have hmlr : ML wr := ⟨by have := hb.size; omega, m0, (hb.cell (p := ⟨_, 0, none⟩) hMb).trans hm0⟩
      have hSP := space_any w.heap.size b w.heap.size s i cv cs hi (by omega) hci hb0 wr sc ownC hmlr hb.size hMb
      obtain ⟨ok, j, cs', hsp⟩ : ∃ ok j cs', spc s i = (ok, j, cs') := ⟨_, _, _, rfl⟩
      obtain ⟨hij, hj, hcl, hok, hbad⟩ := spc_facts s _ i rfl hi ts.length ok j cs' hsp
      have hSP2 : Calls Tryz.prog 90 #[.pointer (some ⟨b, 0, none⟩)] wr fun e w' => e = .returned (.bool ok) ∧ ∃ v', Scn w' b s j w.heap.size v' ∧ w'.ownsRow w.heap.size 24 3 (.slice ao ts.length cap) ts.length (tcells ts) ∧ SignMap w' w.heap.size signList ∧
          w'.ownsRow w.heap.size 69 2 v' (cs ++ cs').length (ccells (cs ++ cs')) ∧ Below w.heap.size w w' := by
        refine hSP.mono fun e w' h => ?_
        unfold SpaceQ at h
        rw [hsp] at h
        obtain ⟨rfl, v', h1, h2, h3⟩ := h
        exact ⟨rfl, v', h1, own_others ownT sc (by decide) (by decide) h3.others, hm.others sc h3.others, h2, hb.trans h3.below⟩
      have HSP := Lib.hid hSP2
      have HQ := Lib.hid hq
      have HG := Lib.hid hg
      clear hSP hSP2 hsp hq hg sc hm ownT ownC hb hmlr
      cases ok with
      | false =>
        have hres : scanR s = ⟨ts, cs ++ cs', j, 50⟩ := by rw [HQ.out, hbad rfl]; simp [Res.pre]
        have HR := Lib.hid hres
        clear hok hbad hres
        go_wp2_with (go_at_call 90; refine (HSP.out).mono ?_; rintro e w2 ⟨rfl, v2, sc2, ownT, hm2, ownC, hb2⟩; obtain ⟨k0, k1, k2, k3⟩ := sc2.cell)
        go_quiet (fail)
        go_wp2_with fail
        refine bodyPost_ret (results_four rfl _ _ _) rfl ?_
        exact scanQ_err HR.out (by decide) (below_drewN hb2 _)
      | true =>
        obtain ⟨hnb, hnc, hscn⟩ := hok rfl
        clear hok hbad
        by_cases hend : j = s.size
        · subst hend
          have hres : scanR s = ⟨ts, cs ++ cs', 0, 0⟩ := by rw [HQ.out, hscn, scn_end]; simp [Res.pre]
          have HR := Lib.hid hres
          clear hscn hres
          go_wp2_with (go_at_call 90; refine (HSP.out).mono ?_; rintro e w2 ⟨rfl, v2, sc2, ownT, hm2, ownC, hb2⟩; obtain ⟨k0, k1, k2, k3⟩ := sc2.cell)
          go_quiet (fail)
          go_wp2_with fail
          refine bodyPost_ret (results_four rfl _ _ _) rfl ?_
          exact scanQ_ok HR.out ownT ownC (below_drewN hb2 _)
        · have hlt : j < s.size := by omega
          have ne1 : ((j : Int) == (s.size : Int)) = false := by rw [beq_eq_false_iff_ne]; omega
          have htok := scn_tok s j ts.length hlt hnb hnc
          clear hnb hnc hend
          rcases hnx : nextI signList (s.data.toList.drop j) with _ | g
          · have hres : scanR s = ⟨ts, cs ++ cs', j, 50⟩ := by rw [HQ.out, hscn, htok, hnx]; simp [Res.pre]
            have HR := Lib.hid hres
            have hnext : ∀ W V, Scn W b s j w.heap.size V → SignMap W w.heap.size signList → Calls Tryz.prog 91 #[.pointer (some ⟨b, 0, none⟩)] W fun e w' => e = .returned (.tuple #[.agg #[.int .i64 0, .string ⟨#[]⟩, .int .i64 0], .int .i64 0, .bool false]) ∧ Below W.heap.size W w' := by
              intro W V h1 h2
              have := next_any b w.heap.size s j V hlt (by omega) W h1 h2
              rw [hnx] at this; exact this
            have HNX := Lib.hid hnext
            clear hscn hres htok hnx hnext
            go_wp2_with (first | (go_at_call 90; refine (HSP.out).mono ?_; rintro e w2 ⟨rfl, v2, sc2, ownT, hm2, ownC, hb2⟩; obtain ⟨k0, k1, k2, k3⟩ := sc2.cell) | (go_at_call 91; refine (HNX.out w2 v2 sc2 hm2).mono ?_; rintro e w3 ⟨rfl, hb3⟩; have sc3 := sc2.below hb3; have a1 : ∀ o, (w3.alloc o).cell? ⟨b, 1, none⟩ = some (.int .i64 j) := fun o => (sc3.below (below_box w3 o)).cell.2.1))
            go_quiet (fail)
            go_wp2_with fail
            refine bodyPost_ret (results_four rfl _ _ _) rfl ?_
            exact scanQ_err HR.out (by decide) (below_drewN ((hb2.trans (hb3.mono hb2.size)).alloc (by have := hb2.size; have := hb3.size; omega) _) _)
          · have htx := nextI_text _ _ _ hnx
            have hpos := nextI_pos _ _ _ hnx
            have hfar := nextI_len _ s j g hnx
            have hdl := drop_len s j
            have hnext : ∀ W V, Scn W b s j w.heap.size V → SignMap W w.heap.size signList → Calls Tryz.prog 91 #[.pointer (some ⟨b, 0, none⟩)] W fun e w' => e = .returned (.tuple #[.agg #[.int .i64 g.kind, .string ⟨g.text.toArray⟩, .int .i64 j], .int .i64 (j + g.len : Nat), .bool g.ok]) ∧ Below W.heap.size W w' := by
              intro W V h1 h2
              have := next_any b w.heap.size s j V hlt (by omega) W h1 h2
              rw [hnx] at this; exact this
            have HNX := Lib.hid hnext
            rw [hnx] at htok
            simp only at htok
            have hsz2 : (⟨g.text.toArray⟩ : ByteArray).size ≤ 140737488351232 := by show g.text.toArray.size ≤ _; simp; omega
            have hcheck : ∀ W, Calls Tryz.prog 35 #[.agg #[.int .i64 g.kind, .string ⟨g.text.toArray⟩, .int .i64 j]] W fun e w' => e = .returned (.int .i64 (errIf (checkI g.kind ⟨g.text.toArray⟩))) ∧ Below W.heap.size W w' := fun W => Check_any _ _ _ hsz2 W
            clear hnx hnext
            by_cases hgo : g.ok = false
            · rw [if_pos (.inl hgo)] at htok
              have hres : scanR s = ⟨ts, cs ++ cs', j, 50⟩ := by rw [HQ.out, hscn, htok]; simp [Res.pre]
              have HR := Lib.hid hres
              clear hscn hres htok hcheck htx hfar hdl
              rw [hgo] at HNX
              clear hgo
              go_wp2_with (first | (go_at_call 90; refine (HSP.out).mono ?_; rintro e w2 ⟨rfl, v2, sc2, ownT, hm2, ownC, hb2⟩; obtain ⟨k0, k1, k2, k3⟩ := sc2.cell) | (go_at_call 91; refine (HNX.out w2 v2 sc2 hm2).mono ?_; rintro e w3 ⟨rfl, hb3⟩; have sc3 := sc2.below hb3; have a1 : ∀ o, (w3.alloc o).cell? ⟨b, 1, none⟩ = some (.int .i64 j) := fun o => (sc3.below (below_box w3 o)).cell.2.1))
              go_quiet (fail)
              go_wp2_with fail
              refine bodyPost_ret (results_four rfl _ _ _) rfl ?_
              exact scanQ_err HR.out (by decide) (below_drewN ((hb2.trans (hb3.mono hb2.size)).alloc (by have := hb2.size; have := hb3.size; omega) _) _)
            · have hgo1 : g.ok = true := by simpa using hgo
              have hfar2 := hfar hgo1 hlt
              rw [hgo1] at HNX
              by_cases hck : checkI g.kind ⟨g.text.toArray⟩ = false
              · rw [if_pos (.inr hck)] at htok
                have hres : scanR s = ⟨ts, cs ++ cs', j, 50⟩ := by rw [HQ.out, hscn, htok]; simp [Res.pre]
                have HR := Lib.hid hres
                rw [hck] at hcheck
                have HCK := Lib.hid hcheck
                clear hscn hres htok hcheck htx hfar hdl hgo hgo1 hck
                go_wp2_with (first | (go_at_call 90; refine (HSP.out).mono ?_; rintro e w2 ⟨rfl, v2, sc2, ownT, hm2, ownC, hb2⟩; obtain ⟨k0, k1, k2, k3⟩ := sc2.cell) | (go_at_call 91; refine (HNX.out w2 v2 sc2 hm2).mono ?_; rintro e w3 ⟨rfl, hb3⟩; have sc3 := sc2.below hb3; have a1 : ∀ o, (w3.alloc o).cell? ⟨b, 1, none⟩ = some (.int .i64 j) := fun o => (sc3.below (below_box w3 o)).cell.2.1) | (go_at_call 35; refine (HCK.out _).mono ?_; rintro e w4 ⟨rfl, hb4⟩; have sc4 := (sc3.below (below_box w3 (.cells #[.int .i64 g.kind, .string ⟨g.text.toArray⟩, .int .i64 j] 24))).below hb4; have n4 := (hb4.block w3.heap.size (by simp)).trans (heap_alloc_new w3 (.cells #[.int .i64 g.kind, .string ⟨g.text.toArray⟩, .int .i64 j] 24)); have a1' : w4.cell? ⟨b, 1, none⟩ = some (.int .i64 j) := sc4.cell.2.1))
                go_quiet (fail)
                go_wp2_with fail
                refine bodyPost_ret (results_four rfl _ _ _) rfl ?_
                exact scanQ_err HR.out (by decide) (below_drewN ((hb2.trans (hb3.mono hb2.size)).trans ((below_box_then _ _ _ hb4).mono (Nat.le_trans hb2.size hb3.size))) _)
              · have hck1 : checkI g.kind ⟨g.text.toArray⟩ = true := by simpa using hck
                rw [if_neg (by rw [hgo1, hck1]; simp)] at htok
                rw [hck1] at hcheck
                have HCK := Lib.hid hcheck
                by_cases h5 : ts.length = 5000
                · rw [if_pos h5] at htok
                  have hres : scanR s = ⟨ts, cs ++ cs', j, 2⟩ := by rw [HQ.out, hscn, htok]; simp [Res.pre]
                  have HR := Lib.hid hres
                  have e5 : ((ts.length : Int) == 5000) = true := by rw [h5]; rfl
                  clear hscn hres htok hcheck htx hfar hdl hgo hgo1 hck hck1 h5
                  go_wp2_with (first | (go_at_call 90; refine (HSP.out).mono ?_; rintro e w2 ⟨rfl, v2, sc2, ownT, hm2, ownC, hb2⟩; obtain ⟨k0, k1, k2, k3⟩ := sc2.cell) | (go_at_call 91; refine (HNX.out w2 v2 sc2 hm2).mono ?_; rintro e w3 ⟨rfl, hb3⟩; have sc3 := sc2.below hb3; have a1 : ∀ o, (w3.alloc o).cell? ⟨b, 1, none⟩ = some (.int .i64 j) := fun o => (sc3.below (below_box w3 o)).cell.2.1) | (go_at_call 35; refine (HCK.out _).mono ?_; rintro e w4 ⟨rfl, hb4⟩; have sc4 := (sc3.below (below_box w3 (.cells #[.int .i64 g.kind, .string ⟨g.text.toArray⟩, .int .i64 j] 24))).below hb4; have n4 := (hb4.block w3.heap.size (by simp)).trans (heap_alloc_new w3 (.cells #[.int .i64 g.kind, .string ⟨g.text.toArray⟩, .int .i64 j] 24)); have a1' : w4.cell? ⟨b, 1, none⟩ = some (.int .i64 j) := sc4.cell.2.1))
                  go_quiet (fail)
                  go_wp2_with fail
                  refine bodyPost_ret (results_four rfl _ _ _) rfl ?_
                  exact scanQ_err HR.out (by decide) (below_drewN ((hb2.trans (hb3.mono hb2.size)).trans ((below_box_then _ _ _ hb4).mono (Nat.le_trans hb2.size hb3.size))) _)
                · rw [if_neg h5] at htok
                  have hres : scanR s = (scn s (j + g.len) (ts ++ [(⟨g.kind, ⟨g.text.toArray⟩, j⟩ : Tok)]).length).pre (ts ++ [(⟨g.kind, ⟨g.text.toArray⟩, j⟩ : Tok)]) (cs ++ cs') := by
                    rw [HQ.out, hscn, htok, addT_pre, pre_pre, pre_pre, List.length_append]; simp
                  have HR := Lib.hid hres
                  have e5 : ((ts.length : Int) == 5000) = false := by rw [beq_eq_false_iff_ne]; omega
                  have hx1 : ts.length + 1 ≤ maxLen := by unfold maxLen; omega
                  have hx2 : (ts.length + 1) * 32 ≤ 140737488355328 := by omega
                  have hone : ∀ u ∈ [Value.int .i64 g.kind, Value.string ⟨g.text.toArray⟩, Value.int .i64 (j : Int)], u.oneCell' = true := by
                    intro u hu; simp at hu; rcases hu with rfl | rfl | rfl <;> rfl
                  have hp3 : 0 < 3 := by decide
                  have hp1 : 0 < 1 := by decide
                  clear hscn hres htok hcheck htx hdl hgo hgo1 hck hck1
                  go_upto_region 14 with (first | (go_at_call 90; refine (HSP.out).mono ?_; rintro e w2 ⟨rfl, v2, sc2, ownT, hm2, ownC, hb2⟩; obtain ⟨k0, k1, k2, k3⟩ := sc2.cell) | (go_at_call 91; refine (HNX.out w2 v2 sc2 hm2).mono ?_; rintro e w3 ⟨rfl, hb3⟩; have sc3 := sc2.below hb3; have a1 : ∀ o, (w3.alloc o).cell? ⟨b, 1, none⟩ = some (.int .i64 j) := fun o => (sc3.below (below_box w3 o)).cell.2.1) | (go_at_call 35; refine (HCK.out _).mono ?_; rintro e w4 ⟨rfl, hb4⟩; have sc4 := (sc3.below (below_box w3 (.cells #[.int .i64 g.kind, .string ⟨g.text.toArray⟩, .int .i64 j] 24))).below hb4; have n4 := (hb4.block w3.heap.size (by simp)).trans (heap_alloc_new w3 (.cells #[.int .i64 g.kind, .string ⟨g.text.toArray⟩, .int .i64 j] 24)); have a1' : w4.cell? ⟨b, 1, none⟩ = some (.int .i64 j) := sc4.cell.2.1; have y0 : w4.cell? ⟨w3.heap.size, 0, none⟩ = some (.int .i64 g.kind) := cell_of_row _ _ 0 _ _ _ n4; have y1 : w4.cell? ⟨w3.heap.size, 1, none⟩ = some (.string ⟨g.text.toArray⟩) := cell_of_row _ _ 1 _ _ _ n4; have y2 : w4.cell? ⟨w3.heap.size, 2, none⟩ = some (.int .i64 j) := cell_of_row _ _ 2 _ _ _ n4; have f1' : w4.frozen? ⟨b, 1, none⟩ = false := Lib.frozen_of_heap sc4 1; have B34 := (hb2.trans (hb3.mono hb2.size)).trans ((below_box_then _ _ _ hb4).mono (Nat.le_trans hb2.size hb3.size)); have ownT4 := own_below (own_below ownT hb3) (below_box_then _ _ _ hb4); have ownC4 := own_below (own_below ownC hb3) (below_box_then _ _ _ hb4); have hm4 := (hm2.below hb3 hm2.lt).below (below_box_then _ _ _ hb4) (hm2.below hb3 hm2.lt).lt; clear k0 k1 k2 k3 a1 sc2 sc3 ownT ownC hm2 n4))
                  go_wp2_with (at_builtin; refine wpList_append_own _ rfl _ _ 22 rfl w.heap.size 24 i0 (.agg #[.int .i64 0, .string ⟨#[]⟩, .int .i64 0]) 3 32 undTs hi0 hz0 hz1 hz2 rfl hp3 _ _ _ rfl (ownT4.alloc _) ⟨w4.heap.size, 0, none⟩ 1 1 [.int .i64 g.kind, .string ⟨g.text.toArray⟩, .int .i64 j] rfl rfl ?dd1 ?dd2 ?dd3 ?dd4 ?dd5 ?_)
                  case dd1 => exact World.news_of_block (heap_alloc_new w4 (.cells #[.int .i64 g.kind, .string ⟨g.text.toArray⟩, .int .i64 j] 24))
                  case dd2 => exact hone
                  case dd3 => exact hx1
                  case dd4 => exact hx2
                  case dd5 => have := B34.size; simp; omega
                  intro v5 w5 ownT5 hgrow _
                  have hb4w : b < (w4.alloc (.cells #[.int .i64 g.kind, .string ⟨g.text.toArray⟩, .int .i64 j] 24)).heap.size := Nat.lt_succ_of_lt sc4.lt |> fun h => by simpa using h
                  have hneT := own_ne ownT4 sc4 (by decide : (123 : Nat) ≠ 24)
                  have sc5 : Scn w5 b s j w.heap.size v2 := (hgrow.block b hb4w (fun e => hneT e.symm)).trans ((Below.heap_alloc w4 _ b sc4.lt).trans sc4)
                  have ownC5 := (ownC4.alloc (.cells #[.int .i64 g.kind, .string ⟨g.text.toArray⟩, .int .i64 j] 24)).kept hgrow (rows_ne ownC4 ownT4 (by decide))
                  have hm5 := hm4.grown hgrow ownT4
                  have hb5 := (B34.alloc B34.size (.cells #[.int .i64 g.kind, .string ⟨g.text.toArray⟩, .int .i64 j] 24)).grown hgrow (by have := B34.size; simp; omega) (fun k hk => (ownT4.lt k hk).1)
                  obtain ⟨k0, k1, k2, k3⟩ := sc5.cell
                  have f1 : w5.frozen? ⟨b, 1, none⟩ = false := Lib.frozen_of_heap sc5 1
                  clear a1' y0 y1 y2 f1' hgrow hneT hone
                  go_wp2_with fail
                  go_roundg (s.size - (j + g.len))
                  case rel =>
                    refine ⟨j + g.len, v2, ts ++ [⟨g.kind, ⟨g.text.toArray⟩, j⟩], cs ++ cs', hfar2, rfl, ?_, ?_, ?_, HR.out, Scn.set_at sc5 _, hm5.set sc5 1 _, ?_, own_set ownC5 sc5 1 _, hb5.setCell (p := ⟨b, 1, none⟩) hb0 _⟩
                    · rw [List.length_append]; show ts.length + 1 ≤ _; omega
                    · rw [List.length_append]; show ts.length + 1 ≤ _; omega
                    · rw [List.length_append]; omega
                    · have := own_set' ownT5 sc5 (by decide) 1 (.int .i64 ((j + g.len : Nat) : Int))
                      rw [tcells_app, List.length_append]
                      exact this
                  case measure => rw [HG.out]; omega
end Go.Proofs.YtafofcenphopbaaGreatDoor
