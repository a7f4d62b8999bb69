/- ParseWhole, part 7: what it stands on. -/
import Derived.Test.YtfdlmcgcckkkdaaGreatDoorV06
import Derived.Test.YtfdlmcgcckkkdaaGreatDoorV04
import Derived.Shelf.Strings.BuilderK
import Derived.Shelf.SlicesQ.Equal
import Derived.Laws.StructEq
import Derived.Shelf.SlicesQ.Load
set_option linter.all false
set_option maxHeartbeats 40000000
set_option maxRecDepth 100000
namespace Go.Proofs.YtfdlmcgcckkkdaaGreatDoor
section
open Go.RowKit Lx
def mR(ts:List Tok):List Value:=ts.flatMap fun t=>[.int .i64 t.kind,.string t.text,.int .i64 t.at_]
theorem Gz(a b:List Tok):mR (a++b)=mR a++mR b:=by simp[mR]
theorem QP: (Tryz.prog.info? 43).map (fun i=>(i.zero,i.size,i.bytes))=some (some (.agg #[.int .i64 0,.string ⟨#[]⟩,.int .i64 0]),3,32):=by kernel_rfl
theorem QN: Tryz.prog.underlying 25=some (.slice 43):=by kernel_rfl
def sS(s:ByteArray):List Tok:=if (dC s).err=0 then(dC s).toks else []
def OC(s:ByteArray):List (Nat×Nat):=if (dC s).err=0 then(dC s).coms else []
def Ia(s:ByteArray)(w:World)(e:Ending)(w':World):Prop:=
 ∃ lv cv,e=.returned (.tuple #[lv,cv,.int .i64 (dC s).at_,.int .i64 (dC s).err])∧w'.ownsRow w.heap.size 43 3 lv (sS s).length (mR (sS s))∧
  w'.ownsRow w.heap.size 180 2 cv (OC s).length (iW (OC s))∧Below w.heap.size w w'
theorem kW{s:ByteArray}{w w':World}{ts:List Tok}{cs:List (Nat×Nat)}{i:Nat}{n:Int}(h:dC s=⟨ts,cs,i,n⟩)(hn:n≠0)(hb:Below w.heap.size w w'):Ia s w (.returned (.tuple #[.slice none 0 0,.slice none 0 0,.int .i64 i,.int .i64 n])) w':=by
 have h1:sS s=[]:=by unfold sS;rw[h,if_neg hn]
 have h2:OC s=[]:=by unfold OC;rw[h,if_neg hn]
 unfold Ia;rw[h1,h2,h];exact⟨_,_,rfl,World.ownsRow_nil _ _ _ _,World.ownsRow_nil _ _ _ _,hb⟩
theorem Kn{s:ByteArray}{w w':World}{ts:List Tok}{cs:List (Nat×Nat)}{lv cv:Value}(h:dC s=⟨ts,cs,0,0⟩)(h1:w'.ownsRow w.heap.size 43 3 lv ts.length (mR ts))(h2:w'.ownsRow w.heap.size 180 2 cv cs.length (iW cs))(hb:Below w.heap.size w w'):Ia s w (.returned (.tuple #[lv,cv,.int .i64 0,.int .i64 0])) w':=by
 have e1:sS s=ts:=by unfold sS;rw[h];rfl
 have e2:OC s=cs:=by unfold OC;rw[h];rfl
 unfold Ia;rw[e1,e2,h];exact⟨lv,cv,rfl,h1,h2,hb⟩
theorem fK{fn:Func}{t u v x:Tmp}(h:fn.results=#[.tmp t,.tmp u,.tmp v,.tmp x])(tmps:Array Value)(P:Program)(w:World) :
 (results fn tmps).run P w=.ok (.tuple #[tmps.getD t undef,tmps.getD u undef,tmps.getD v undef,tmps.getD x undef]) w:=by simp[results,h]
theorem Gi{w w':World}{B0 b n size:Nat}{e T:TypeId}{v:Value}{xs:List Value}{cs:Array Value}{fr:Nat×Nat}(hown:w.ownsRow B0 e size v n xs)(hb:w.heap[b]?=some (.cells cs T fr))(hne:T≠e)(he:e≠180)(ho:Lib.OthersKept 180 (some b) w w'):w'.ownsRow B0 e size v n xs:=by
 refine⟨hown.1,?_⟩
 rcases hown.2 with h|⟨g,cap,cur,rfl,hB,hg,rest⟩
 ·exact .inl h
 ·refine .inr ⟨g,cap,cur,rfl,hB,ho g _ hg ?_ ?_,rest⟩
  ·intro h;injection h with h;subst h;rw[hg]at hb;injection hb with hb;injection hb with _ h2 _;exact hne h2.symm
  ·intro c fz h;injection h with _ h2 _;exact he h2
theorem bG.others{w w':World}{b r:Nat}{ks:List ByteArray}{cs:Array Value}{T:TypeId}{fr:Nat×Nat}(h:bG w r ks)(hb:w.heap[b]?=some (.cells cs T fr))(ho:Lib.OthersKept 180 (some b) w w'):bG w' r ks:=by
 obtain⟨es,clk,h1,h2⟩:=h;refine⟨es,clk,ho r _ h1 ?_ ?_,h2⟩
 ·intro h;injection h with h;subst h;rw[h1]at hb;injection hb with hb;cases hb
 ·intro c fz h;cases h
theorem qN{w w':World}{B0 n size:Nat}{e:TypeId}{v:Value}{xs:List Value}(hown:w.ownsRow B0 e size v n xs)(hb:Below w.heap.size w w'):w'.ownsRow B0 e size v n xs:=by
 refine⟨hown.1,?_⟩
 rcases hown.2 with h|⟨g,cap,cur,rfl,hB,hg,rest⟩
 ·exact .inl h
 ·exact .inr ⟨g,cap,cur,rfl,hB,(hb.block g (Array.getElem?_eq_some_iff.1 hg).1).trans hg,rest⟩
theorem EE{w:World}{B0 n size:Nat}{e:TypeId}{v:Value}{xs:List Value}(h:w.ownsRow B0 e size v n xs):∃ ao cap,v=.slice ao n cap:=by
 rcases h.2 with ⟨rfl,rfl⟩|⟨g,cap,cur,rfl,_⟩
 ·exact⟨_,_,rfl⟩
 ·exact⟨_,_,rfl⟩
theorem Lc{w:World}{B0 b n size:Nat}{e T:TypeId}{v:Value}{xs:List Value}{cs:Array Value}{fr:Nat×Nat}(hown:w.ownsRow B0 e size v n xs)(hb:w.heap[b]?=some (.cells cs T fr))(hne:T≠e)(j:Nat)(u:Value):(w.setCell ⟨b,j,none⟩ u).ownsRow B0 e size v n xs:=
 hown.kept (row:=some b) ⟨rfl,rfl,rfl,by simp[World.setCell],fun k _ hk=>Below.heap_setCell _ _ _ _ (fun e=>hk (by simp[e]))⟩ (Or.inr (Es hown hb hne))
theorem bG.set{w:World}{b r:Nat}{ks:List ByteArray}{cs:Array Value}{T:TypeId}{fr:Nat×Nat}(h:bG w r ks)(hb:w.heap[b]?=some (.cells cs T fr))(j:Nat)(u:Value):bG (w.setCell ⟨b,j,none⟩ u) r ks:=by
 obtain⟨es,clk,h1,h2⟩:=h;refine⟨es,clk,?_,h2⟩;rw[Below.heap_setCell _ _ _ _ (fun e=>?_)]
 ·exact h1
 ·have e':r=b:=e;subst e';rw[h1]at hb;injection hb with hb;cases hb
theorem Nj{w:World}{B0 n n2 size size2:Nat}{e e2:TypeId}{v v2:Value}{xs ys:List Value}(h:w.ownsRow B0 e size v n xs)(h2:w.ownsRow B0 e2 size2 v2 n2 ys)(hne:e≠e2):v.ownBlock=none∨v.ownBlock≠v2.ownBlock:=by
 rcases h.2 with ⟨rfl,_⟩|⟨g,cap,cur,rfl,_,hg,_⟩
 ·left;rfl
 ·right
  rcases h2.2 with ⟨rfl,_⟩|⟨g2,cap2,cur2,rfl,_,hg2,_⟩
  ·simp[Value.ownBlock]
  ·simp only[Value.ownBlock,ne_eq,Option.some.injEq]
   rintro rfl;rw[hg]at hg2;injection hg2 with hg2;injection hg2 with _ h3 _;exact hne h3
theorem bG.grown{w w':World}{B0 n size r:Nat}{e:TypeId}{v:Value}{xs:List Value}{ks:List ByteArray}(h:bG w r ks){o:Obj}(hg:(w.alloc o).grownBy w' v.ownBlock)(hown:w.ownsRow B0 e size v n xs)(_:Obj:=o):bG w' r ks:=by
 have hlt:=h.lt;obtain⟨es,clk,h1,h2⟩:=h;refine⟨es,clk,?_,h2⟩;rw[hg.block r (by simp;omega) (fun hk=>?_),Below.heap_alloc w o r hlt]
 ·exact h1
 ·rcases hown.2 with ⟨rfl,_⟩|⟨g,cap,cur,rfl,_,hgg,_⟩
  ·simp[Value.ownBlock]at hk
  ·simp only[Value.ownBlock,Option.some.injEq]at hk
   subst hk;rw[h1]at hgg;injection hgg with hgg;cases hgg
theorem Lt (s : ByteArray) (hs : s.size ≤ 140737488351232) (w : World) (hml : ML w) : Calls Tryz.prog 93 #[.string s] w (Ia s w) := by
  by_cases hbig : 20000 < s.size
  · have hr : dC s = ⟨[], [], 0, 2⟩ := by unfold dC; rw [if_pos hbig]
    have HR := Lib.hid hr
    clear hr
    go_enter Tryz.func93, Tryz.ntmps93
    go_wp2_with fail
    refine bodyPost_ret (fK rfl _ _ _) rfl ?_
    exact kW HR.out (by decide) (Below.refl _ _)
  · obtain ⟨i0, hi0, hz0, hz1, hz2⟩ := info_parts QP
    have hsz : s.size ≤ 20000 := by omega
    go_enter Tryz.func93, Tryz.ntmps93
    go_wp2_with (go_at_call 64; refine (Bv _).mono ?_; rintro e ws ⟨rfl, hm, hbs⟩)
    have b1 : Below w.heap.size w (ws.alloc (.cells #[.string s, .int .i64 0, .map (some w.heap.size), .slice none 0 0] 169)) := hbs.alloc hbs.size _
    have sc1 : Scn (ws.alloc (.cells #[.string s, .int .i64 0, .map (some w.heap.size), .slice none 0 0] 169)) ws.heap.size s 0 w.heap.size (.slice none 0 0) := heap_alloc_new ws (.cells #[.string s, .int .i64 0, .map (some w.heap.size), .slice none 0 0] 169)
    have hm1 : bG (ws.alloc (.cells #[.string s, .int .i64 0, .map (some w.heap.size), .slice none 0 0] 169)) w.heap.size aI := hm.below (aC ws (.cells #[.string s, .int .i64 0, .map (some w.heap.size), .slice none 0 0] 169)) hm.lt
    have hb0 : w.heap.size ≤ ws.heap.size := hbs.size
    generalize ws.alloc (.cells #[.string s, .int .i64 0, .map (some w.heap.size), .slice none 0 0] 169) = w1 at b1 sc1 hm1 ⊢
    generalize ws.heap.size = b at sc1 hb0 ⊢
    clear hm hbs
    obtain ⟨hMb, m0, hm0⟩ := hml
    go_loopg [7] s.size (fun g lv wr => ∃ (i : Nat) (cv : Value) (ts : List Tok) (cs : List (Nat × Nat)), i ≤ s.size ∧ g = s.size - i ∧ ts.length ≤ i ∧ ts.length ≤ 5000 ∧ cs.length ≤ i ∧ dC s = (scn s i ts.length).pre ts cs ∧
      Scn wr b s i w.heap.size cv ∧ bG wr w.heap.size aI ∧ wr.ownsRow w.heap.size 43 3 lv ts.length (mR ts) ∧ wr.ownsRow w.heap.size 180 2 cv cs.length (iW cs) ∧ Below w.heap.size w wr)
    case atStart => exact ⟨0, _, [], [], Nat.zero_le _, rfl, Nat.le_refl _, by simp, Nat.le_refl _, by rw [Kp s hsz]; simp [Res.pre], sc1, hm1, World.ownsRow_nil _ _ _ _, World.ownsRow_nil _ _ _ _, b1⟩
    case round =>
      clear b1 sc1 hm1
      obtain ⟨i, cv, ts, cs, hi, hg, hti, ht5, hci, hq, sc, hm, ownT, ownC, hb⟩ := hrel
      obtain ⟨ao, cap, rfl⟩ := EE ownT
      have hmlr : ML wr := ⟨by have := hb.size; omega, m0, (hb.cell (p := ⟨_, 0, none⟩) hMb).trans hm0⟩
      have hSP := Jr w.heap.size b w.heap.size s i cv cs hi (by omega) hci hb0 wr sc ownC hmlr hb.size hMb
      obtain ⟨ok, j, cs', hsp⟩ : ∃ ok j cs', spc s i = (ok, j, cs') := ⟨_, _, _, rfl⟩
      obtain ⟨hij, hj, hcl, hok, hbad⟩ := Hs s _ i rfl hi ts.length ok j cs' hsp
      have hSP2 : Calls Tryz.prog 133 #[.pointer (some ⟨b, 0, none⟩)] wr fun e w' => e = .returned (.bool ok) ∧ ∃ v', Scn w' b s j w.heap.size v' ∧ w'.ownsRow w.heap.size 43 3 (.slice ao ts.length cap) ts.length (mR ts) ∧ bG w' w.heap.size aI ∧
          w'.ownsRow w.heap.size 180 2 v' (cs ++ cs').length (iW (cs ++ cs')) ∧ Below w.heap.size w w' := by
        refine hSP.mono fun e w' h => ?_
        unfold EH at h
        rw [hsp] at h
        obtain ⟨rfl, v', h1, h2, h3⟩ := h
        exact ⟨rfl, v', h1, Gi ownT sc (by decide) (by decide) h3.others, hm.others sc h3.others, h2, hb.trans h3.below⟩
      have HSP := Lib.hid hSP2
      have HQ := Lib.hid hq
      have HG := Lib.hid hg
      clear hSP hSP2 hsp hq hg sc hm ownT ownC hb hmlr
      cases ok with
      | false =>
        have hres : dC s = ⟨ts, cs ++ cs', j, 50⟩ := by rw [HQ.out, hbad rfl]; simp [Res.pre]
        have HR := Lib.hid hres
        clear hok hbad hres
        go_wp2_with (go_at_call 133; refine (HSP.out).mono ?_; rintro e w2 ⟨rfl, v2, sc2, ownT, hm2, ownC, hb2⟩; obtain ⟨k0, k1, k2, k3⟩ := sc2.cell)
        go_quiet (fail)
        go_wp2_with fail
        refine bodyPost_ret (fK rfl _ _ _) rfl ?_
        exact kW HR.out (by decide) (below_drewN hb2 _)
      | true =>
        obtain ⟨hnb, hnc, hscn⟩ := hok rfl
        clear hok hbad
        by_cases hend : j = s.size
        · subst hend
          have hres : dC s = ⟨ts, cs ++ cs', 0, 0⟩ := by rw [HQ.out, hscn, Ni]; simp [Res.pre]
          have HR := Lib.hid hres
          clear hscn hres
          go_wp2_with (go_at_call 133; refine (HSP.out).mono ?_; rintro e w2 ⟨rfl, v2, sc2, ownT, hm2, ownC, hb2⟩; obtain ⟨k0, k1, k2, k3⟩ := sc2.cell)
          go_quiet (fail)
          go_wp2_with fail
          refine bodyPost_ret (fK rfl _ _ _) rfl ?_
          exact Kn HR.out ownT ownC (below_drewN hb2 _)
        · have hlt : j < s.size := by omega
          have ne1 : ((j : Int) == (s.size : Int)) = false := by rw [beq_eq_false_iff_ne]; omega
          have htok := ND s j ts.length hlt hnb hnc
          clear hnb hnc hend
          rcases hnx : iL aI (s.data.toList.drop j) with _ | g
          · have hres : dC s = ⟨ts, cs ++ cs', j, 50⟩ := by rw [HQ.out, hscn, htok, hnx]; simp [Res.pre]
            have HR := Lib.hid hres
            have hnext : ∀ W V, Scn W b s j w.heap.size V → bG W w.heap.size aI → Calls Tryz.prog 134 #[.pointer (some ⟨b, 0, none⟩)] W fun e w' => e = .returned (.tuple #[.agg #[.int .i64 0, .string ⟨#[]⟩, .int .i64 0], .int .i64 0, .bool false]) ∧ Below W.heap.size W w' := by
              intro W V h1 h2
              have := Eh b w.heap.size s j V hlt (by omega) W h1 h2
              rw [hnx] at this; exact this
            have HNX := Lib.hid hnext
            clear hscn hres htok hnx hnext
            go_wp2_with (first | (go_at_call 133; refine (HSP.out).mono ?_; rintro e w2 ⟨rfl, v2, sc2, ownT, hm2, ownC, hb2⟩; obtain ⟨k0, k1, k2, k3⟩ := sc2.cell) | (go_at_call 134; refine (HNX.out w2 v2 sc2 hm2).mono ?_; rintro e w3 ⟨rfl, hb3⟩; have sc3 := sc2.below hb3; have a1 : ∀ o, (w3.alloc o).cell? ⟨b, 1, none⟩ = some (.int .i64 j) := fun o => (sc3.below (aC w3 o)).cell.2.1))
            go_quiet (fail)
            go_wp2_with fail
            refine bodyPost_ret (fK rfl _ _ _) rfl ?_
            exact kW HR.out (by decide) (below_drewN ((hb2.trans (hb3.mono hb2.size)).alloc (by have := hb2.size; have := hb3.size; omega) _) _)
          · have htx := EV _ _ _ hnx
            have hpos := vV _ _ _ hnx
            have hfar := JJ _ s j g hnx
            have hdl := eK s j
            have hnext : ∀ W V, Scn W b s j w.heap.size V → bG W w.heap.size aI → Calls Tryz.prog 134 #[.pointer (some ⟨b, 0, none⟩)] W fun e w' => e = .returned (.tuple #[.agg #[.int .i64 g.kind, .string ⟨g.text.toArray⟩, .int .i64 j], .int .i64 (j + g.len : Nat), .bool g.ok]) ∧ Below W.heap.size W w' := by
              intro W V h1 h2
              have := Eh b w.heap.size s j V hlt (by omega) W h1 h2
              rw [hnx] at this; exact this
            have HNX := Lib.hid hnext
            rw [hnx] at htok
            simp only at htok
            have hsz2 : (⟨g.text.toArray⟩ : ByteArray).size ≤ 140737488351232 := by show g.text.toArray.size ≤ _; simp; omega
            have hcheck : ∀ W, Calls Tryz.prog 23 #[.agg #[.int .i64 g.kind, .string ⟨g.text.toArray⟩, .int .i64 j]] W fun e w' => e = .returned (.int .i64 (qB (bX g.kind ⟨g.text.toArray⟩))) ∧ Below W.heap.size W w' := fun W => nG _ _ _ hsz2 W
            clear hnx hnext
            by_cases hgo : g.ok = false
            · rw [if_pos (.inl hgo)] at htok
              have hres : dC s = ⟨ts, cs ++ cs', j, 50⟩ := by rw [HQ.out, hscn, htok]; simp [Res.pre]
              have HR := Lib.hid hres
              clear hscn hres htok hcheck htx hfar hdl
              rw [hgo] at HNX
              clear hgo
              go_wp2_with (first | (go_at_call 133; refine (HSP.out).mono ?_; rintro e w2 ⟨rfl, v2, sc2, ownT, hm2, ownC, hb2⟩; obtain ⟨k0, k1, k2, k3⟩ := sc2.cell) | (go_at_call 134; refine (HNX.out w2 v2 sc2 hm2).mono ?_; rintro e w3 ⟨rfl, hb3⟩; have sc3 := sc2.below hb3; have a1 : ∀ o, (w3.alloc o).cell? ⟨b, 1, none⟩ = some (.int .i64 j) := fun o => (sc3.below (aC w3 o)).cell.2.1))
              go_quiet (fail)
              go_wp2_with fail
              refine bodyPost_ret (fK rfl _ _ _) rfl ?_
              exact kW HR.out (by decide) (below_drewN ((hb2.trans (hb3.mono hb2.size)).alloc (by have := hb2.size; have := hb3.size; omega) _) _)
            · have hgo1 : g.ok = true := by simpa using hgo
              have hfar2 := hfar hgo1 hlt
              rw [hgo1] at HNX
              by_cases hck : bX g.kind ⟨g.text.toArray⟩ = false
              · rw [if_pos (.inr hck)] at htok
                have hres : dC s = ⟨ts, cs ++ cs', j, 50⟩ := by rw [HQ.out, hscn, htok]; simp [Res.pre]
                have HR := Lib.hid hres
                rw [hck] at hcheck
                have HCK := Lib.hid hcheck
                clear hscn hres htok hcheck htx hfar hdl hgo hgo1 hck
                go_wp2_with (first | (go_at_call 133; refine (HSP.out).mono ?_; rintro e w2 ⟨rfl, v2, sc2, ownT, hm2, ownC, hb2⟩; obtain ⟨k0, k1, k2, k3⟩ := sc2.cell) | (go_at_call 134; refine (HNX.out w2 v2 sc2 hm2).mono ?_; rintro e w3 ⟨rfl, hb3⟩; have sc3 := sc2.below hb3; have a1 : ∀ o, (w3.alloc o).cell? ⟨b, 1, none⟩ = some (.int .i64 j) := fun o => (sc3.below (aC w3 o)).cell.2.1) | (go_at_call 23; refine (HCK.out _).mono ?_; rintro e w4 ⟨rfl, hb4⟩; have sc4 := (sc3.below (aC w3 (.cells #[.int .i64 g.kind, .string ⟨g.text.toArray⟩, .int .i64 j] 43))).below hb4; have n4 := (hb4.block w3.heap.size (by simp)).trans (heap_alloc_new w3 (.cells #[.int .i64 g.kind, .string ⟨g.text.toArray⟩, .int .i64 j] 43)); have a1' : w4.cell? ⟨b, 1, none⟩ = some (.int .i64 j) := sc4.cell.2.1))
                go_quiet (fail)
                go_wp2_with fail
                refine bodyPost_ret (fK rfl _ _ _) rfl ?_
                exact kW HR.out (by decide) (below_drewN ((hb2.trans (hb3.mono hb2.size)).trans ((aT _ _ _ hb4).mono (Nat.le_trans hb2.size hb3.size))) _)
              · have hck1 : bX g.kind ⟨g.text.toArray⟩ = true := by simpa using hck
                rw [if_neg (by rw [hgo1, hck1]; simp)] at htok
                rw [hck1] at hcheck
                have HCK := Lib.hid hcheck
                by_cases h5 : ts.length = 5000
                · rw [if_pos h5] at htok
                  have hres : dC s = ⟨ts, cs ++ cs', j, 2⟩ := by rw [HQ.out, hscn, htok]; simp [Res.pre]
                  have HR := Lib.hid hres
                  have e5 : ((ts.length : Int) == 5000) = true := by rw [h5]; rfl
                  clear hscn hres htok hcheck htx hfar hdl hgo hgo1 hck hck1 h5
                  go_wp2_with (first | (go_at_call 133; refine (HSP.out).mono ?_; rintro e w2 ⟨rfl, v2, sc2, ownT, hm2, ownC, hb2⟩; obtain ⟨k0, k1, k2, k3⟩ := sc2.cell) | (go_at_call 134; refine (HNX.out w2 v2 sc2 hm2).mono ?_; rintro e w3 ⟨rfl, hb3⟩; have sc3 := sc2.below hb3; have a1 : ∀ o, (w3.alloc o).cell? ⟨b, 1, none⟩ = some (.int .i64 j) := fun o => (sc3.below (aC w3 o)).cell.2.1) | (go_at_call 23; refine (HCK.out _).mono ?_; rintro e w4 ⟨rfl, hb4⟩; have sc4 := (sc3.below (aC w3 (.cells #[.int .i64 g.kind, .string ⟨g.text.toArray⟩, .int .i64 j] 43))).below hb4; have n4 := (hb4.block w3.heap.size (by simp)).trans (heap_alloc_new w3 (.cells #[.int .i64 g.kind, .string ⟨g.text.toArray⟩, .int .i64 j] 43)); have a1' : w4.cell? ⟨b, 1, none⟩ = some (.int .i64 j) := sc4.cell.2.1))
                  go_quiet (fail)
                  go_wp2_with fail
                  refine bodyPost_ret (fK rfl _ _ _) rfl ?_
                  exact kW HR.out (by decide) (below_drewN ((hb2.trans (hb3.mono hb2.size)).trans ((aT _ _ _ hb4).mono (Nat.le_trans hb2.size hb3.size))) _)
                · rw [if_neg h5] at htok
                  have hres : dC s = (scn s (j + g.len) (ts ++ [(⟨g.kind, ⟨g.text.toArray⟩, j⟩ : Tok)]).length).pre (ts ++ [(⟨g.kind, ⟨g.text.toArray⟩, j⟩ : Tok)]) (cs ++ cs') := by
                    rw [HQ.out, hscn, htok, Lf, CM, CM, List.length_append]; simp
                  have HR := Lib.hid hres
                  have e5 : ((ts.length : Int) == 5000) = false := by rw [beq_eq_false_iff_ne]; omega
                  have hx1 : ts.length + 1 ≤ maxLen := by unfold maxLen; omega
                  have hx2 : (ts.length + 1) * 32 ≤ 140737488355328 := by omega
                  have hone : ∀ u ∈ [Value.int .i64 g.kind, Value.string ⟨g.text.toArray⟩, Value.int .i64 (j : Int)], u.oneCell' = true := by
                    intro u hu; simp at hu; rcases hu with rfl | rfl | rfl <;> rfl
                  have hp3 : 0 < 3 := by decide
                  have hp1 : 0 < 1 := by decide
                  clear hscn hres htok hcheck htx hdl hgo hgo1 hck hck1
                  go_upto_region 14 with (first | (go_at_call 133; refine (HSP.out).mono ?_; rintro e w2 ⟨rfl, v2, sc2, ownT, hm2, ownC, hb2⟩; obtain ⟨k0, k1, k2, k3⟩ := sc2.cell) | (go_at_call 134; refine (HNX.out w2 v2 sc2 hm2).mono ?_; rintro e w3 ⟨rfl, hb3⟩; have sc3 := sc2.below hb3; have a1 : ∀ o, (w3.alloc o).cell? ⟨b, 1, none⟩ = some (.int .i64 j) := fun o => (sc3.below (aC w3 o)).cell.2.1) | (go_at_call 23; refine (HCK.out _).mono ?_; rintro e w4 ⟨rfl, hb4⟩; have sc4 := (sc3.below (aC w3 (.cells #[.int .i64 g.kind, .string ⟨g.text.toArray⟩, .int .i64 j] 43))).below hb4; have n4 := (hb4.block w3.heap.size (by simp)).trans (heap_alloc_new w3 (.cells #[.int .i64 g.kind, .string ⟨g.text.toArray⟩, .int .i64 j] 43)); have a1' : w4.cell? ⟨b, 1, none⟩ = some (.int .i64 j) := sc4.cell.2.1; have y0 : w4.cell? ⟨w3.heap.size, 0, none⟩ = some (.int .i64 g.kind) := cell_of_row _ _ 0 _ _ _ n4; have y1 : w4.cell? ⟨w3.heap.size, 1, none⟩ = some (.string ⟨g.text.toArray⟩) := cell_of_row _ _ 1 _ _ _ n4; have y2 : w4.cell? ⟨w3.heap.size, 2, none⟩ = some (.int .i64 j) := cell_of_row _ _ 2 _ _ _ n4; have f1' : w4.frozen? ⟨b, 1, none⟩ = false := Lib.frozen_of_heap sc4 1; have B34 := (hb2.trans (hb3.mono hb2.size)).trans ((aT _ _ _ hb4).mono (Nat.le_trans hb2.size hb3.size)); have ownT4 := qN (qN ownT hb3) (aT _ _ _ hb4); have ownC4 := qN (qN ownC hb3) (aT _ _ _ hb4); have hm4 := (hm2.below hb3 hm2.lt).below (aT _ _ _ hb4) (hm2.below hb3 hm2.lt).lt; clear k0 k1 k2 k3 a1 sc2 sc3 ownT ownC hm2 n4))
                  go_wp2_with (at_builtin; refine wpList_append_own _ rfl _ _ 25 rfl w.heap.size 43 i0 (.agg #[.int .i64 0, .string ⟨#[]⟩, .int .i64 0]) 3 32 QN hi0 hz0 hz1 hz2 rfl hp3 _ _ _ rfl (ownT4.alloc _) ⟨w4.heap.size, 0, none⟩ 1 1 [.int .i64 g.kind, .string ⟨g.text.toArray⟩, .int .i64 j] rfl rfl ?dd1 ?dd2 ?dd3 ?dd4 ?dd5 ?_)
                  case dd1 => exact World.news_of_block (heap_alloc_new w4 (.cells #[.int .i64 g.kind, .string ⟨g.text.toArray⟩, .int .i64 j] 43))
                  case dd2 => exact hone
                  case dd3 => exact hx1
                  case dd4 => exact hx2
                  case dd5 => have := B34.size; simp; omega
                  intro v5 w5 ownT5 hgrow _
                  have hb4w : b < (w4.alloc (.cells #[.int .i64 g.kind, .string ⟨g.text.toArray⟩, .int .i64 j] 43)).heap.size := Nat.lt_succ_of_lt sc4.lt |> fun h => by simpa using h
                  have hneT := Es ownT4 sc4 (by decide : (169 : Nat) ≠ 43)
                  have sc5 : Scn w5 b s j w.heap.size v2 := (hgrow.block b hb4w (fun e => hneT e.symm)).trans ((Below.heap_alloc w4 _ b sc4.lt).trans sc4)
                  have ownC5 := (ownC4.alloc (.cells #[.int .i64 g.kind, .string ⟨g.text.toArray⟩, .int .i64 j] 43)).kept hgrow (Nj ownC4 ownT4 (by decide))
                  have hm5 := hm4.grown hgrow ownT4
                  have hb5 := (B34.alloc B34.size (.cells #[.int .i64 g.kind, .string ⟨g.text.toArray⟩, .int .i64 j] 43)).grown hgrow (by have := B34.size; simp; omega) (fun k hk => (ownT4.lt k hk).1)
                  obtain ⟨k0, k1, k2, k3⟩ := sc5.cell
                  have f1 : w5.frozen? ⟨b, 1, none⟩ = false := Lib.frozen_of_heap sc5 1
                  clear a1' y0 y1 y2 f1' hgrow hneT hone
                  go_wp2_with fail
                  go_roundg (s.size - (j + g.len))
                  case rel =>
                    refine ⟨j + g.len, v2, ts ++ [⟨g.kind, ⟨g.text.toArray⟩, j⟩], cs ++ cs', hfar2, rfl, ?_, ?_, ?_, HR.out, Scn.IA sc5 _, hm5.set sc5 1 _, ?_, Ag ownC5 sc5 1 _, hb5.setCell (p := ⟨b, 1, none⟩) hb0 _⟩
                    · rw [List.length_append]; show ts.length + 1 ≤ _; omega
                    · rw [List.length_append]; show ts.length + 1 ≤ _; omega
                    · rw [List.length_append]; omega
                    · have := Lc ownT5 sc5 (by decide) 1 (.int .i64 ((j + g.len : Nat) : Int))
                      rw [Gz, List.length_append]
                      exact this
                  case measure => rw [HG.out]; omega
def AT(s:ByteArray)(w:World)(e:Ending)(w':World):Prop:=
 ∃ lv,e=.returned (.tuple #[lv,.int .i64 (dC s).at_,.int .i64 (dC s).err])∧w'.ownsRow w.heap.size 43 3 lv (sS s).length (mR (sS s))∧Below w.heap.size w w'
theorem oQ(s:ByteArray)(hs:s.size≤140737488351232)(w:World)(hml:ML w):Calls Tryz.prog 57 #[.string s] w (AT s w):=by
 go_enter Tryz.func57,Tryz.ntmps57;go_wp2_with (go_at_call 93;refine(Lt s hs _ hml).mono ?_;rintro e w' ⟨lv,cv,rfl,h1,h2,hb⟩)
 go_ret3
 exact⟨lv,rfl,h1,hb⟩
theorem eN(B b:Nat)(bs:List Value)(s:ByteArray)(w:World)(h:Lib.IsBuilderF 126 5 B b bs w)(hlen:bs.length+s.size≤140737488355328)(hBw:B≤w.heap.size):Calls Tryz.prog 89 #[.pointer (some ⟨b,0,none⟩),.string s] w fun e w'=>e=.returned (.tuple #[.int .i64 s.size,.nilIface])∧(Lib.BuilderAtF 126 5 B b (.pointer (some ⟨b,0,none⟩)) (bs++Lib.strCells s) w'∧Below B w w'∧Lib.OthersKept 5 (some b) w w'):=
 Any.Builder_WriteString_k { Tryz.Jp with } { Tryz.lJ with } B b bs s w h hlen hBw
theorem xU{w w':World}{B B0 n size:Nat}{e:TypeId}{v:Value}{xs:List Value}(hown:w.ownsRow B0 e size v n xs)(hl:∀ g,v.ownBlock=some g→g<B)(hb:Below B w w'):w'.ownsRow B0 e size v n xs:=by
 refine⟨hown.1,?_⟩
 rcases hown.2 with h|⟨g,cap,cur,rfl,hB,hg,rest⟩
 ·exact .inl h
 ·exact .inr ⟨g,cap,cur,rfl,hB,(hb.block g (hl g rfl)).trans hg,rest⟩
structure T3 where
 kind:Int
 text:ByteArray
 at_:Int
deriving DecidableEq,Inhabited
def Tok.t3(t:Tok):T3:=⟨t.kind,t.text,t.at_⟩
def EB(t:T3):List Value:=[.int .i64 t.kind,.string t.text,.int .i64 t.at_]
def rM(ts:List T3):List Value:=ts.flatMap EB
theorem jB(ts:List Tok):mR ts=rM (ts.map Tok.t3):=by simp[mR,rM,EB,Tok.t3,List.flatMap_map]
def cK(w:World)(v:Value)(ts:List T3):Prop:=∃ ao cap,v=.slice ao ts.length cap∧(ts≠[]→∃ b off,ao=some ⟨b,off,none⟩∧b<w.heap.size∧
 ∀ j,j<ts.length→∀ i u,(EB ts[j]!)[i]?=some u→w.cell? ⟨b,off+j*3+i,none⟩=some u)
theorem cK.below{w w':World}{v:Value}{ts:List T3}{B:Nat}(h:cK w v ts)(hb:Below B w w')(hB:w.heap.size≤B):cK w' v ts:=by
 obtain⟨ao,cap,rfl,h⟩:=h;refine⟨ao,cap,rfl,fun hne=>?_⟩;obtain⟨b,off,e,hlt,hc⟩:=h hne;refine⟨b,off,e,Nat.lt_of_lt_of_le hlt hb.size,fun j hj i u hu=>?_⟩;rw[hb.cell (p:=⟨b,off+j*3+i,none⟩) (by show b<B;omega)];exact hc j hj i u hu
theorem cK.drewN{w:World}{v:Value}{ts:List T3}(h:cK w v ts)(n:Nat):cK (w.drewN n) v ts:=h
theorem FO(ts:List T3):∀ (j:Nat),j<ts.length→∀ i u,(EB ts[j]!)[i]?=some u→(rM ts)[j*3+i]?=some u:=by
 induction ts with
 | nil=>intro j h;cases h
 | cons t ts ih=>
  intro j h i u hu
  cases j with
  | zero=>
   have hi:i<3:=by
    have:=(List.getElem?_eq_some_iff.1 hu).1
    simpa[EB]using this
   rw[show rM (t::ts)=EB t++rM ts from rfl,List.getElem?_append_left (by simp[EB];omega)]
   simpa using hu
  | succ j=>
   have:=ih j (by simpa using h) i u (by simpa using hu);rw[show rM (t::ts)=EB t++rM ts from rfl,List.getElem?_append_right (by simp[EB];omega)];rw[← this]
   congr 1
   simp[EB];omega
theorem cK.Bu{w:World}{B:Nat}{v:Value}{ts:List T3}(h:w.ownsRow B 43 3 v ts.length (rM ts)):cK w v ts:=by
 obtain⟨ao,cap,rfl⟩:=EE h;refine⟨ao,cap,rfl,fun hne=>?_⟩;have hl:0<ts.length:=List.length_pos_iff.2 hne
 rcases h.2 with ⟨_,h0⟩|⟨g,cap',cur,hv,hB,hg,rest⟩
 ·omega
 ·injection hv with e1 e2 e3
  subst e1;refine⟨g,0,rfl,(Array.getElem?_eq_some_iff.1 hg).1,fun j hj i u hu=>?_⟩;have:=h.cells (g:=g) rfl _ _ (FO ts j hj i u hu);have e:∀ n,(⟨g,0,none⟩:Addr).add n=⟨g,n,none⟩:=fun n=>by unfold Addr.add;split<;>simp_all
  rw[e]at this;rw[Nat.zero_add];exact this
def uD(x y:T3):Bool:=decide (x.kind=y.kind)&&decide (x.text=y.text)
def SU(t:T3):Value:=.agg #[.int .i64 t.kind,.string t.text,.int .i64 t.at_]
theorem yS(w:World)(a b:Obj):Below w.heap.size w ((w.alloc a).alloc b):=((Below.refl _ _).alloc (Nat.le_refl _) _).alloc (by simp) _
theorem Lo(x y:T3)(w:World):Calls Tryz.prog 130 #[SU x,SU y] w fun e w'=>e=.returned (.bool (uD x y))∧Below w.heap.size w w':=by
 obtain⟨k,t,a⟩:=x;obtain⟨k',t',a'⟩:=y;have ht:(t.toList=t'.toList)=(t=t'):=by rw[ByteArray.toList_eq,ByteArray.toList_eq];obtain⟨⟨x⟩⟩:=t;obtain⟨⟨y⟩⟩:=t';simp
 unfold SU;go_enter Tryz.func130,Tryz.ntmps130;go_wp2_with fail
 all_goals (go_ret;refine⟨?_,yS _ _ _⟩)
 ·rename_i h
  by_cases h2:t=t'<;>simp[uD,h,h2,ht]
 ·rename_i h;simp[uD,h]
theorem jV{w w':World}{b off n:Nat}{ts:List T3}(hc:∀ j,j<n→∀ i u,(EB ts[j]!)[i]?=some u→w.cell? ⟨b,off+j*3+i,none⟩=some u)(hb:b<w.heap.size)(hw:Below w.heap.size w w')(j:Nat)(hj:j<n):w'.cell? ⟨b,off+j*3,none⟩=some (.int .i64 ts[j]!.kind)∧w'.cell? ⟨b,off+j*3+1,none⟩=some (.string ts[j]!.text)∧w'.cell? ⟨b,off+j*3+2,none⟩=some (.int .i64 ts[j]!.at_):=by
 have h:=fun i u hi=>(hw.cell (p:=⟨b,off+j*3+i,none⟩) hb).trans (hc j hj i u hi)
 exact⟨h 0 _ rfl,h 1 _ rfl,h 2 _ rfl⟩
theorem GA(a b:Value)(xs ys:List T3)(w:World)(h1:cK w a xs)(h2:cK w b ys)(hx:xs.length≤9223372036854775807)(_hy:ys.length≤9223372036854775807):Calls Tryz.prog 129 #[a,b,.func (.func 130) #[] #[]] w fun e w'=>e=.returned (.bool (Lib.allEq uD xs ys))∧Below w.heap.size w w':=by
 obtain⟨ao,ac,rfl,h1⟩:=h1;obtain⟨bo,bc,rfl,h2⟩:=h2
 by_cases hl:xs.length=ys.length
 ·go_enter Tryz.func129,Tryz.ntmps129;go_wp2_with fail;generalize hn:xs.length=n at h1 ⊢;have hy':ys.length=n:=by omega
  rw[hy']at h2 ⊢
  go_loopg [17] n (fun gg q wr=>∃ kk:Nat,kk≤n∧n - kk≤gg∧q=.int .i64 kk∧Aside (Below w.heap.size w wr)∧Aside (∀ j,j<kk→uD xs[j]! ys[j]! = true))
  case atStart=>exact⟨0,Nat.zero_le _,by omega,rfl,Below.refl _ w,fun j hj=>absurd hj (Nat.not_lt_zero _)⟩
  case round=>
   obtain⟨kk,hkk,hg,rfl,BW,A⟩:=hrel
   by_cases hlt:kk<n
   ·have hltz:(kk:Int)<(n:Int):=by omega
    obtain⟨b1,o1,rfl,l1,c1⟩:=h1 (by intro e;rw[e]at hn;simp at hn;omega);obtain⟨b2,o2,rfl,l2,c2⟩:=h2 (by intro e;rw[e]at hy';simp at hy';omega);have r1:=jV c1 l1 BW.out kk hlt;have hr2:=fun W (hW:Below w.heap.size w W)=>jV c2 l2 hW kk hlt
    have HR2:=Lib.hid hr2;clear hr2 c1 c2 l1 l2 h1 h2;generalize hxk:xs[kk]! = x at r1;generalize hyk:ys[kk]! = y at HR2;have B:Aside (xs[kk]! = x∧ys[kk]! = y):=⟨hxk,hyk⟩
    clear hxk hyk;obtain⟨p0,p1,p2⟩:=r1;go_upto_region 6 with fail;have bw1:Below w.heap.size w (wr.alloc (.cells #[.int .i64 x.kind,.string x.text,.int .i64 x.at_] 43)):=BW.out.alloc BW.out.size _;have n1:=heap_alloc_new wr (.cells #[.int .i64 x.kind,.string x.text,.int .i64 x.at_] 43);have z1:w.heap.size≤wr.heap.size:=BW.out.size;generalize wr.alloc (.cells #[.int .i64 x.kind,.string x.text,.int .i64 x.at_] 43)=w1 at bw1 n1 ⊢;have N1:=Lib.hid n1;have hz1:=(Array.getElem?_eq_some_iff.1 n1).1;generalize wr.heap.size=B1 at n1 N1 hz1 z1 ⊢;obtain⟨s0,s1,s2⟩:=HR2.out w1 bw1;clear n1 HR2 p0 p1 p2 BW;go_upto_region 7 with fail;have hk1:(w1.alloc (.cells #[.int .i64 y.kind,.string y.text,.int .i64 y.at_] 43)).heap[B1]?=_:=(Lib.alloc_old w1 _ B1 hz1).trans N1.out;have bw2:Below w.heap.size w (w1.alloc (.cells #[.int .i64 y.kind,.string y.text,.int .i64 y.at_] 43)):=bw1.alloc bw1.size _;have n2:=heap_alloc_new w1 (.cells #[.int .i64 y.kind,.string y.text,.int .i64 y.at_] 43);have z2:w.heap.size≤w1.heap.size:=bw1.size;generalize w1.alloc (.cells #[.int .i64 y.kind,.string y.text,.int .i64 y.at_] 43)=w2 at bw2 n2 hk1 ⊢;have q0:w2.cell? ⟨B1,0,none⟩=some (.int .i64 x.kind):=by rw[Lib.cell_of_heap hk1];rfl
    have q1:w2.cell? ⟨B1,1,none⟩=some (.string x.text):=by rw[Lib.cell_of_heap hk1];rfl
    have q2:w2.cell? ⟨B1,2,none⟩=some (.int .i64 x.at_):=by rw[Lib.cell_of_heap hk1];rfl
    have t0:w2.cell? ⟨w1.heap.size,0,none⟩=some (.int .i64 y.kind):=by rw[Lib.cell_of_heap n2];rfl
    have t1:w2.cell? ⟨w1.heap.size,1,none⟩=some (.string y.text):=by rw[Lib.cell_of_heap n2];rfl
    have t2:w2.cell? ⟨w1.heap.size,2,none⟩=some (.int .i64 y.at_):=by rw[Lib.cell_of_heap n2];rfl
    have hcall:=fun W=>Lo x y W
    unfold SU at hcall;have z3:=bw2.size;clear hk1 n2 N1 s0 s1 s2 bw1 hz1 z1 z2
    cases hq:uD x y with
    | false=>
     rw[hq]at hcall;go_wp2_with fail;refine(hcall _).mono ?_;rintro e w' ⟨rfl,hb'⟩;go_wp2_with fail;go_ret;refine⟨?_,bw2.trans (hb'.mono z3)⟩;rw[Lib.allEq_elem uD xs ys kk (by omega) (by omega) (by rw[B.out.1,B.out.2];exact hq)];rfl
    | true=>
     rw[hq]at hcall;go_wp2_with fail;refine(hcall _).mono ?_;rintro e w' ⟨rfl,hb'⟩;go_wp2_with fail
     go_roundg (n - (kk+1))
     case measure=>omega
     case rel=>
      refine⟨kk+1,by omega,by omega,by go_num,bw2.trans (hb'.mono z3),(show Aside _ from fun j hj=>?_)⟩
      by_cases e:j=kk
      ·subst e;rw[B.out.1,B.out.2];exact hq
      ·exact A.out j (by omega)
   ·have hltz:¬ (kk:Int)<(n:Int):=by omega
    have:kk=n:=by omega
    subst this;go_wp2_with fail;go_ret;exact⟨by rw[Lib.allEq_all uD xs ys (by omega) (by rw[hn];exact A.out)];rfl,BW.out⟩
 ·rw[Lib.allEq_len _ _ _ hl];have hl':¬ (xs.length:Int)=ys.length:=by omega
  clear h1 h2;go_enter Tryz.func129,Tryz.ntmps129;go_wp2_with fail;go_ret;exact⟨rfl,Below.refl _ _⟩
end
end Go.Proofs.YtfdlmcgcckkkdaaGreatDoor
