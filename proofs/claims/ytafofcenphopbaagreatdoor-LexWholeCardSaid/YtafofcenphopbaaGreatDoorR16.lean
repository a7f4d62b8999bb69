/- LexWhole: the row, out of its walk. -/
import Derived.Test.YtafofcenphopbaaGreatDoorTie
import Derived.Test.YtafofcenphopbaaGreatDoorCards
import Derived.Test.YtafofcenphopbaaGreatDoorA5
import Derived.ProofKit
import Derived.OpenShut
import Derived.LaidMore
import Derived.Lay
import Derived.SevenTiedAt
import Derived.Stop.Joined
import Derived.HandedShaped
import Derived.Shelf.Vars
import Derived.Test.YtafofcenphopbaaGreatDoorK5
import Derived.Test.YtafofcenphopbaaGreatDoorA36
namespace Go.Proofs.YtafofcenphopbaaGreatDoor
open Go.ChangeShapes Go.WideShapes Go.ChangeAt Go.RowKit

theorem ownN : ownKnob Tryz.prog.godebug = none := by kernel_rfl
def laid2 : List (String × DataW Unit) := Rows.lexPrintsRow.laid
set_option maxRecDepth 100000 in
theorem shaped2 (os : Os) : (World.laidAll Tryz.prog os laid2).Shaped Tryz.prog := World.shaped_of_ZipB (by kernel_rfl) (by kernel_rfl)

section
variable {H : Type} {enc : TypeId × Value → H}
/-- A row that lists variables, its contract handed the world's shape and the reach. -/
theorem handed_of {C : Checked} {os : Os} {f : FuncId} {fn : Func} {s : ChangeSpec} {X : World → Array Value → Prop}
    (own : ownKnob C.prog.godebug = none) (started : os.Started) (noInit : C.prog.inits.idxOf? f = none) (hfn : C.prog.funcs[f]? = some fn)
    (witness : ∃ (w : World) (tape : Tape) (i : Input), w.os = os ∧ (w.forCall tape i).Shaped C.prog ∧ i.vars = [] ∧ Input.okWide C.prog (w.forCall tape i) .any w.heap.size f i ∧
      ((s.pre enc C.prog fn [] false (w.forCall tape i).memory i.args ∧ X (w.forCall tape i).memory i.args) ∧ sizedMet enc C.prog fn (OpenSpec.ofChange s) false (w.forCall tape i).memory i.args) ∧ ({} : Assume).holds C.prog (lone (Frame.enter C.prog f i.args .normal) [] (w.forCall tape i)))
    (contract : ∀ (W : World) (base : Nat) (args : Array Value) (ds gs : List (DataW H)) (before : List MemPlace),
      (∀ (j : Nat) t v, fn.params[j]? = some t → args[j]? = some v → Value.okWide C.prog W .any base t v) →
      DataW.Whole enc C.prog fn.params.toList s.vars false W args.toList ds gs before →
      (DataW.weightsEach C.prog (fn.params.toList ++ s.plain.varTypes C.prog) (ds ++ gs)).all (· ≤ reachBytes) = true → W.ShapedOpen C.prog →
      Calls C.prog f args W fun e W' => ∃ v, e = .returned v ∧ s.post enc C.prog fn false true false false W args v W') :
    ReturnsInHanded {} C os f .any (fun w args => (s.pre enc C.prog fn [] false w args ∧ X w args) ∧ sizedMet enc C.prog fn (OpenSpec.ofChange s) false w args) (s.post enc C.prog fn false true false false) := by
  refine returnsInHanded_of_calls own started noInit witness ?_
  intro w tape i _ hsh _ hok hpre hholds
  obtain ⟨_, _, _, fn', hfn', _, _, _, _, hval⟩ := hok
  have e : fn' = fn := Option.some.inj (hfn'.symm.trans hfn)
  subst e
  obtain ⟨⟨⟨ds, gs, before, hw, hc⟩, hx⟩, hz⟩ := hpre
  have hw' := DataW.Whole.of_heap (w' := w.forCall tape i) (by rfl) hw
  refine (contract (w.forCall tape i) w.heap.size i.args ds gs before hval hw' (hz.weights hw) hsh).mono fun e W' ⟨v, he, hp⟩ => ?_
  subst he
  exact ChangeSpec.post_blind hp
end

/-- The library's variable holds an integer, in every world of that shape. -/
theorem ml_of {W : World} (h : W.ShapedOpen Tryz.prog) : ML W := by
  obtain ⟨m, hm⟩ := cell_of_shapedOpen_int (g := 3) (t := 3) (zero := #[.int .i64 0]) (k := .i64) h (of_decide_eq_true (by kernel_rfl)) (by kernel_rfl) rfl (by kernel_rfl) (by kernel_rfl) Tryz.underlying3
  exact ⟨World.block_lt_of_cell? _ _ hm, m, hm⟩

section
variable {H : Type} {enc : TypeId × Value → H}
set_option maxRecDepth 100000 in
/-- A law that answered true, and changed nothing that stood. -/
theorem law_post {f : Func} {s : ChangeSpec} {W W' : World} {args : Array Value} {ds : List (DataW H)} {before : List MemPlace}
    (hW : DataW.Whole enc Tryz.prog f.params.toList s.vars false W args.toList ds [] before) (hv : s.vars = []) (hr : f.resultTypes = #[4]) (hs : s.fn H (ds ++ []) = { results := [.lit (.bool true)], args := ds })
    (hargs : ∀ sp : Nat → Bool, (∀ p ∈ before, sp p.block = true) → DataW.TrodAll enc Tryz.prog W' 0 sp true f.params.toList args.toList ds before) (hb : Below W.heap.size W W') :
    s.post enc Tryz.prog f false true false false W args (.bool true) W' := by
  have hlt : ∀ p ∈ before, p.block < W.heap.size := fun p hp => hW.lt p hp
  have hold : ∀ p ∈ before, (fun b => decide (b < W.heap.size)) p.block = true := fun p hp => by simpa using hlt p hp
  have hres : ∀ (b : Nat) (sp : Nat → Bool) (hd : Bool), DataW.TrodAll enc Tryz.prog W' b sp hd f.resultTypes.toList ((Value.bool true).resultList f.resultTypes.size) (s.fn H (ds ++ [])).results [] := by
    intro b sp hd
    rw [hr, hs]
    exact trodAll_mk1 (shut_bool Tryz.underlying4 _)
  have hvars : ∀ sp : Nat → Bool, DataW.TrodVars enc Tryz.prog W' sp s.vars (s.fn H (ds ++ [])).vars [] := by
    intro sp; rw [hv, hs]; exact rfl
  have hargs' : ∀ sp : Nat → Bool, (∀ p ∈ before, sp p.block = true) → DataW.TrodAll enc Tryz.prog W' 0 sp true f.params.toList args.toList (s.fn H (ds ++ [])).args before := by
    intro sp hsp; rw [hs]; exact hargs sp hsp
  refine ⟨ds, [], before, [], before, [], hW, hres _ _ _, hargs' _ hold, hvars _, World.keptBut_mono (fun p hp => ⟨hp, ?_⟩) (hb.frame (· ∈ before)), fun _ => ?_⟩
  · exact Or.inr (by simpa using hp)
  · obtain ⟨_, _, _, _, _, hz, hn⟩ := hW
    refine ⟨?_, _, _, ([] ++ before) ++ [], ⟨[] ++ before, [], trodAll_append (hargs' _ (fun _ _ => rfl)) (hres _ _ _), hvars _, rfl, ?_, ?_⟩, ?_⟩
    · exact ok_one hr rfl (okWide_bool_mk Tryz.underlying4 _)
    · intro b off hp
      have hin : MemPlace.cell b off ∈ before := by simpa using hp
      rw [hb.frozen (hlt _ hin)]
      exact hz b off hin
    · intro ha
      cases ha
    · intro p hp _
      simpa using hp
end
end Go.Proofs.YtafofcenphopbaaGreatDoor
namespace Go.Proofs.YtafofcenphopbaaGreatDoor
open Go.RowKit Lx

theorem TokRow.sub {w : World} {tb tof c : Nat} {us : List T3} (hc : ∀ j, j < us.length → ∀ i u, (tokv us[j]!)[i]? = some u → w.cell? ⟨tb, tof + j * 3 + i, none⟩ = some u) (hb : tb < w.heap.size) (j : Nat) (hj : j < us.length) :
    TokRow w (.slice (some ⟨tb, tof + j * 3, none⟩) 1 c) [us[j]!] := by
  refine ⟨_, c, rfl, fun _ => ⟨tb, tof + j * 3, rfl, hb, fun i hi a u hu => ?_⟩⟩
  have hi0 : i = 0 := by simpa using hi
  subst hi0
  have := hc j hj a u hu
  rw [Nat.zero_mul, Nat.add_zero]
  exact this
theorem Tokens_err' (s : ByteArray) (hs : s.size ≤ 140737488351232) (a e : Int) (ha : ((scanR s).at_ : Int) = a) (he : (scanR s).err = e) (w : World) (hml : ML w) : Calls Tryz.prog 19 #[.string s] w fun en w' =>
    ∃ lv, en = .returned (.tuple #[lv, .int .i64 a, .int .i64 e]) ∧ Below w.heap.size w w' := by
  subst ha; subst he
  refine (Tokens_row s hs w hml).mono ?_
  rintro en w' ⟨lv, rfl, _, hb⟩
  exact ⟨lv, rfl, hb⟩
set_option maxHeartbeats 4000000 in
set_option maxRecDepth 100000 in
theorem LexWhole_walk (s : ByteArray) (w : World) (hs : s.size ≤ 140737488351232) (hml : ML w) : Calls Tryz.prog 6 #[.string s] w fun e w' => e = .returned (.bool true) ∧ Below w.heap.size w w' := by
  by_cases hbig : 2000 < s.size
  · have hb' : (2000 : Int) < (s.size : Int) := by omega
    go_enter Tryz.func6, Tryz.ntmps6
    go_wp2_with (go_at_call 7; refine (sane_any _ hml).mono ?_; rintro e w1 ⟨rfl, hb⟩)
    go_ret
    exact ⟨rfl, hb⟩
  have hb' : ¬ (2000 : Int) < (s.size : Int) := by omega
  by_cases he : (scanR s).err = 0
  · have hf := whole_facts s (by omega) he
    have c1 := fun W h => Tokens_err' s hs 0 0 (by rw [scanR_at0 s he]; rfl) he W h
    have c2 := fun W h => pieces_any s (by omega) he W h
    unfold PcQ at c2
    generalize (scanR s).toks.map Tok.t3 = us at hf c2
    generalize pcs 0 (parse s.data.toList).1 = P at hf c2
    have hPl := hf.len
    have hul := hf.ul
    have F := Lib.hid hf
    have C1 := Lib.hid c1
    have C2 := Lib.hid c2
    clear hf c1 c2 he
    go_enter Tryz.func6, Tryz.ntmps6
    go_wp2_with (go_at_call 7; refine (sane_any _ hml).mono ?_; rintro e w1 ⟨rfl, b1⟩)
    have hm1 := hml.below b1
    refine (C1.out _ hm1).mono ?_
    rintro e w2 ⟨lv0, rfl, hb⟩
    have b2 := b1.trans (hb.mono b1.size)
    have hm2 := hm1.below hb
    clear hb b1 hm1 hml C1
    go_wp2_with fail
    refine (C2.out _ hm2).mono ?_
    rintro e w3 ⟨lv, pv, rfl, T3, hcap, R3, hb⟩
    have b3 := b2.trans (hb.mono b2.size)
    have hm3 := hm2.below hb
    clear hb b2 hm2 C2
    have TR := Lib.hid T3
    obtain ⟨ta, tcap, rfl, hT⟩ := T3
    obtain ⟨pa, pcap, rfl, hP⟩ := com_row2 R3
    have hcap2 : us.length ≤ tcap := by
      obtain ⟨_, _, _, h1, h2⟩ := hcap
      injection h1 with _ e2 e3
      omega
    have HT := Lib.hid hT
    have HP := Lib.hid hP
    clear hT hP R3 hcap
    go_wp2_with fail
    go_loopw [9, 51] (fun ve q wr => ∃ k : Nat, k ≤ P.length ∧ q = .int .i64 k ∧ ve = .int .i64 (prevE P k : Nat) ∧ Below w3.heap.size w3 wr) (fun _ q _ => P.length - (intOf q).toNat)
    case atStart => exact ⟨0, Nat.zero_le _, rfl, rfl, Below.refl _ _⟩
    case round =>
      obtain ⟨k, hk, rfl, rfl, bel⟩ := hrel
      by_cases hlt : k < P.length
      · have hltz : (k : Int) < (P.length : Int) := by omega
        obtain ⟨pb, po, rfl, hpb, hpc⟩ := HP.out (by omega)
        obtain ⟨d0, d1⟩ := hpc k hlt
        have d0 := (bel.cell (p := ⟨pb, po + k * 2, none⟩) hpb).trans d0
        have d1 := (bel.cell (p := ⟨pb, po + k * 2 + 1, none⟩) hpb).trans d1
        clear hpc
        have hnx : prevE P (k + 1) = (P[k]!).2 := by unfold prevE; rw [if_neg (by omega), Nat.add_sub_cancel]
        have hlo := F.out.lo k hlt
        have hgap := F.out.gap k hlt
        have herr := F.out.err k hlt
        have how := F.out.own k hlt
        rw [← getElem!_pos P k hlt] at d0 d1
        generalize P[k]! = x at d0 d1 hnx hlo hgap herr how
        generalize prevE P k = pe at hlo hgap ⊢
        obtain ⟨f, t⟩ := x
        simp only at d0 d1 hnx hlo hgap herr how
        obtain ⟨l1, l2, l3⟩ := hlo
        have hTrim : ∀ W, Calls Tryz.prog 24 #[.string (s.extract pe f), .string ⟨#[32, 10]⟩] W fun e w' => e = .returned (.string ⟨#[]⟩) ∧ Below W.heap.size W w' := by
          intro W; have := Trim_any (s.extract pe f) (by rw [ByteArray.size_extract]; omega) W; rw [hgap] at this; exact this
        have hTok : ∀ W, ML W → Calls Tryz.prog 19 #[.string (s.extract f t)] W fun e w' => ∃ lv, e = .returned (.tuple #[lv, .int .i64 0, .int .i64 0]) ∧ TokRow w' lv ((scanR (s.extract f t)).toks.map Tok.t3) ∧ Below W.heap.size W w' := by
          intro W h; have := Tokens_row (s.extract f t) (by rw [ByteArray.size_extract]; omega) W h; rw [herr, scanR_at0 _ herr, outT_ok herr] at this; exact this
        have hsm := toks_le' _ herr
        generalize (scanR (s.extract f t)).toks = ot at how hTok hsm
        have HTrim := Lib.hid hTrim
        have HTok := Lib.hid hTok
        have HOW := Lib.hid how
        have HNX := Lib.hid hnx
        clear hTrim hTok how hnx hgap herr
        go_upto_region 15 with fail
        have n8 := heap_alloc_new wr (.cells #[.int .i64 f, .int .i64 t] 50)
        have b8 := bel.alloc bel.size (.cells #[.int .i64 f, .int .i64 t] 50)
        generalize wr.alloc (.cells #[.int .i64 f, .int .i64 t] 50) = wx at n8 b8 ⊢
        have hXlt : wr.heap.size < wx.heap.size := (Array.getElem?_eq_some_iff.1 n8).1
        generalize wr.heap.size = X at n8 hXlt ⊢
        have k0 : wx.cell? ⟨X, 0, none⟩ = some (.int .i64 f) := cell_of_row _ _ 0 _ _ _ n8
        have k1 : wx.cell? ⟨X, 1, none⟩ = some (.int .i64 t) := cell_of_row _ _ 1 _ _ _ n8
        clear n8 d0 d1 bel
        have z1 : ¬ (f : Int) < (pe : Int) := by omega
        have z2 : ¬ (t : Int) ≤ (f : Int) := by omega
        have z3 : ¬ (s.size : Int) < (t : Int) := by omega
        go_wp2_with fail
        refine (HTrim.out _).mono ?_
        rintro e w5 ⟨rfl, hb5⟩
        have b5 := b8.trans (hb5.mono b8.size)
        have k0 := (hb5.cell (p := ⟨X, 0, none⟩) hXlt).trans k0
        have k1 := (hb5.cell (p := ⟨X, 1, none⟩) hXlt).trans k1
        have hX5 := Nat.lt_of_lt_of_le hXlt hb5.size
        clear hb5 hXlt b8
        go_wp2_with fail
        refine (Index_whole1 _ us X f w5 (TR.out.below b5 (Nat.le_refl _)) (by omega) k0 hX5).mono ?_
        rintro e w6 ⟨rfl, hb6⟩
        have b6 := b5.trans (hb6.mono b5.size)
        have k0 := (hb6.cell (p := ⟨X, 0, none⟩) hX5).trans k0
        have k1 := (hb6.cell (p := ⟨X, 1, none⟩) hX5).trans k1
        have hm6 := hm3.below b6
        clear hb6 hX5 b5
        have hown := HOW.out
        generalize fAt f us 0 = fi at hown ⊢
        go_wp2_with fail
        refine (HTok.out _ hm6).mono ?_
        rintro e w7 ⟨lv2, rfl, T7, hb7⟩
        have b7 := b6.trans (hb7.mono b6.size)
        clear hb7 b6 hm6 k0 k1
        rcases hown with ⟨rfl, h2⟩ | ⟨j, hj, rfl, h2⟩
        · rw [h2] at T7
          obtain ⟨oa, ocap, rfl, _⟩ := T7
          clear h2
          simp only [List.map_nil, List.length_nil]
          go_wp2_with fail
          go_roundw
          case rel => exact ⟨k + 1, hlt, by go_num, by rw [HNX.out], b7⟩
          case measure => simp [intOf]; omega
        · obtain ⟨tb, tof, rfl, htb, htc⟩ := HT.out (by intro e; rw [e] at hj; cases hj)
          have hsub : ∀ c, TokRow w7 (.slice (some ⟨tb, tof + j * 3, none⟩) 1 c) [us[j]!] := fun c => TokRow.sub (fun i hi a u hu => (b7.cell (p := ⟨tb, tof + i * 3 + a, none⟩) htb).trans (htc i hi a u hu)) (Nat.lt_of_lt_of_le htb b7.size) j hj
          have hal := fun c => alike_any lv2 _ _ _ w7 T7 (hsub c) (by rw [List.length_map]; omega) (by simp)
          rw [h2] at hal
          simp only [decide_eq_true] at hal
          have HAL := Lib.hid hal
          have j0 : (0 : Int) ≤ (j : Int) := by omega
          have j1 : (j : Int) + 1 ≤ (tcap : Int) := by omega
          have j2 : ¬ (j : Int) < 0 := by omega
          clear hal hsub htc h2
          go_wp2_with fail
          refine (HAL.out _).mono ?_
          rintro e w8 ⟨rfl, hb8⟩
          have b8 := b7.trans (hb8.mono b7.size)
          clear hb8
          go_wp2_with fail
          go_roundw
          case rel => exact ⟨k + 1, hlt, by go_num, by rw [HNX.out], b8⟩
          case measure => simp [intOf]; omega
      · obtain rfl : k = P.length := by omega
        have hlast := F.out.last
        generalize prevE P P.length = pe at hlast ⊢
        obtain ⟨l1, l2⟩ := hlast
        have hTrim : ∀ W, Calls Tryz.prog 24 #[.string (s.extract pe s.size), .string ⟨#[32, 10]⟩] W fun e w' => e = .returned (.string ⟨#[]⟩) ∧ Below W.heap.size W w' := by
          intro W; have := Trim_any (s.extract pe s.size) (by rw [ByteArray.size_extract]; omega) W; rw [l2] at this; exact this
        have HTrim := Lib.hid hTrim
        clear hTrim l2
        have hltz : ¬ (P.length : Int) < (P.length : Int) := by omega
        go_wp2_with fail
        refine (HTrim.out _).mono ?_
        rintro e w5 ⟨rfl, hb5⟩
        have b5 := b3.trans ((bel.trans (hb5.mono bel.size)).mono b3.size)
        go_wp2_with fail
        go_ret
        exact ⟨rfl, b5⟩
  · obtain ⟨h1, h2, _⟩ := law_first s (by omega) he
    obtain ⟨i, hi⟩ : ∃ i, (scanR s).at_ = i := ⟨_, rfl⟩
    rw [hi] at h2
    have hc := fun W h => Tokens_err' s hs i 50 (by rw [hi]) h1 W h
    have HC := Lib.hid hc
    clear hc he h1 hi
    have i0 : (0 : Int) ≤ (i : Int) := by omega
    have i1 : (i : Int) < (s.size : Int) := by omega
    go_enter Tryz.func6, Tryz.ntmps6
    go_wp2_with (go_at_call 7; refine (sane_any _ hml).mono ?_; rintro e w1 ⟨rfl, b1⟩)
    refine (HC.out _ (hml.below b1)).mono ?_
    rintro e w2 ⟨lv, rfl, hb2⟩
    go_wp2_with fail
    go_ret
    exact ⟨rfl, b1.trans (hb2.mono b1.size)⟩
end Go.Proofs.YtafofcenphopbaaGreatDoor
namespace Go.Proofs.YtafofcenphopbaaGreatDoor
open Go.ChangeShapes Go.WideShapes Go.ChangeAt Go.RowKit
open Go.ChangeMaps (open_string shut_string)
/-- What the walk of a law of one text shows. -/
def Walk1 (f : FuncId) : Prop := ∀ (s : ByteArray) (w : World), s.size ≤ 140737488351232 → ML w → Calls Tryz.prog f #[.string s] w fun e w' => e = .returned (.bool true) ∧ Below w.heap.size w w'
set_option maxRecDepth 100000 in
theorem LexWhole_lifted (hwalk : Walk1 6) (os : Os) (started : os.Started) (H : Type) (enc : TypeId × Value → H) :
    ReturnsInHanded {} Tryz.checked os 6 .any (fun w args => (Rows.lexWholeSpec.pre enc Tryz.prog Tryz.f6 [] false w args ∧ laidMetH Tryz.prog laid2 w) ∧ sizedMet enc Tryz.prog Tryz.f6 (OpenSpec.ofChange Rows.lexWholeSpec) false w args)
      (Rows.lexWholeSpec.post enc Tryz.prog Tryz.f6 false true false false) := by
  refine handed_of (C := Tryz.checked) (X := fun w _ => laidMetH Tryz.prog laid2 w) ownN started (by kernel_rfl) Tryz.func6
    (ChangeSpec.witness_shaped (enc := enc) (C := Tryz.checked) (os := os) (X := fun w _ => laidMetH Tryz.prog laid2 w) false (World.laidAll Tryz.prog os laid2) #[.string ⟨#[]⟩] 8 (World.laidAll_os _ _ _)
      (shaped2 os) (by kernel_rfl) (by kernel_rfl) (by kernel_rfl)
      (by rw [MakeChecks.laidMetH_plain _ _ _ (by kernel_rfl)]; exact laidMet_laidAll _ (by kernel_rfl) (by kernel_rfl))) ?_
  intro W base args ds gs before hval0 hW hz hsh
  have hval : ∀ (j : Nat) t v, Tryz.f6.params[j]? = some t → args[j]? = some v → Value.okWide Tryz.prog W .any base t v := hval0
  have hW' := hW
  obtain ⟨p, q, hA0, hV, rfl, _, _⟩ := hW
  have hA : DataW.TrodAll enc Tryz.prog W 0 (fun _ => true) true Tryz.f6.params.toList args.toList ds p := hA0
  rw [Tryz.params6] at hA hval
  obtain ⟨v0, d0, rfl, rfl, h0⟩ := trodAll_one hA
  obtain ⟨rfl, rfl⟩ := trodVars_none hV
  have hx := open_string Tryz.underlying9 (hval 0 9 v0 rfl rfl) h0
  obtain ⟨s, rfl, rfl, rfl, ws⟩ := hx
  have hsz : s.size ≤ 140737488351232 := by
    have := sized_string hz (j := 0) (t := 9) (bytes := s.data.toList) (by rw [Tryz.params6]; rfl) rfl
    exact this
  refine (hwalk s W hsz (ml_of hsh)).mono fun e W' ⟨he, hb⟩ => ?_
  subst he
  exact ⟨_, rfl, law_post hW' rfl rfl rfl (fun sp _ => by rw [Tryz.params6]; exact trodAll_mk1 (shut_string Tryz.underlying9 ws)) hb⟩
theorem LexWhole_of (hwalk : Walk1 6) : Rows.LexWholeSaid :=
  OpenClaim.holds_of_wide 6 Tryz.f6 rfl rfl rfl rfl rfl rfl rfl ⟨rfl, rfl, rfl, rfl, rfl⟩ rfl rfl rfl rfl rfl (by kernel_rfl) Tryz.func6 (by kernel_rfl)
    (of_decide_eq_true (by kernel_rfl)) (by unfold Func.isWrapper; first | (rw [if_pos (by decide +kernel)]; kernel_rfl) | (rw [if_neg (by decide +kernel)]; exact ⟨rfl, rfl⟩))
    (fun os started H enc _ => LexWhole_lifted hwalk os started H enc)
theorem LexWhole_card (hwalk : Walk1 6) : Rows.LexWholeCardSaid :=
  Claim7.holds_tied_plain_at .later [] [.data, .pinned] true (true, "076293f99f58c21f9f86479d50162f7f1612b078a714558265b8bdf9f7ec9d58") false (LexWhole_of hwalk) (fun _ h => by cases h) (by kernel_rfl) (fun _ h => by cases h) lexWhole_row_tie rfl ⟨rfl, rfl⟩ (by kernel_rfl) rfl
    (fun f fn hf hfn => by
      obtain rfl : f = 6 := Option.some.inj ((show Tryz.prog.funcNamed "pliant/pliantlaw05.LexWhole" = some 6 by kernel_rfl).symm.trans hf) |>.symm
      obtain rfl : fn = Tryz.f6 := (Option.some.inj (Tryz.func6.symm.trans hfn)).symm
      exact ⟨by kernel_rfl, fun j t ht => by
        rw [Tryz.params6] at ht
        have hm : t ∈ [9] := by simpa using Array.mem_of_getElem? ht
        have hall : ([9].all fun u => !Tryz.prog.wantsStandIn u) = true := by kernel_rfl
        exact (show Tryz.prog.wantsStandIn t = false by simpa using List.all_eq_true.1 hall t hm)⟩)
    (by kernel_rfl)
theorem LexWhole_holds : Rows.LexWholeCardSaid := LexWhole_card (fun s w hs hml => LexWhole_walk s w hs hml)
end Go.Proofs.YtafofcenphopbaaGreatDoor
