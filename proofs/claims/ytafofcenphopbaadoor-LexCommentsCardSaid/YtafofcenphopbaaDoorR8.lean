/- LexComments: the row, out of its walk. -/
import Derived.Test.YtafofcenphopbaaDoorTie
import Derived.Test.YtafofcenphopbaaDoorCards
import Derived.Test.YtafofcenphopbaaDoorA5
import Derived.ProofKit
import Derived.OpenShut
import Derived.LaidMore
import Derived.Lay
import Derived.SevenTiedAt
import Derived.Stop.Joined
import Derived.HandedShaped
import Derived.Shelf.Vars
import Derived.Test.YtafofcenphopbaaDoorA36
import Derived.Lib.QuietBelow
import Derived.Test.YtafofcenphopbaaDoorC5
import Derived.IntWalk
namespace Go.Proofs.YtafofcenphopbaaDoor
open Go.ChangeShapes Go.WideShapes Go.ChangeAt Go.RowKit

theorem ownN : ownKnob Tryd.prog.godebug = none := by kernel_rfl
def laid2 : List (String × DataW Unit) := Rows.lexFirstRow.laid
set_option maxRecDepth 100000 in
theorem shaped2 (os : Os) : (World.laidAll Tryd.prog os laid2).Shaped Tryd.prog := World.shaped_of_ZipB (by kernel_rfl) (by kernel_rfl)

section
variable {H : Type} {enc : TypeId × Value → H}
/-- A row that lists variables, its contract handed the world's shape and the reach. -/
theorem handed_of {C : Checked} {os : Os} {f : FuncId} {fn : Func} {s : ChangeSpec} {X : World → Array Value → Prop}
    (own : ownKnob C.prog.godebug = none) (started : os.Started) (noInit : C.prog.inits.idxOf? f = none) (hfn : C.prog.funcs[f]? = some fn)
    (witness : ∃ (w : World) (tape : Tape) (i : Input), w.os = os ∧ (w.forCall tape i).Shaped C.prog ∧ i.vars = [] ∧ Input.okWide C.prog (w.forCall tape i) .any w.heap.size f i ∧
      ((s.pre enc C.prog fn [] false (w.forCall tape i).memory i.args ∧ X (w.forCall tape i).memory i.args) ∧ sizedMet enc C.prog fn (OpenSpec.ofChange s) false (w.forCall tape i).memory i.args) ∧ ({} : Assume).holds C.prog (lone (Frame.enter C.prog f i.args .normal) [] (w.forCall tape i)))
    (contract : ∀ (W : World) (base : Nat) (args : Array Value) (ds gs : List (DataW H)) (before : List MemPlace),
      (∀ (j : Nat) t v, fn.params[j]? = some t → args[j]? = some v → Value.okWide C.prog W .any base t v) →
      DataW.Whole enc C.prog fn.params.toList s.vars false W args.toList ds gs before →
      (DataW.weightsEach C.prog (fn.params.toList ++ s.plain.varTypes C.prog) (ds ++ gs)).all (· ≤ reachBytes) = true → W.ShapedOpen C.prog →
      Calls C.prog f args W fun e W' => ∃ v, e = .returned v ∧ s.post enc C.prog fn false true false false W args v W') :
    ReturnsInHanded {} C os f .any (fun w args => (s.pre enc C.prog fn [] false w args ∧ X w args) ∧ sizedMet enc C.prog fn (OpenSpec.ofChange s) false w args) (s.post enc C.prog fn false true false false) := by
  refine returnsInHanded_of_calls own started noInit witness ?_
  intro w tape i _ hsh _ hok hpre hholds
  obtain ⟨_, _, _, fn', hfn', _, _, _, _, hval⟩ := hok
  have e : fn' = fn := Option.some.inj (hfn'.symm.trans hfn)
  subst e
  obtain ⟨⟨⟨ds, gs, before, hw, hc⟩, hx⟩, hz⟩ := hpre
  have hw' := DataW.Whole.of_heap (w' := w.forCall tape i) (by rfl) hw
  refine (contract (w.forCall tape i) w.heap.size i.args ds gs before hval hw' (hz.weights hw) hsh).mono fun e W' ⟨v, he, hp⟩ => ?_
  subst he
  exact ChangeSpec.post_blind hp
end

/-- The library's variable holds an integer, in every world of that shape. -/
theorem ml_of {W : World} (h : W.ShapedOpen Tryd.prog) : ML W := by
  obtain ⟨m, hm⟩ := cell_of_shapedOpen_int (g := 1) (t := 3) (zero := #[.int .i64 0]) (k := .i64) h (of_decide_eq_true (by kernel_rfl)) (by kernel_rfl) rfl (by kernel_rfl) (by kernel_rfl) Tryd.underlying3
  exact ⟨World.block_lt_of_cell? _ _ hm, m, hm⟩

section
variable {H : Type} {enc : TypeId × Value → H}
set_option maxRecDepth 100000 in
/-- A law that answered true, and changed nothing that stood. -/
theorem law_post {f : Func} {s : ChangeSpec} {W W' : World} {args : Array Value} {ds : List (DataW H)} {before : List MemPlace}
    (hW : DataW.Whole enc Tryd.prog f.params.toList s.vars false W args.toList ds [] before) (hv : s.vars = []) (hr : f.resultTypes = #[4]) (hs : s.fn H (ds ++ []) = { results := [.lit (.bool true)], args := ds })
    (hargs : ∀ sp : Nat → Bool, (∀ p ∈ before, sp p.block = true) → DataW.TrodAll enc Tryd.prog W' 0 sp true f.params.toList args.toList ds before) (hb : Below W.heap.size W W') :
    s.post enc Tryd.prog f false true false false W args (.bool true) W' := by
  have hlt : ∀ p ∈ before, p.block < W.heap.size := fun p hp => hW.lt p hp
  have hold : ∀ p ∈ before, (fun b => decide (b < W.heap.size)) p.block = true := fun p hp => by simpa using hlt p hp
  have hres : ∀ (b : Nat) (sp : Nat → Bool) (hd : Bool), DataW.TrodAll enc Tryd.prog W' b sp hd f.resultTypes.toList ((Value.bool true).resultList f.resultTypes.size) (s.fn H (ds ++ [])).results [] := by
    intro b sp hd
    rw [hr, hs]
    exact trodAll_mk1 (shut_bool Tryd.underlying4 _)
  have hvars : ∀ sp : Nat → Bool, DataW.TrodVars enc Tryd.prog W' sp s.vars (s.fn H (ds ++ [])).vars [] := by
    intro sp; rw [hv, hs]; exact rfl
  have hargs' : ∀ sp : Nat → Bool, (∀ p ∈ before, sp p.block = true) → DataW.TrodAll enc Tryd.prog W' 0 sp true f.params.toList args.toList (s.fn H (ds ++ [])).args before := by
    intro sp hsp; rw [hs]; exact hargs sp hsp
  refine ⟨ds, [], before, [], before, [], hW, hres _ _ _, hargs' _ hold, hvars _, World.keptBut_mono (fun p hp => ⟨hp, ?_⟩) (hb.frame (· ∈ before)), fun _ => ?_⟩
  · exact Or.inr (by simpa using hp)
  · obtain ⟨_, _, _, _, _, hz, hn⟩ := hW
    refine ⟨?_, _, _, ([] ++ before) ++ [], ⟨[] ++ before, [], trodAll_append (hargs' _ (fun _ _ => rfl)) (hres _ _ _), hvars _, rfl, ?_, ?_⟩, ?_⟩
    · exact ok_one hr rfl (okWide_bool_mk Tryd.underlying4 _)
    · intro b off hp
      have hin : MemPlace.cell b off ∈ before := by simpa using hp
      rw [hb.frozen (hlt _ hin)]
      exact hz b off hin
    · intro ha
      cases ha
    · intro p hp _
      simpa using hp
end
end Go.Proofs.YtafofcenphopbaaDoor
namespace Go.Proofs.YtafofcenphopbaaDoor
open Go.RowKit Go.Sort Lx

def wideS (s : ByteArray) : Bool := decide (21000 < s.size)
theorem short1_any (s : ByteArray) (w : World) : Calls Tryd.prog 49 #[.string s] w fun e w' => e = .returned (.bool (wideS s)) ∧ w' = w := by
  unfold wideS
  go_enter Tryd.func49, Tryd.ntmps49
  go_wp2
  all_goals (
    go_ret
    refine ⟨ret_bool ?_, rfl⟩
    rw [Bool.eq_iff_iff]
    simp
    try omega)
def fIdxS (p : ByteArray → Bool) : List ByteArray → Nat → Int
  | [], _ => -1
  | t :: r, k => if p t then (k : Int) else fIdxS p r (k + 1)
theorem fIdxS_cons (p : ByteArray → Bool) (t : ByteArray) (r : List ByteArray) (k : Nat) : fIdxS p (t :: r) k = if p t then (k : Int) else fIdxS p r (k + 1) := rfl
theorem fIdxS_any (p : ByteArray → Bool) : ∀ (l : List ByteArray) (k : Nat), decide (0 ≤ fIdxS p l k) = l.any p := by
  intro l
  induction l with
  | nil => intro k; rfl
  | cons t r ih =>
    intro k
    rw [fIdxS_cons]
    cases h : p t with
    | true => simp [h]
    | false => simp [h, ih]
set_option maxHeartbeats 1000000 in
set_option maxRecDepth 100000 in
theorem IndexShort_any (ss : List ByteArray) (B : Nat) (w : World) (hc : ∀ j (h : j < ss.length), w.cell? ⟨B, j, none⟩ = some (.string (ss[j]'h))) (hn : ss.length ≤ 1000) :
    Calls Tryd.prog 84 #[.slice (some ⟨B, 0, none⟩) ss.length ss.length, .func (.func 49) #[] #[]] w fun e w' => e = .returned (.int .i64 (fIdxS wideS ss 0)) ∧ w' = w := by
  generalize hnn : ss.length = n at hn ⊢
  have HN := Lib.hid hnn
  have H1 := Lib.hid hc
  clear hnn hc
  go_enter Tryd.func84, Tryd.ntmps84
  go_wp2_with fail
  go_loop [8] (fun q => ∃ k : Nat, k ≤ n ∧ q = .int .i64 k ∧ fIdxS wideS ss 0 = fIdxS wideS (ss.drop k) k) (fun q => n - (intOf q).toNat)
  case atStart => exact ⟨0, Nat.zero_le _, rfl, rfl⟩
  case round =>
    obtain ⟨k, hk, rfl, hf⟩ := hrel
    have HF := Lib.hid hf
    clear hf
    by_cases hlt : k < n
    · have hltz : (k : Int) < (n : Int) := by omega
      have hl : k < ss.length := by rw [HN.out]; exact hlt
      have hcell := H1.out k hl
      have hst : fIdxS wideS (ss.drop k) k = if wideS (ss[k]'hl) then (k : Int) else fIdxS wideS (ss.drop (k + 1)) (k + 1) := by rw [List.drop_eq_getElem_cons hl, fIdxS_cons]
      generalize ss[k] = x at hcell hst
      have hq := fun W => short1_any x W
      have HQ := Lib.hid hq
      have HST := Lib.hid hst
      clear hq hst
      cases hv : wideS x with
      | true =>
        rw [hv] at HQ HST
        clear hv
        go_wp2_with fail
        refine (HQ.out _).mono ?_
        rintro e w' ⟨rfl, hw⟩
        rw [hw]
        clear hw
        go_wp2_with fail
        go_ret
        exact ⟨by rw [HF.out, HST.out]; rfl, rfl⟩
      | false =>
        rw [hv] at HQ HST
        clear hv
        go_wp2_with fail
        refine (HQ.out _).mono ?_
        rintro e w' ⟨rfl, hw⟩
        rw [hw]
        clear hw
        go_wp2_with fail
        go_round
        case rel => exact ⟨k + 1, hlt, by go_num, by rw [HF.out, HST.out]; rfl⟩
        case measure => simp [intOf]; omega
    · have hltz : ¬ (k : Int) < (n : Int) := by omega
      have hfin : fIdxS wideS ss 0 = -1 := by rw [HF.out, List.drop_of_length_le (by rw [HN.out]; omega)]; rfl
      have HFN := Lib.hid hfin
      clear hfin
      go_wp2_with fail
      go_ret
      exact ⟨by rw [HFN.out]; rfl, rfl⟩
set_option maxHeartbeats 1000000 in
theorem short_any (ss : List ByteArray) (B n : Nat) (hnn : ss.length = n) (b : Bool) (hb : (!ss.any wideS) = b) (w : World) (hc : ∀ j (h : j < ss.length), w.cell? ⟨B, j, none⟩ = some (.string (ss[j]'h))) (hn : n ≤ 1000) :
    Calls Tryd.prog 18 #[.slice (some ⟨B, 0, none⟩) n n] w fun e w' => e = .returned (.bool b) ∧ w' = w := by
  have hq := IndexShort_any ss B w hc (by omega)
  rw [hnn] at hq
  have hi := fIdxS_any wideS ss 0
  generalize fIdxS wideS ss 0 = x at hq hi
  have hcf : Calls Tryd.prog 48 #[.slice (some ⟨B, 0, none⟩) n n, .func (.func 49) #[] #[]] w fun e w' => e = .returned (.bool (ss.any wideS)) ∧ w' = w := by
    have HQ := Lib.hid hq
    have HI := Lib.hid hi
    clear hq hi hb hc
    go_enter Tryd.func48, Tryd.ntmps48
    go_wp2_with fail
    refine HQ.out.mono ?_
    rintro e w' ⟨rfl, hw⟩
    rw [hw]
    clear hw
    go_wp2_with fail
    go_ret
    exact ⟨by rw [← HI.out]; rfl, rfl⟩
  have HC := Lib.hid hcf
  have HB := Lib.hid hb
  clear hcf hq hi hb hc
  go_enter Tryd.func18, Tryd.ntmps18
  go_wp2_with fail
  refine HC.out.mono ?_
  rintro e w' ⟨rfl, hw⟩
  rw [hw]
  clear hw
  go_wp2_with fail
  go_ret
  exact ⟨by rw [← HB.out]; rfl, rfl⟩
end Go.Proofs.YtafofcenphopbaaDoor
namespace Go.Proofs.YtafofcenphopbaaDoor
open Go.RowKit Lx

set_option maxHeartbeats 2000000 in
set_option maxRecDepth 100000 in
theorem rStrip_any (s : ByteArray) (hs : s.size ≤ 140737488351232) (w : World) : Calls Tryd.prog 22 #[.string s] w (StripQ s w) := by
  have hC := fun W => rComments_any s hs W
  unfold CommentsQ at hC
  by_cases he : (scanR s).err = 0
  · have hsm := scanR_small he
    have hch := scanR_chain s he
    have hat0 := scanR_at0 s he
    obtain ⟨cs, hcs⟩ : ∃ cs, cs = (scanR s).coms := ⟨_, rfl⟩
    have hat : outC s = cs := by unfold outC; rw [if_pos he, hcs]
    have hst : stripR s = ⟨(stripL s.data.toList 0 cs).toArray⟩ := by unfold stripR; rw [if_pos he, hcs]
    rw [← hcs] at hch
    rw [he, hat0, hat] at hC
    have hfin : StripQ s w = fun e w' => e = .returned (.tuple #[.string ⟨(stripL s.data.toList 0 cs).toArray⟩, .int .i64 0, .int .i64 0]) ∧ Below w.heap.size w w' := by
      unfold StripQ; rw [hst, he, hat0]; rfl
    have HFIN := Lib.hid hfin
    have HCH := Lib.hid hch
    have HC := Lib.hid hC
    have hlen := chain_len hch
    clear hst hat hch hcs he hat0 hC hfin
    rw [HFIN.out]
    go_enter Tryd.func22, Tryd.ntmps22
    go_wp2_with fail
    refine (HC.out _).mono ?_
    rintro e w1 ⟨cv, rfl, own, hb⟩
    obtain ⟨ao, cap, rfl⟩ := own_form own
    go_wp2_with fail
    go_loop [8, 9, 10] (fun S f q => ∃ (k from_ : Nat) (acc : ByteArray), k ≤ cs.length ∧ q = .int .i64 k ∧ f = .int .i64 from_ ∧ S = .string acc ∧ from_ ≤ s.size ∧ acc.size ≤ 2 * from_ ∧ Chain s.size from_ (cs.drop k) ∧
      stripL s.data.toList 0 cs = acc.data.toList ++ stripL s.data.toList from_ (cs.drop k)) (fun _ _ q => cs.length - (intOf q).toNat)
    case atStart => exact ⟨0, 0, ⟨#[]⟩, Nat.zero_le _, rfl, rfl, rfl, Nat.zero_le _, Nat.le_refl _, HCH.out, rfl⟩
    case round =>
      obtain ⟨k, from_, acc, hk, rfl, rfl, rfl, hfs, hacc, hch, hq⟩ := hrel
      have HQ := Lib.hid hq
      have HD := Lib.hid hch
      clear hq hch
      by_cases hlt : k < cs.length
      · obtain ⟨g, cap', hv, hcap, hcell⟩ := com_cells own (by omega)
        have hdrop : cs.drop k = cs[k] :: cs.drop (k + 1) := List.drop_eq_getElem_cons hlt
        have hch := HD.out
        rw [hdrop] at hch
        obtain ⟨hc1, hc2, hc3⟩ := hch
        obtain ⟨c0, c1⟩ := hcell k hlt
        have hcs1 := chain_le hc3
        injection hv with hv1 hv2 hv3
        subst hv1
        generalize hp : cs[k] = p at c0 c1 hc1 hc2 hc3 hcs1 hdrop
        obtain ⟨p1, p2⟩ := p
        simp only at c0 c1 hc1 hc2 hc3 hcs1
        have HDR := Lib.hid hdrop
        have HC3 := Lib.hid hc3
        have x1 : (from_ : Int) ≤ (p1 : Int) := by omega
        have x2 : (p1 : Int) ≤ (s.size : Int) := by omega
        have x3 : (k : Int) < (cs.length : Int) := by omega
        have x4 : (0 : Int) ≤ (k : Int) := by omega
        have x5 : (0 : Int) ≤ (from_ : Int) := by omega
        have v1 : ¬ 9223372036854775807 < acc.size + (min p1 s.size - from_) := by omega
        have v2 : ¬ 9223372036854775807 < acc.size + (min p1 s.size - from_) + 1 := by omega
        clear hp hdrop hv2 hv3 hcell hc3
        go_wp2_with fail
        go_round
        case rel =>
          refine ⟨k + 1, p2, acc ++ s.extract from_ p1 ++ ⟨#[32]⟩, hlt, by go_num, rfl, rfl, hcs1, ?_, HC3.out, ?_⟩
          · rw [ByteArray.size_append, ByteArray.size_append, ByteArray.size_extract]
            show acc.size + (min p1 s.size - from_) + 1 ≤ _
            omega
          · rw [HQ.out, HDR.out, cat3, extract_take s from_ p1 hc1 (by omega)]
            simp [stripL]
        case measure => simp [intOf]; omega
      · obtain rfl : k = cs.length := by omega
        have hdrop : cs.drop cs.length = [] := List.drop_eq_nil_of_le (Nat.le_refl _)
        have hq := HQ.out
        rw [hdrop] at hq
        have HQ := Lib.hid hq
        have x1 : (from_ : Int) ≤ (s.size : Int) := by omega
        have v1 : ¬ 9223372036854775807 < acc.size + (s.size - from_) := by omega
        clear hq hdrop HD
        go_wp2_with fail
        go_ret3
        refine ⟨?_, hb⟩
        have hres : (⟨(stripL s.data.toList 0 cs).toArray⟩ : ByteArray) = acc ++ s.extract from_ s.size := ba_ext (by
          show stripL s.data.toList 0 cs = _
          rw [HQ.out, cat2, extract_end]; rfl)
        rw [hres]
        rfl
  · have hst : stripR s = ⟨#[]⟩ := by unfold stripR; rw [if_neg he]
    have HST := Lib.hid hst
    have hne : ((scanR s).err != 0) = true := by rw [bne_iff_ne]; exact he
    have HC := Lib.hid hC
    clear hst he hC
    go_enter Tryd.func22, Tryd.ntmps22
    go_wp2_with fail
    refine (HC.out _).mono ?_
    rintro e w1 ⟨cv, rfl, own, hb⟩
    go_wp2_with fail
    go_ret3
    exact ⟨by rw [HST.out]; rfl, hb⟩
end Go.Proofs.YtafofcenphopbaaDoor
namespace Go.Proofs.YtafofcenphopbaaDoor
open Go.RowKit Go.Sort Lx

theorem own_len {w : World} {B n size : Nat} {e : TypeId} {v : Value} {xs : List Value} (h : w.ownsRow B e size v n xs) : n ≤ 9223372036854775807 := by
  rcases h.2 with ⟨_, h0⟩ | ⟨g, cap, cur, hv, hB, hg, hnc, hcm, rest⟩
  · omega
  · unfold maxLen at hcm; omega
set_option maxHeartbeats 4000000 in
set_option maxRecDepth 100000 in
theorem LexComments_walk (s : ByteArray) (w : World) (hs : s.size ≤ 140737488351232) (hml : ML w) : Calls Tryd.prog 6 #[.string s] w fun e w' => e = .returned (.bool true) ∧ Below w.heap.size w w' := by
  have hA := fun W (h : ML W) => Comments_any s hs W h
  have hB := fun W => rComments_any s hs W
  have hS := fun W (h : ML W) => Strip_any s hs W h
  have hR := fun W => rStrip_any s hs W
  have hEq := fun (lv mv : Value) (W : World) (h1 : ComRow W lv (comI (outC s))) (h2 : ComRow W mv (comI (outC s))) =>
    EqualC_any lv mv (comI (outC s)) (comI (outC s)) W h1 h2
  have hlc : (comI (outC s)).length = (outC s).length := by simp [comI]
  unfold CommentsQ at hA hB
  unfold StripQ at hS hR
  generalize (scanR s).err = er at hA hB hS hR
  generalize (scanR s).at_ = pl at hA hB hS hR
  generalize stripR s = st at hS hR
  have HA := Lib.hid hA
  have HB := Lib.hid hB
  have HS := Lib.hid hS
  have HR := Lib.hid hR
  have HEQ := Lib.hid hEq
  have HLC := Lib.hid hlc
  clear hA hB hS hR hEq hlc
  cases hv : !([s].any wideS) with
  | false =>
    have hsh := fun B W hc => short_any [s] B 1 rfl _ hv W hc (by decide)
    have HSH := Lib.hid hsh
    clear hsh hv
    go_enter Tryd.func6, Tryd.ntmps6
    go_wp2_with (go_at_call 13; refine (sane_any _ hml).mono ?_; rintro e w1 ⟨rfl, bb⟩)
    have b2 := below_box w1 (.cells #[.string s] 9)
    have d0 := cell_box w1 #[.string s] 9 0
    have bb := bb.trans (b2.mono bb.size)
    generalize w1.alloc (.cells #[.string s] 9) = w2 at d0 bb ⊢
    refine (HSH.out _ w2 (fun j h => by
      match j, h with
      | 0, _ => exact d0)).mono ?_
    rintro e w' ⟨rfl, hw⟩
    rw [hw]
    clear hw b2 d0 HSH
    go_wp2_with fail
    go_ret
    exact ⟨rfl, bb⟩
  | true =>
    have hsh := fun B W hc => short_any [s] B 1 rfl _ hv W hc (by decide)
    have HSH := Lib.hid hsh
    clear hsh hv
    go_enter Tryd.func6, Tryd.ntmps6
    go_wp2_with (go_at_call 13; refine (sane_any _ hml).mono ?_; rintro e w1 ⟨rfl, bb⟩)
    have hm1 := hml.below bb
    have b2 := below_box w1 (.cells #[.string s] 9)
    have d0 := cell_box w1 #[.string s] 9 0
    have bb := bb.trans (b2.mono bb.size)
    have hm2 := hm1.below b2
    generalize w1.alloc (.cells #[.string s] 9) = w2 at d0 bb hm2 ⊢
    refine (HSH.out _ w2 (fun j h => by
      match j, h with
      | 0, _ => exact d0)).mono ?_
    rintro e w' ⟨rfl, hw⟩
    rw [hw]
    clear hw b2 d0 HSH hm1
    go_wp2_with fail
    refine (HA.out _ hm2).mono ?_
    rintro e w3 ⟨lv, rfl, own3, hb⟩
    have bb := bb.trans (hb.mono bb.size)
    have hm3 := hm2.below hb
    have HN := Lib.hid (own_len own3)
    have t3 := ComRow.of_own own3
    clear hb own3 hm2
    go_wp2_with fail
    refine (HB.out _).mono ?_
    rintro e w4 ⟨mv, rfl, own4, hb⟩
    have bb := bb.trans (hb.mono bb.size)
    have hm4 := hm3.below hb
    have t4 := t3.below hb (Nat.le_refl _)
    have t5 := ComRow.of_own own4
    clear hb t3 own4 hm3
    go_wp2_with fail
    refine (HS.out _ hm4).mono ?_
    rintro e w5 ⟨rfl, hb⟩
    have bb := bb.trans (hb.mono bb.size)
    have t6 := t4.below hb (Nat.le_refl _)
    have t7 := t5.below hb (Nat.le_refl _)
    clear hb t4 t5 hm4
    go_wp2_with fail
    refine (HR.out _).mono ?_
    rintro e w6 ⟨rfl, hb⟩
    have bb := bb.trans (hb.mono bb.size)
    have t8 := t6.below hb (Nat.le_refl _)
    have t9 := t7.below hb (Nat.le_refl _)
    clear hb t6 t7
    go_wp2_with fail
    refine (HEQ.out _ _ _ t8 t9 (by rw [HLC.out]; exact HN.out) (by rw [HLC.out]; exact HN.out)).mono ?_
    rintro e w7 ⟨rfl, q, rfl⟩
    simp only [decide_true]
    go_wp2_with fail
    go_ret
    exact ⟨rfl, below_drewN bb q⟩
end Go.Proofs.YtafofcenphopbaaDoor
namespace Go.Proofs.YtafofcenphopbaaDoor
open Go.ChangeShapes Go.WideShapes Go.ChangeAt Go.RowKit
open Go.ChangeMaps (open_string shut_string)
/-- What the walk of a law of one text shows. -/
def Walk1 (f : FuncId) : Prop := ∀ (s : ByteArray) (w : World), s.size ≤ 140737488351232 → ML w → Calls Tryd.prog f #[.string s] w fun e w' => e = .returned (.bool true) ∧ Below w.heap.size w w'
set_option maxRecDepth 100000 in
theorem LexComments_lifted (hwalk : Walk1 6) (os : Os) (started : os.Started) (H : Type) (enc : TypeId × Value → H) :
    ReturnsInHanded {} Tryd.checked os 6 .any (fun w args => (Rows.lexCommentsSpec.pre enc Tryd.prog Tryd.f6 [] false w args ∧ laidMetH Tryd.prog laid2 w) ∧ sizedMet enc Tryd.prog Tryd.f6 (OpenSpec.ofChange Rows.lexCommentsSpec) false w args)
      (Rows.lexCommentsSpec.post enc Tryd.prog Tryd.f6 false true false false) := by
  refine handed_of (C := Tryd.checked) (X := fun w _ => laidMetH Tryd.prog laid2 w) ownN started (by kernel_rfl) Tryd.func6
    (ChangeSpec.witness_shaped (enc := enc) (C := Tryd.checked) (os := os) (X := fun w _ => laidMetH Tryd.prog laid2 w) false (World.laidAll Tryd.prog os laid2) #[.string ⟨#[]⟩] 8 (World.laidAll_os _ _ _)
      (shaped2 os) (by kernel_rfl) (by kernel_rfl) (by kernel_rfl)
      (by rw [MakeChecks.laidMetH_plain _ _ _ (by kernel_rfl)]; exact laidMet_laidAll _ (by kernel_rfl) (by kernel_rfl))) ?_
  intro W base args ds gs before hval0 hW hz hsh
  have hval : ∀ (j : Nat) t v, Tryd.f6.params[j]? = some t → args[j]? = some v → Value.okWide Tryd.prog W .any base t v := hval0
  have hW' := hW
  obtain ⟨p, q, hA0, hV, rfl, _, _⟩ := hW
  have hA : DataW.TrodAll enc Tryd.prog W 0 (fun _ => true) true Tryd.f6.params.toList args.toList ds p := hA0
  rw [Tryd.params6] at hA hval
  obtain ⟨v0, d0, rfl, rfl, h0⟩ := trodAll_one hA
  obtain ⟨rfl, rfl⟩ := trodVars_none hV
  have hx := open_string Tryd.underlying9 (hval 0 9 v0 rfl rfl) h0
  obtain ⟨s, rfl, rfl, rfl, ws⟩ := hx
  have hsz : s.size ≤ 140737488351232 := by
    have := sized_string hz (j := 0) (t := 9) (bytes := s.data.toList) (by rw [Tryd.params6]; rfl) rfl
    exact this
  refine (hwalk s W hsz (ml_of hsh)).mono fun e W' ⟨he, hb⟩ => ?_
  subst he
  exact ⟨_, rfl, law_post hW' rfl rfl rfl (fun sp _ => by rw [Tryd.params6]; exact trodAll_mk1 (shut_string Tryd.underlying9 ws)) hb⟩
theorem LexComments_of (hwalk : Walk1 6) : Rows.LexCommentsSaid :=
  OpenClaim.holds_of_wide 6 Tryd.f6 rfl rfl rfl rfl rfl rfl rfl ⟨rfl, rfl, rfl, rfl, rfl⟩ rfl rfl rfl rfl rfl (by kernel_rfl) Tryd.func6 (by kernel_rfl)
    (of_decide_eq_true (by kernel_rfl)) (by unfold Func.isWrapper; first | (rw [if_pos (by decide +kernel)]; kernel_rfl) | (rw [if_neg (by decide +kernel)]; exact ⟨rfl, rfl⟩))
    (fun os started H enc _ => LexComments_lifted hwalk os started H enc)
theorem LexComments_card (hwalk : Walk1 6) : Rows.LexCommentsCardSaid :=
  Claim7.holds_tied_plain_at .later [] [.data, .pinned] true (true, "f40295a80fe7fbb65fab62bd1a51a68503d2ab629acf0fbbcf25ec75d55f1d18") false (LexComments_of hwalk) (fun _ h => by cases h) (by kernel_rfl) (fun _ h => by cases h) lexComments_row_tie rfl ⟨rfl, rfl⟩ (by kernel_rfl) rfl
    (fun f fn hf hfn => by
      obtain rfl : f = 6 := Option.some.inj ((show Tryd.prog.funcNamed "pliant/pliantlaw05.LexComments" = some 6 by kernel_rfl).symm.trans hf) |>.symm
      obtain rfl : fn = Tryd.f6 := (Option.some.inj (Tryd.func6.symm.trans hfn)).symm
      exact ⟨by kernel_rfl, fun j t ht => by
        rw [Tryd.params6] at ht
        have hm : t ∈ [9] := by simpa using Array.mem_of_getElem? ht
        have hall : ([9].all fun u => !Tryd.prog.wantsStandIn u) = true := by kernel_rfl
        exact (show Tryd.prog.wantsStandIn t = false by simpa using List.all_eq_true.1 hall t hm)⟩)
    (by kernel_rfl)
theorem LexComments_holds : Rows.LexCommentsCardSaid := LexComments_card (fun s w hs hml => LexComments_walk s w hs hml)
end Go.Proofs.YtafofcenphopbaaDoor
