/- LexConstants: the row, out of its walk. -/
import Derived.Test.YtafofcenphopbaaGreatDoorTie
import Derived.Test.YtafofcenphopbaaGreatDoorCards
import Derived.Test.YtafofcenphopbaaGreatDoorA5
import Derived.ProofKit
import Derived.OpenShut
import Derived.LaidMore
import Derived.Lay
import Derived.SevenTiedAt
import Derived.Stop.Joined
import Derived.HandedShaped
import Derived.Shelf.Vars
import Derived.Test.YtafofcenphopbaaGreatDoorA13
import Derived.Deep.Slices
import Derived.Deep.Fields
import Derived.ChangeSame
import Derived.Carry
import Derived.Test.YtafofcenphopbaaGreatDoorA36
import Derived.Lib.QuietBelow
import Derived.Test.YtafofcenphopbaaGreatDoorD9
import Derived.Lib.TrailingZeros
import Derived.Lib.SmallJoins
namespace Go.Proofs.YtafofcenphopbaaGreatDoor
open Go.ChangeShapes Go.WideShapes Go.ChangeAt Go.RowKit

theorem ownN : ownKnob Tryz.prog.godebug = none := by kernel_rfl
def laid2 : List (String × DataW Unit) := Rows.lexPrintsRow.laid
set_option maxRecDepth 100000 in
theorem shaped2 (os : Os) : (World.laidAll Tryz.prog os laid2).Shaped Tryz.prog := World.shaped_of_ZipB (by kernel_rfl) (by kernel_rfl)

section
variable {H : Type} {enc : TypeId × Value → H}
/-- A row that lists variables, its contract handed the world's shape and the reach. -/
theorem handed_of {C : Checked} {os : Os} {f : FuncId} {fn : Func} {s : ChangeSpec} {X : World → Array Value → Prop}
    (own : ownKnob C.prog.godebug = none) (started : os.Started) (noInit : C.prog.inits.idxOf? f = none) (hfn : C.prog.funcs[f]? = some fn)
    (witness : ∃ (w : World) (tape : Tape) (i : Input), w.os = os ∧ (w.forCall tape i).Shaped C.prog ∧ i.vars = [] ∧ Input.okWide C.prog (w.forCall tape i) .any w.heap.size f i ∧
      ((s.pre enc C.prog fn [] false (w.forCall tape i).memory i.args ∧ X (w.forCall tape i).memory i.args) ∧ sizedMet enc C.prog fn (OpenSpec.ofChange s) false (w.forCall tape i).memory i.args) ∧ ({} : Assume).holds C.prog (lone (Frame.enter C.prog f i.args .normal) [] (w.forCall tape i)))
    (contract : ∀ (W : World) (base : Nat) (args : Array Value) (ds gs : List (DataW H)) (before : List MemPlace),
      (∀ (j : Nat) t v, fn.params[j]? = some t → args[j]? = some v → Value.okWide C.prog W .any base t v) →
      DataW.Whole enc C.prog fn.params.toList s.vars false W args.toList ds gs before →
      (DataW.weightsEach C.prog (fn.params.toList ++ s.plain.varTypes C.prog) (ds ++ gs)).all (· ≤ reachBytes) = true → W.ShapedOpen C.prog →
      Calls C.prog f args W fun e W' => ∃ v, e = .returned v ∧ s.post enc C.prog fn false true false false W args v W') :
    ReturnsInHanded {} C os f .any (fun w args => (s.pre enc C.prog fn [] false w args ∧ X w args) ∧ sizedMet enc C.prog fn (OpenSpec.ofChange s) false w args) (s.post enc C.prog fn false true false false) := by
  refine returnsInHanded_of_calls own started noInit witness ?_
  intro w tape i _ hsh _ hok hpre hholds
  obtain ⟨_, _, _, fn', hfn', _, _, _, _, hval⟩ := hok
  have e : fn' = fn := Option.some.inj (hfn'.symm.trans hfn)
  subst e
  obtain ⟨⟨⟨ds, gs, before, hw, hc⟩, hx⟩, hz⟩ := hpre
  have hw' := DataW.Whole.of_heap (w' := w.forCall tape i) (by rfl) hw
  refine (contract (w.forCall tape i) w.heap.size i.args ds gs before hval hw' (hz.weights hw) hsh).mono fun e W' ⟨v, he, hp⟩ => ?_
  subst he
  exact ChangeSpec.post_blind hp
end

/-- The library's variable holds an integer, in every world of that shape. -/
theorem ml_of {W : World} (h : W.ShapedOpen Tryz.prog) : ML W := by
  obtain ⟨m, hm⟩ := cell_of_shapedOpen_int (g := 3) (t := 3) (zero := #[.int .i64 0]) (k := .i64) h (of_decide_eq_true (by kernel_rfl)) (by kernel_rfl) rfl (by kernel_rfl) (by kernel_rfl) Tryz.underlying3
  exact ⟨World.block_lt_of_cell? _ _ hm, m, hm⟩

section
variable {H : Type} {enc : TypeId × Value → H}
set_option maxRecDepth 100000 in
/-- A law that answered true, and changed nothing that stood. -/
theorem law_post {f : Func} {s : ChangeSpec} {W W' : World} {args : Array Value} {ds : List (DataW H)} {before : List MemPlace}
    (hW : DataW.Whole enc Tryz.prog f.params.toList s.vars false W args.toList ds [] before) (hv : s.vars = []) (hr : f.resultTypes = #[4]) (hs : s.fn H (ds ++ []) = { results := [.lit (.bool true)], args := ds })
    (hargs : ∀ sp : Nat → Bool, (∀ p ∈ before, sp p.block = true) → DataW.TrodAll enc Tryz.prog W' 0 sp true f.params.toList args.toList ds before) (hb : Below W.heap.size W W') :
    s.post enc Tryz.prog f false true false false W args (.bool true) W' := by
  have hlt : ∀ p ∈ before, p.block < W.heap.size := fun p hp => hW.lt p hp
  have hold : ∀ p ∈ before, (fun b => decide (b < W.heap.size)) p.block = true := fun p hp => by simpa using hlt p hp
  have hres : ∀ (b : Nat) (sp : Nat → Bool) (hd : Bool), DataW.TrodAll enc Tryz.prog W' b sp hd f.resultTypes.toList ((Value.bool true).resultList f.resultTypes.size) (s.fn H (ds ++ [])).results [] := by
    intro b sp hd
    rw [hr, hs]
    exact trodAll_mk1 (shut_bool Tryz.underlying4 _)
  have hvars : ∀ sp : Nat → Bool, DataW.TrodVars enc Tryz.prog W' sp s.vars (s.fn H (ds ++ [])).vars [] := by
    intro sp; rw [hv, hs]; exact rfl
  have hargs' : ∀ sp : Nat → Bool, (∀ p ∈ before, sp p.block = true) → DataW.TrodAll enc Tryz.prog W' 0 sp true f.params.toList args.toList (s.fn H (ds ++ [])).args before := by
    intro sp hsp; rw [hs]; exact hargs sp hsp
  refine ⟨ds, [], before, [], before, [], hW, hres _ _ _, hargs' _ hold, hvars _, World.keptBut_mono (fun p hp => ⟨hp, ?_⟩) (hb.frame (· ∈ before)), fun _ => ?_⟩
  · exact Or.inr (by simpa using hp)
  · obtain ⟨_, _, _, _, _, hz, hn⟩ := hW
    refine ⟨?_, _, _, ([] ++ before) ++ [], ⟨[] ++ before, [], trodAll_append (hargs' _ (fun _ _ => rfl)) (hres _ _ _), hvars _, rfl, ?_, ?_⟩, ?_⟩
    · exact ok_one hr rfl (okWide_bool_mk Tryz.underlying4 _)
    · intro b off hp
      have hin : MemPlace.cell b off ∈ before := by simpa using hp
      rw [hb.frozen (hlt _ hin)]
      exact hz b off hin
    · intro ha
      cases ha
    · intro p hp _
      simpa using hp
end
end Go.Proofs.YtafofcenphopbaaGreatDoor
namespace Go.Proofs.YtafofcenphopbaaGreatDoor
open Go.ChangeShapes Go.WideShapes Go.Deep Go.RowKit

section
variable {H : Type} {enc : TypeId × Value → H} {P : Program} {w : World} {base : Nat} {spare : Nat → Bool} {held : Bool}
theorem open_slice_fields {t e : TypeId} {fs : Array Field} {fuel : Nat} {cs : List Value} {x : DataW H × List MemPlace} (ht : P.underlying t = some (.slice e)) (he : P.underlying e = some (.struct fs))
    (hone : oneCellFields P fs = true) (hC : P.cellsOf e = fs.size) (h : DataW.trod enc P w base spare held fuel t cs = some x) :
    (cs = [.slice none 0 0] ∧ x = (.nil, [])) ∨
    ∃ (a : Addr) (len cap m : Nat) (D : Nat → DataW H) (Pl : Nat → List MemPlace), cs = [.slice (some a) len cap] ∧ base ≤ a.block ∧ len ≤ cap ∧ cap ≤ maxLen ∧ m = (if spare a.block then cap else len) ∧
      x = (.slice ((List.range len).map D) ((List.range (m - len)).map fun j => D (len + j)), MemPlace.row a (m * fs.size) ++ (List.range m).flatMap Pl) ∧
      ∀ i, i < m → ∃ (ys : List (DataW H × List MemPlace)) (n : Nat), D i = .agg (ys.map (·.1)) ∧ Pl i = ys.flatMap (·.2) ∧ ys.length = fs.size ∧
        ∀ (j : Nat) (f : Field), fs[j]? = some f → ∃ (v : Value) (y : DataW H × List MemPlace), w.cell? (a.add (i * fs.size + j)) = some v ∧ ys[j]? = some y ∧ DataW.trod enc P w base spare held n f.type [v] = some y := by
  rcases open_slice ht h with h0 | ⟨a, len, cap, m, n, D, Pl, hcs, hb, hl, hm, hmm, hx, hi⟩
  · exact .inl h0
  · refine .inr ⟨a, len, cap, m, D, Pl, hcs, hb, hl, hm, hmm, by rw [hC] at hx; exact hx, fun i him => ?_⟩
    obtain ⟨cs', hc, ht'⟩ := hi i him
    rw [hC] at hc
    obtain ⟨ys, n', hn', hy, hlen, hyl, hf⟩ := DataW.trod_struct he ht'
    obtain ⟨_, hcl, hat⟩ := World.cells?_some hc
    simp only [Prod.mk.injEq] at hy
    refine ⟨ys, n', hy.1, hy.2, hyl, fun j f hj => ?_⟩
    obtain ⟨ho, hk⟩ := hone_of hone j f hj
    have hjl : j < fs.size := (Array.getElem?_eq_some_iff.1 hj).1
    have hcell := hat j hjl
    have hv : cs'[j]? = some (cs'[j]'(by omega)) := List.getElem?_eq_getElem (by omega)
    have h1 := hf j f hj
    rw [ho, hk] at h1
    have hone' : (cs'.drop j).take 1 = [cs'[j]'(by omega)] := by
      rw [List.drop_eq_getElem_cons (by omega)]
      rfl
    rw [hone'] at h1
    have hys : ys[j]? = some (ys[j]'(by omega)) := List.getElem?_eq_getElem (by omega)
    refine ⟨_, _, ?_, hys, h1.trans hys⟩
    rw [← Go.Deep.add_add, hcell, hv]
end

section
variable {H : Type} {enc : TypeId × Value → H}
theorem laidO : laidOutB Tryz.prog = true := by kernel_rfl
set_option maxRecDepth 100000 in
/-- One token of the argument: its three cells. -/
theorem open_tok {w : World} {base : Nat} {spare : Nat → Bool} {held : Bool} {a : Addr} {k : Nat} {fs : Array Field} (hfs : Tryz.prog.underlying 24 = some (.struct fs))
    (h : ∃ (ys : List (DataW H × List MemPlace)) (n : Nat), True ∧ True ∧ ys.length = fs.size ∧ ∀ (j : Nat) (f : Field), fs[j]? = some f → ∃ (v : Value) (y : DataW H × List MemPlace), w.cell? (a.add (k * fs.size + j)) = some v ∧ ys[j]? = some y ∧ DataW.trod enc Tryz.prog w base spare held n f.type [v] = some y) :
    ∃ t : T3, ∀ i u, (tokv t)[i]? = some u → w.cell? (a.add (k * 3 + i)) = some u := by
  have := Tryz.underlying24.symm.trans hfs
  simp only [Option.some.injEq, TypeDesc.struct.injEq] at this
  subst this
  obtain ⟨ys, n, _, _, hy, hf⟩ := h
  obtain ⟨v0, y0, c0, _, t0⟩ := hf 0 _ rfl
  obtain ⟨v1, y1, c1, _, t1⟩ := hf 1 _ rfl
  obtain ⟨v2, y2, c2, _, t2⟩ := hf 2 _ rfl
  obtain ⟨a0, e0, _⟩ := DataW.trod_int Tryz.underlying3 t0
  obtain ⟨a1, e1, _⟩ := DataW.trod_string Tryz.underlying9 t1
  obtain ⟨a2, e2, _⟩ := DataW.trod_int Tryz.underlying3 t2
  cases e0; cases e1; cases e2
  refine ⟨⟨a0, a1, a2⟩, fun i u hu => ?_⟩
  match i, hu with
  | 0, hu => cases hu; exact c0
  | 1, hu => cases hu; exact c1
  | 2, hu => cases hu; exact c2
theorem toks_choose {w : World} {a : Addr} : ∀ (m : Nat), (∀ k, k < m → ∃ t : T3, ∀ i u, (tokv t)[i]? = some u → w.cell? (a.add (k * 3 + i)) = some u) →
    ∃ l : List T3, l.length = m ∧ ∀ k, k < m → ∀ i u, (tokv l[k]!)[i]? = some u → w.cell? (a.add (k * 3 + i)) = some u := by
  intro m
  induction m with
  | zero => intro _; exact ⟨[], rfl, fun k hk => by omega⟩
  | succ m ih =>
    intro h
    obtain ⟨l, hl, hc⟩ := ih fun k hk => h k (by omega)
    obtain ⟨t, ht⟩ := h m (by omega)
    refine ⟨l ++ [t], by simp [hl], fun k hk i u hu => ?_⟩
    rcases Nat.lt_or_ge k m with hlt | hge
    · refine hc k hlt i u ?_
      have e : (l ++ [t])[k]! = l[k]! := by
        rw [List.getElem!_eq_getElem?_getD, List.getElem!_eq_getElem?_getD, List.getElem?_append_left (by omega)]
      rw [e] at hu; exact hu
    · obtain rfl : k = m := by omega
      have e : (l ++ [t])[k]! = t := by
        rw [List.getElem!_eq_getElem?_getD, List.getElem?_append_right (by omega), hl]; simp
      rw [e] at hu; exact ht i u hu
set_option maxRecDepth 100000 in
theorem open_toks {r : Reach} {b0 base : Nat} {spare : Nat → Bool} {held : Bool} {w : World} {v : Value} {d : DataW H} {ps : List MemPlace} (hval : Value.okWide Tryz.prog w r b0 22 v) (hd : DataW.Trod enc Tryz.prog w base spare held 22 v d ps) :
    ∃ l, TokRow w v l ∧ l.length ≤ 9223372036854775807 := by
  obtain ⟨a, len, cap, rfl⟩ := okWide_slice Tryz.underlying22 hval
  obtain ⟨fuel, hf⟩ := hd
  rcases open_slice_fields Tryz.underlying22 Tryz.underlying24 (by kernel_rfl) (by kernel_rfl) hf with ⟨h0, _⟩ | ⟨a', len', cap', m, D, Pl, hcs, _, hl, hm, hmm, _, hi⟩
  · simp only [Value.cells, List.cons.injEq, and_true] at h0
    cases h0
    exact ⟨[], ⟨none, 0, rfl, fun h => absurd rfl h⟩, by simp⟩
  · simp only [Value.cells, List.cons.injEq, and_true] at hcs
    cases hcs
    have hml : len ≤ m := by rw [hmm]; split <;> omega
    obtain ⟨l, hll, hc⟩ := toks_choose (w := w) (a := a') len fun k hk => by
      obtain ⟨ys, n, _, _, h3, h4⟩ := hi k (by omega)
      exact open_tok Tryz.underlying24 ⟨ys, n, trivial, trivial, h3, h4⟩
    subst hll
    refine ⟨l, ⟨_, cap, rfl, fun hne => ?_⟩, by have : maxLen = 9223372036854775807 := by rfl
                                                omega⟩
    have hpos : 0 < l.length := List.length_pos_iff.2 hne
    obtain ⟨b, off, spot⟩ := a'
    have h0 := hc 0 hpos 0 _ rfl
    have hspot : spot = none := by simpa [Addr.add] using World.cell?_spot h0
    subst hspot
    refine ⟨b, off, rfl, World.block_lt_of_cell? _ _ h0, fun j hj i u hu => ?_⟩
    have := hc j hj i u hu
    rw [Go.WideShapes.add_plain] at this
    rw [show off + j * 3 + i = off + (j * 3 + i) by omega]; exact this
end
end Go.Proofs.YtafofcenphopbaaGreatDoor
namespace Go.Proofs.YtafofcenphopbaaGreatDoor
open Go.RowKit Go.Sort Lx

def wideS (s : ByteArray) : Bool := decide (21000 < s.size)
theorem short1_any (s : ByteArray) (w : World) : Calls Tryz.prog 47 #[.string s] w fun e w' => e = .returned (.bool (wideS s)) ∧ w' = w := by
  unfold wideS
  go_enter Tryz.func47, Tryz.ntmps47
  go_wp2
  all_goals (
    go_ret
    refine ⟨ret_bool ?_, rfl⟩
    rw [Bool.eq_iff_iff]
    simp
    try omega)
def fIdxS (p : ByteArray → Bool) : List ByteArray → Nat → Int
  | [], _ => -1
  | t :: r, k => if p t then (k : Int) else fIdxS p r (k + 1)
theorem fIdxS_cons (p : ByteArray → Bool) (t : ByteArray) (r : List ByteArray) (k : Nat) : fIdxS p (t :: r) k = if p t then (k : Int) else fIdxS p r (k + 1) := rfl
theorem fIdxS_any (p : ByteArray → Bool) : ∀ (l : List ByteArray) (k : Nat), decide (0 ≤ fIdxS p l k) = l.any p := by
  intro l
  induction l with
  | nil => intro k; rfl
  | cons t r ih =>
    intro k
    rw [fIdxS_cons]
    cases h : p t with
    | true => simp [h]
    | false => simp [h, ih]
set_option maxHeartbeats 1000000 in
set_option maxRecDepth 100000 in
theorem IndexShort_any (ss : List ByteArray) (B : Nat) (w : World) (hc : ∀ j (h : j < ss.length), w.cell? ⟨B, j, none⟩ = some (.string (ss[j]'h))) (hn : ss.length ≤ 1000) :
    Calls Tryz.prog 85 #[.slice (some ⟨B, 0, none⟩) ss.length ss.length, .func (.func 47) #[] #[]] w fun e w' => e = .returned (.int .i64 (fIdxS wideS ss 0)) ∧ w' = w := by
  generalize hnn : ss.length = n at hn ⊢
  have HN := Lib.hid hnn
  have H1 := Lib.hid hc
  clear hnn hc
  go_enter Tryz.func85, Tryz.ntmps85
  go_wp2_with fail
  go_loop [8] (fun q => ∃ k : Nat, k ≤ n ∧ q = .int .i64 k ∧ fIdxS wideS ss 0 = fIdxS wideS (ss.drop k) k) (fun q => n - (intOf q).toNat)
  case atStart => exact ⟨0, Nat.zero_le _, rfl, rfl⟩
  case round =>
    obtain ⟨k, hk, rfl, hf⟩ := hrel
    have HF := Lib.hid hf
    clear hf
    by_cases hlt : k < n
    · have hltz : (k : Int) < (n : Int) := by omega
      have hl : k < ss.length := by rw [HN.out]; exact hlt
      have hcell := H1.out k hl
      have hst : fIdxS wideS (ss.drop k) k = if wideS (ss[k]'hl) then (k : Int) else fIdxS wideS (ss.drop (k + 1)) (k + 1) := by rw [List.drop_eq_getElem_cons hl, fIdxS_cons]
      generalize ss[k] = x at hcell hst
      have hq := fun W => short1_any x W
      have HQ := Lib.hid hq
      have HST := Lib.hid hst
      clear hq hst
      cases hv : wideS x with
      | true =>
        rw [hv] at HQ HST
        clear hv
        go_wp2_with fail
        refine (HQ.out _).mono ?_
        rintro e w' ⟨rfl, hw⟩
        rw [hw]
        clear hw
        go_wp2_with fail
        go_ret
        exact ⟨by rw [HF.out, HST.out]; rfl, rfl⟩
      | false =>
        rw [hv] at HQ HST
        clear hv
        go_wp2_with fail
        refine (HQ.out _).mono ?_
        rintro e w' ⟨rfl, hw⟩
        rw [hw]
        clear hw
        go_wp2_with fail
        go_round
        case rel => exact ⟨k + 1, hlt, by go_num, by rw [HF.out, HST.out]; rfl⟩
        case measure => simp [intOf]; omega
    · have hltz : ¬ (k : Int) < (n : Int) := by omega
      have hfin : fIdxS wideS ss 0 = -1 := by rw [HF.out, List.drop_of_length_le (by rw [HN.out]; omega)]; rfl
      have HFN := Lib.hid hfin
      clear hfin
      go_wp2_with fail
      go_ret
      exact ⟨by rw [HFN.out]; rfl, rfl⟩
set_option maxHeartbeats 1000000 in
theorem short_any (ss : List ByteArray) (B n : Nat) (hnn : ss.length = n) (b : Bool) (hb : (!ss.any wideS) = b) (w : World) (hc : ∀ j (h : j < ss.length), w.cell? ⟨B, j, none⟩ = some (.string (ss[j]'h))) (hn : n ≤ 1000) :
    Calls Tryz.prog 13 #[.slice (some ⟨B, 0, none⟩) n n] w fun e w' => e = .returned (.bool b) ∧ w' = w := by
  have hq := IndexShort_any ss B w hc (by omega)
  rw [hnn] at hq
  have hi := fIdxS_any wideS ss 0
  generalize fIdxS wideS ss 0 = x at hq hi
  have hcf : Calls Tryz.prog 46 #[.slice (some ⟨B, 0, none⟩) n n, .func (.func 47) #[] #[]] w fun e w' => e = .returned (.bool (ss.any wideS)) ∧ w' = w := by
    have HQ := Lib.hid hq
    have HI := Lib.hid hi
    clear hq hi hb hc
    go_enter Tryz.func46, Tryz.ntmps46
    go_wp2_with fail
    refine HQ.out.mono ?_
    rintro e w' ⟨rfl, hw⟩
    rw [hw]
    clear hw
    go_wp2_with fail
    go_ret
    exact ⟨by rw [← HI.out]; rfl, rfl⟩
  have HC := Lib.hid hcf
  have HB := Lib.hid hb
  clear hcf hq hi hb hc
  go_enter Tryz.func13, Tryz.ntmps13
  go_wp2_with fail
  refine HC.out.mono ?_
  rintro e w' ⟨rfl, hw⟩
  rw [hw]
  clear hw
  go_wp2_with fail
  go_ret
  exact ⟨by rw [← HB.out]; rfl, rfl⟩
end Go.Proofs.YtafofcenphopbaaGreatDoor
namespace Go.Proofs.YtafofcenphopbaaGreatDoor
open Go.RowKit Lx

theorem eqValue (n n' : Int) (s s' : ByteArray) (w : World) : (binOp .eql 36 (.agg #[.int .i64 n, .string s]) (.agg #[.int .i64 n', .string s'])).run Tryz.prog w =
    .ok (.bool (decide (n = n') && decide (s = s'))) w := by
  have u3 := Tryz.underlying3
  have a3 := Tryz.isAgg3
  have z3 := Tryz.sizeOf3
  have hS : Tryz.prog.underlying 36 = some (.struct (Tryz.prog.fieldsOf 36)) := by kernel_rfl
  have hp : Tryz.prog.stoodInHeld 36 = false := by kernel_rfl
  rw [run_eql_struct, show (10000 : Nat) = 9999 + 1 from rfl, run_equalIn_agg w 9999 36 _ _ hS hp]
  simp only [Program.fieldsOf, Tryz.underlying36]
  go_simp
  have ht : (s.toList = s'.toList) = (s = s') := by rw [ByteArray.toList_eq, ByteArray.toList_eq]; obtain ⟨⟨x⟩⟩ := s; obtain ⟨⟨y⟩⟩ := s'; simp
  by_cases h1 : n = n' <;> by_cases h5 : s = s' <;> simp [h1, h5, ht]
/-- The three arguments, boxed. -/
structure CB (w : World) (b : Nat) (k : Int) (t : ByteArray) (a : Int) (k' p q : Int) (vary : Bool) (pic : ByteArray) (n : Int) (s : ByteArray) : Prop where
  h0 : w.heap[b]? = some (.cells #[.int .i64 k, .string t, .int .i64 a] 24)
  h1 : w.heap[b + 1]? = some (.cells #[.int .i64 k', .int .i64 p, .int .i64 q, .bool vary, .string pic] 34)
  h2 : w.heap[b + 1 + 1]? = some (.cells #[.int .i64 n, .string s] 36)
theorem CB.below {w w' : World} {b : Nat} {k : Int} {t : ByteArray} {a k' p q : Int} {vary : Bool} {pic : ByteArray} {n : Int} {s : ByteArray} (h : CB w b k t a k' p q vary pic n s) (hb : Below w.heap.size w w') : CB w' b k t a k' p q vary pic n s :=
  ⟨(hb.block _ (Array.getElem?_eq_some_iff.1 h.h0).1).trans h.h0, (hb.block _ (Array.getElem?_eq_some_iff.1 h.h1).1).trans h.h1, (hb.block _ (Array.getElem?_eq_some_iff.1 h.h2).1).trans h.h2⟩
theorem CB.tok {w : World} {b : Nat} {k : Int} {t : ByteArray} {a k' p q : Int} {vary : Bool} {pic : ByteArray} {n : Int} {s : ByteArray} (h : CB w b k t a k' p q vary pic n s) :
    w.cell? ⟨b, 0, none⟩ = some (.int .i64 k) ∧ w.cell? ⟨b, 1, none⟩ = some (.string t) ∧ w.cell? ⟨b, 2, none⟩ = some (.int .i64 a) :=
  ⟨cell_of_row _ _ 0 _ _ _ h.h0, cell_of_row _ _ 1 _ _ _ h.h0, cell_of_row _ _ 2 _ _ _ h.h0⟩
theorem CB.tv {w : World} {b : Nat} {k : Int} {t : ByteArray} {a k' p q : Int} {vary : Bool} {pic : ByteArray} {n : Int} {s : ByteArray} (h : CB w b k t a k' p q vary pic n s) :
    w.cell? ⟨b + 1, 0, none⟩ = some (.int .i64 k') ∧ w.cell? ⟨b + 1, 1, none⟩ = some (.int .i64 p) ∧ w.cell? ⟨b + 1, 2, none⟩ = some (.int .i64 q) ∧ w.cell? ⟨b + 1, 3, none⟩ = some (.bool vary) ∧ w.cell? ⟨b + 1, 4, none⟩ = some (.string pic) ∧
      w.cell? ⟨b + 1 + 1, 0, none⟩ = some (.int .i64 n) ∧ w.cell? ⟨b + 1 + 1, 1, none⟩ = some (.string s) :=
  ⟨cell_of_row _ _ 0 _ _ _ h.h1, cell_of_row _ _ 1 _ _ _ h.h1, cell_of_row _ _ 2 _ _ _ h.h1, cell_of_row _ _ 3 _ _ _ h.h1, cell_of_row _ _ 4 _ _ _ h.h1, cell_of_row _ _ 0 _ _ _ h.h2, cell_of_row _ _ 1 _ _ _ h.h2⟩
set_option maxHeartbeats 4000000 in
set_option maxRecDepth 100000 in
theorem LexConstants_walk (k : Int) (t : ByteArray) (a k' p q : Int) (vary : Bool) (pic : ByteArray) (n : Int) (s : ByteArray) (hN : -9223372036854775808 ≤ n ∧ n ≤ 9223372036854775807) (w : World) (hml : ML w) (hnt : NT w) :
    Calls Tryz.prog 4 #[.agg #[.int .i64 k, .string t, .int .i64 a], .agg #[.int .i64 k', .int .i64 p, .int .i64 q, .bool vary, .string pic], .agg #[.int .i64 n, .string s]] w fun e w' => e = .returned (.bool true) ∧ Below w.heap.size w w' := by
  obtain ⟨b0, n0, n1, n2⟩ := box3 w (.cells #[.int .i64 k, .string t, .int .i64 a] 24) (.cells #[.int .i64 k', .int .i64 p, .int .i64 q, .bool vary, .string pic] 34) (.cells #[.int .i64 n, .string s] 36)
  have hm0 := hml.below b0
  have ht0 := hnt.below b0
  go_enter Tryz.func4, Tryz.ntmps4
  go_wp2_with fail
  generalize ((w.alloc (.cells #[.int .i64 k, .string t, .int .i64 a] 24)).alloc (.cells #[.int .i64 k', .int .i64 p, .int .i64 q, .bool vary, .string pic] 34)).alloc (.cells #[.int .i64 n, .string s] 36) = w1 at b0 n0 n1 n2 hm0 ht0 ⊢
  have bx : CB w1 w.heap.size k t a k' p q vary pic n s := ⟨n0, n1, n2⟩
  obtain ⟨B, hB⟩ : ∃ B, B = w.heap.size := ⟨_, rfl⟩
  rw [← hB] at bx
  simp only [← hB]
  clear hB n0 n1 n2 hml hnt
  refine (sane_any _ hm0).mono ?_
  rintro e w2 ⟨rfl, hb⟩
  have bb := b0.trans (hb.mono b0.size)
  have ht1 := ht0.below hb
  have bx1 := bx.below hb
  clear b0 hm0 ht0 bx hb
  obtain ⟨c0, c1, c2⟩ := bx1.tok
  obtain ⟨d0, d1, d2, d3, d4, e0, e1⟩ := bx1.tv
  go_wp2_with fail
  have b2 := below_box w2 (.cells #[.string t, .string s] 9)
  have y0 := cell_box w2 #[.string t, .string s] 9 0
  have y1 := cell_box w2 #[.string t, .string s] 9 1
  have ht2 := ht1.below b2
  have bx2 := bx1.below b2
  have bb := bb.trans (b2.mono bb.size)
  generalize w2.alloc (.cells #[.string t, .string s] 9) = w3 at b2 y0 y1 ht2 bx2 bb ⊢
  clear c0 c1 c2 d0 d1 d2 d3 d4 e0 e1 b2 ht1 bx1
  cases hv : !([t, s].any wideS) with
  | false =>
    refine (short_any [t, s] _ 2 rfl _ hv w3 (fun j h => by
      match j, h with
      | 0, _ => exact y0
      | 1, _ => exact y1) (by decide)).mono ?_
    rintro e w' ⟨rfl, hw⟩
    rw [hw]
    clear hw y0 y1
    go_wp2_with fail
    go_ret
    exact ⟨rfl, bb⟩
  | true =>
    refine (short_any [t, s] _ 2 rfl _ hv w3 (fun j h => by
      match j, h with
      | 0, _ => exact y0
      | 1, _ => exact y1) (by decide)).mono ?_
    rintro e w' ⟨rfl, hw⟩
    rw [hw]
    clear hw y0 y1
    have hsz : t.size ≤ 21000 ∧ s.size ≤ 21000 := by
      simp [wideS] at hv
      omega
    obtain ⟨hs1, hs2⟩ := hsz
    clear hv
    obtain ⟨r, hr⟩ : ∃ r, r = conI k t := ⟨_, rfl⟩
    have f1 : ∀ W, Calls Tryz.prog 14 #[.agg #[.int .i64 k, .string t, .int .i64 a]] W fun e w' => e = .returned (conV r) ∧ Below W.heap.size W w' := fun W => by rw [hr]; exact Constant_any k t a (by omega) W
    have f2 : ∀ W, Calls Tryz.prog 15 #[.agg #[.int .i64 k, .string t, .int .i64 a]] W fun e w' => e = .returned (conV r) ∧ Below W.heap.size W w' := fun W => by rw [hr]; exact rConstant_any k t a (by omega) W
    have f3 := fun W => Literal_any k' p q n vary pic s (by omega) W
    have f4 := fun W (h : NT W) => rLiteral_any k' p q n vary pic s (by omega) hN W h
    have hll : (litI k' p q vary pic n s).1.length ≤ 2 := by
      unfold litI
      repeat' split
      all_goals simp
    generalize (litI k' p q vary pic n s).1 = lr at f3 f4 hll
    generalize (litI k' p q vary pic n s).2 = le at f3 f4
    unfold conV at f1 f2
    have F1 := Lib.hid f1
    have F2 := Lib.hid f2
    have F3 := Lib.hid f3
    have F4 := Lib.hid f4
    clear f1 f2 f3 f4 hr hs1 hs2 hN
    obtain ⟨c0, c1, c2⟩ := bx2.tok
    go_wp2_with fail
    refine (F1.out _).mono ?_
    rintro e w4 ⟨rfl, hb⟩
    have bb := bb.trans (hb.mono bb.size)
    have ht3 := ht2.below hb
    have bx3 := bx2.below hb
    clear c0 c1 c2 hb ht2 bx2
    go_upto_region 6 with fail
    have b5 := below_box2 w4 (.cells #[.int .i64 r.kind, .int .i64 r.p, .int .i64 r.q, .bool false, .string ⟨#[]⟩] 34) (.cells #[.int .i64 r.n, .string r.s] 36)
    have L5 := lb_box w4 r.kind r.p r.q false ⟨#[]⟩ r.n r.s
    generalize (w4.alloc (.cells #[.int .i64 r.kind, .int .i64 r.p, .int .i64 r.q, .bool false, .string ⟨#[]⟩] 34)).alloc (.cells #[.int .i64 r.n, .string r.s] 36) = w5 at b5 L5 ⊢
    have bb := bb.trans (b5.mono bb.size)
    have ht4 := ht3.below b5
    have bx4 := bx3.below b5
    clear b5 ht3 bx3
    generalize w4.heap.size = B4 at L5 ⊢
    obtain ⟨c0, c1, c2⟩ := bx4.tok
    go_wp2_with fail
    refine (F2.out _).mono ?_
    rintro e w6 ⟨rfl, hb⟩
    have bb := bb.trans (hb.mono bb.size)
    have ht5 := ht4.below hb
    have bx5 := bx4.below hb
    have L6 := L5.below hb (Nat.le_refl _)
    clear c0 c1 c2 hb ht4 bx4 L5
    go_upto_region 7 with fail
    have b7 := below_box2 w6 (.cells #[.int .i64 r.kind, .int .i64 r.p, .int .i64 r.q, .bool false, .string ⟨#[]⟩] 34) (.cells #[.int .i64 r.n, .string r.s] 36)
    have M7 := lb_box w6 r.kind r.p r.q false ⟨#[]⟩ r.n r.s
    generalize (w6.alloc (.cells #[.int .i64 r.kind, .int .i64 r.p, .int .i64 r.q, .bool false, .string ⟨#[]⟩] 34)).alloc (.cells #[.int .i64 r.n, .string r.s] 36) = w7 at b7 M7 ⊢
    have bb := bb.trans (b7.mono bb.size)
    have ht6 := ht5.below b7
    have bx6 := bx5.below b7
    have L7 := L6.below b7 (Nat.le_refl _)
    clear b7 ht5 bx5 L6
    generalize w6.heap.size = B6 at M7 ⊢
    obtain ⟨d0, d1, d2, d3, d4, e0, e1⟩ := bx6.tv
    go_wp2_with fail
    refine (F3.out _).mono ?_
    rintro e w8 ⟨lv, rfl, h8, hb⟩
    have bb := bb.trans (hb.mono bb.size)
    have ht7 := ht6.below hb
    have bx7 := bx6.below hb
    have L8 := L7.below hb (Nat.le_refl _)
    have M8 := M7.below hb (Nat.le_refl _)
    clear d0 d1 d2 d3 d4 e0 e1 hb ht6 bx6 L7 M7
    obtain ⟨d0, d1, d2, d3, d4, e0, e1⟩ := bx7.tv
    go_wp2_with fail
    refine (F4.out _ ht7).mono ?_
    rintro e w9 ⟨mv, rfl, h9, hb⟩
    have bb := bb.trans (hb.mono bb.size)
    have L9 := L8.below hb (Nat.le_refl _)
    have M9 := M8.below hb (Nat.le_refl _)
    have g9 := h8.below hb (Nat.le_refl _)
    clear d0 d1 d2 d3 d4 e0 e1 hb ht7 bx7 L8 M8 h8
    obtain ⟨d0, d1, d2, d3, d4, e0, e1⟩ := L9.cells
    obtain ⟨i0, i1, i2, i3, i4, j0, j1⟩ := M9.cells
    have he := eqType r.kind r.p r.q r.kind r.p r.q false false ⟨#[]⟩ ⟨#[]⟩ w9
    have hv := eqValue r.n r.n r.s r.s w9
    simp only [decide_true, Bool.and_self, BEq.rfl] at he hv
    have hq := EqualT_any lv mv _ _ w9 g9 h9 (by simp; omega) (by simp; omega)
    simp only [decide_true] at hq
    have HQ := Lib.hid hq
    clear hq g9 h9 hll
    go_wp2_with fail
    refine HQ.out.mono ?_
    rintro e wz ⟨rfl, qq, hw⟩
    rw [hw]
    clear hw
    go_wp2_with fail
    go_ret
    exact ⟨by simp, below_drewN bb qq⟩
end Go.Proofs.YtafofcenphopbaaGreatDoor
namespace Go.Proofs.YtafofcenphopbaaGreatDoor
open Go.Joins Go.ChangeShapes Go.WideShapes Go.RowKit Go.Deep

section
variable {H : Type} {enc : TypeId × Value → H}
set_option maxRecDepth 100000 in
theorem open_token {r : Reach} {b0 base : Nat} {spare : Nat → Bool} {held : Bool} {w : World} {v : Value} {d : DataW H} {ps : List MemPlace} (hval : Value.okWide Tryz.prog w r b0 24 v) (hd : DataW.Trod enc Tryz.prog w base spare held 24 v d ps) :
    ∃ (k : Int) (t : ByteArray) (a : Int), v = .agg #[.int .i64 k, .string t, .int .i64 a] := by
  obtain ⟨v0, v1, v2, y0, y1, y2, n, rfl, _, _, t0, t1, t2⟩ := open_agg3 Tryz.underlying24 (by kernel_rfl) (by kernel_rfl) hval hd
  obtain ⟨a0, e0, _⟩ := DataW.trod_int Tryz.underlying3 t0
  obtain ⟨a1, e1, _⟩ := DataW.trod_string Tryz.underlying9 t1
  obtain ⟨a2, e2, _⟩ := DataW.trod_int Tryz.underlying3 t2
  cases e0; cases e1; cases e2
  exact ⟨_, _, _, rfl⟩
theorem open_agg5 {P : Program} {w : World} {base : Nat} {spare : Nat → Bool} {held : Bool} {r : Reach} {b0 : Nat} {t : TypeId} {f0 f1 f2 f3 f4 : Field} {v : Value} {d : DataW H} {p : List MemPlace} (hs : P.underlying t = some (.struct #[f0, f1, f2, f3, f4])) (hone : oneCellFields P #[f0, f1, f2, f3, f4] = true) (hC : P.cellsOf t = 5)
    (hv : Value.okWide P w r b0 t v) (h : DataW.Trod enc P w base spare held t v d p) :
    ∃ (v0 v1 v2 v3 v4 : Value) (y0 y1 y2 y3 y4 : DataW H × List MemPlace) (n : Nat), v = .agg #[v0, v1, v2, v3, v4] ∧
      DataW.trod enc P w base spare held n f0.type [v0] = some y0 ∧ DataW.trod enc P w base spare held n f1.type [v1] = some y1 ∧ DataW.trod enc P w base spare held n f2.type [v2] = some y2 ∧ DataW.trod enc P w base spare held n f3.type [v3] = some y3 ∧ DataW.trod enc P w base spare held n f4.type [v4] = some y4 := by
  obtain ⟨cs, rfl, hsz⟩ := okWide_struct hs hv
  have hsz := hsz.trans hC
  obtain ⟨l⟩ := cs
  match l, hsz with
  | [c0, c1, c2, c3, c4], _ =>
    obtain ⟨fuel, hf⟩ := h
    obtain ⟨xs, n, _, _, hl, hlen, hg⟩ := DataW.trod_struct hs hf
    match xs, hlen with
    | [y0, y1, y2, y3, y4], _ =>
      obtain ⟨o0, k0⟩ := hone_of hone 0 f0 rfl
      obtain ⟨o1, k1⟩ := hone_of hone 1 f1 rfl
      obtain ⟨o2, k2⟩ := hone_of hone 2 f2 rfl
      obtain ⟨o3, k3⟩ := hone_of hone 3 f3 rfl
      obtain ⟨o4, k4⟩ := hone_of hone 4 f4 rfl
      have g0 := hg 0 f0 rfl
      have g1 := hg 1 f1 rfl
      have g2 := hg 2 f2 rfl
      have g3 := hg 3 f3 rfl
      have g4 := hg 4 f4 rfl
      exact ⟨c0, c1, c2, c3, c4, y0, y1, y2, y3, y4, n, rfl, by simpa [Value.cells, o0, k0] using g0, by simpa [Value.cells, o1, k1] using g1, by simpa [Value.cells, o2, k2] using g2, by simpa [Value.cells, o3, k3] using g3, by simpa [Value.cells, o4, k4] using g4⟩
set_option maxRecDepth 100000 in
theorem open_type {r : Reach} {b0 base : Nat} {spare : Nat → Bool} {held : Bool} {w : World} {v : Value} {d : DataW H} {ps : List MemPlace} (hval : Value.okWide Tryz.prog w r b0 34 v) (hd : DataW.Trod enc Tryz.prog w base spare held 34 v d ps) :
    ∃ (k p q : Int) (vary : Bool) (pic : ByteArray), v = .agg #[.int .i64 k, .int .i64 p, .int .i64 q, .bool vary, .string pic] := by
  obtain ⟨v0, v1, v2, v3, v4, y0, y1, y2, y3, y4, n, rfl, t0, t1, t2, t3, t4⟩ := open_agg5 Tryz.underlying34 (by kernel_rfl) (by kernel_rfl) hval hd
  obtain ⟨a0, e0, _⟩ := DataW.trod_int Tryz.underlying3 t0
  obtain ⟨a1, e1, _⟩ := DataW.trod_int Tryz.underlying3 t1
  obtain ⟨a2, e2, _⟩ := DataW.trod_int Tryz.underlying3 t2
  obtain ⟨a3, e3, _⟩ := DataW.trod_bool Tryz.underlying4 t3
  obtain ⟨a4, e4, _⟩ := DataW.trod_string Tryz.underlying9 t4
  cases e0; cases e1; cases e2; cases e3; cases e4
  exact ⟨_, _, _, _, _, rfl⟩
set_option maxRecDepth 100000 in
theorem open_value {r : Reach} {b0 base : Nat} {spare : Nat → Bool} {held : Bool} {w : World} {v : Value} {d : DataW H} {ps : List MemPlace} (hval : Value.okWide Tryz.prog w r b0 36 v) (hd : DataW.Trod enc Tryz.prog w base spare held 36 v d ps) :
    ∃ (n : Int) (s : ByteArray), (-9223372036854775808 ≤ n ∧ n ≤ 9223372036854775807) ∧ v = .agg #[.int .i64 n, .string s] := by
  obtain ⟨v0, v1, y0, y1, n, rfl, _, _, t0, t1⟩ := open_agg2 Tryz.underlying36 (by kernel_rfl) (by kernel_rfl) hval hd
  obtain ⟨a0, e0, _, wn⟩ := DataW.trod_int Tryz.underlying3 t0
  obtain ⟨a1, e1, _⟩ := DataW.trod_string Tryz.underlying9 t1
  cases e0; cases e1
  refine ⟨_, _, ?_, rfl⟩
  have : IntKind.i64.min ≤ a0 ∧ a0 ≤ IntKind.i64.max := by simpa [Lit.wf] using wn
  simpa [IntKind.min, IntKind.max, IntKind.signed, IntKind.bits] using this
open Go.ChangeAt in
/-- As handed_of, the laid condition handed on. -/
theorem handed_ofL {C : Checked} {os : Os} {f : FuncId} {fn : Func} {s : ChangeSpec} {X : World → Array Value → Prop}
    (own : ownKnob C.prog.godebug = none) (started : os.Started) (noInit : C.prog.inits.idxOf? f = none) (hfn : C.prog.funcs[f]? = some fn)
    (witness : ∃ (w : World) (tape : Tape) (i : Input), w.os = os ∧ (w.forCall tape i).Shaped C.prog ∧ i.vars = [] ∧ Input.okWide C.prog (w.forCall tape i) .any w.heap.size f i ∧
      ((s.pre enc C.prog fn [] false (w.forCall tape i).memory i.args ∧ X (w.forCall tape i).memory i.args) ∧ sizedMet enc C.prog fn (OpenSpec.ofChange s) false (w.forCall tape i).memory i.args) ∧ ({} : Assume).holds C.prog (lone (Frame.enter C.prog f i.args .normal) [] (w.forCall tape i)))
    (contract : ∀ (W : World) (base : Nat) (args : Array Value) (ds gs : List (DataW H)) (before : List MemPlace),
      (∀ (j : Nat) t v, fn.params[j]? = some t → args[j]? = some v → Value.okWide C.prog W .any base t v) →
      DataW.Whole enc C.prog fn.params.toList s.vars false W args.toList ds gs before →
      (DataW.weightsEach C.prog (fn.params.toList ++ s.plain.varTypes C.prog) (ds ++ gs)).all (· ≤ reachBytes) = true → W.ShapedOpen C.prog → X W.memory args →
      Calls C.prog f args W fun e W' => ∃ v, e = .returned v ∧ s.post enc C.prog fn false true false false W args v W') :
    ReturnsInHanded {} C os f .any (fun w args => (s.pre enc C.prog fn [] false w args ∧ X w args) ∧ sizedMet enc C.prog fn (OpenSpec.ofChange s) false w args) (s.post enc C.prog fn false true false false) := by
  refine returnsInHanded_of_calls own started noInit witness ?_
  intro w tape i _ hsh _ hok hpre hholds
  obtain ⟨_, _, _, fn', hfn', _, _, _, _, hval⟩ := hok
  have e : fn' = fn := Option.some.inj (hfn'.symm.trans hfn)
  subst e
  obtain ⟨⟨⟨ds, gs, before, hw, hc⟩, hx⟩, hz⟩ := hpre
  have hw' := DataW.Whole.of_heap (w' := w.forCall tape i) (by rfl) hw
  refine (contract (w.forCall tape i) w.heap.size i.args ds gs before hval hw' (hz.weights hw) hsh hx).mono fun e W' ⟨v, he, hp⟩ => ?_
  subst he
  exact ChangeSpec.post_blind hp
theorem laid_tail {P : Program} {w : World} {x : String × DataW Unit} {rest : List (String × DataW Unit)} {ps : List MemPlace} (h : DataW.LaidVars P w (x :: rest) ps) : ∃ q, DataW.LaidVars P w rest q := by
  obtain ⟨_, _, _, _, _, q, _, _, _, _, h, _⟩ := h
  exact ⟨q, h⟩
theorem tabIs_of_vars {P : Program} {W : World} {name : String} {k : IntKind} {zs : List Int} {rest : List (String × DataW Unit)} {ps : List MemPlace} {g : Nat} {t e : TypeId} {n : Nat}
    (hg : P.globalNamed name = some g) (hty : (P.globals[g]?).map (·.type) = some t) (ht : P.underlying t = some (.array n e)) (he : P.underlying e = some (.int k)) (hce : P.cellsOf e = 1) (hct : P.cellsOf t = n)
    (h : DataW.LaidVars P W ((name, Lib.tabData k zs) :: rest) ps) : Lib.TabIs P W name k zs := by
  obtain ⟨g', t', cs, fuel, p, q, hg', ht', hvar, hd, _, _⟩ := h
  obtain rfl := Option.some.inj (hg.symm.trans hg')
  obtain rfl := Option.some.inj (hty.symm.trans ht')
  unfold Lib.TabIs
  rw [hvar, ← Lib.cells_of_tab ht he hce hct hd]
def laid3 : List (String × DataW Unit) := Rows.lexConstantsRow.laid
set_option maxRecDepth 100000 in
theorem shaped3 (os : Os) : (World.laidAll Tryz.prog os laid3).Shaped Tryz.prog := World.shaped_of_ZipB (by kernel_rfl) (by kernel_rfl)
set_option maxRecDepth 100000 in
/-- The law's own condition lays the two tables. -/
theorem nt_of {W : World} (h : laidMet Tryz.prog laid3 W) : NT W := by
  obtain ⟨ps, hv, _⟩ := h
  obtain ⟨q1, h1⟩ := laid_tail hv
  obtain ⟨q2, h2⟩ := laid_tail h1
  have t1 : Lib.TabIs Tryz.prog W "math/bits.deBruijn64tab" .u8 (Lib.deBruijn64tab.map Int.ofNat) := tabIs_of_vars (g := 5) (t := 183) (e := 5) (n := 64) (by kernel_rfl) (by kernel_rfl) (by kernel_rfl) (by kernel_rfl) (by kernel_rfl) (by kernel_rfl) h1
  have t2 : Lib.TabIs Tryz.prog W "internal/strconv.uint64pow10" .u64 Lib.pow10Tab := tabIs_of_vars (g := 2) (t := 174) (e := 149) (n := 20) (by kernel_rfl) (by kernel_rfl) (by kernel_rfl) (by kernel_rfl) (by kernel_rfl) (by kernel_rfl) h2
  have hc : W.cell? ⟨5, 1, none⟩ = some (.int .u8 1) := t1.cell (by kernel_rfl) 1 (by decide)
  exact ⟨World.block_lt_of_cell? _ _ hc, hc, t2⟩
end
end Go.Proofs.YtafofcenphopbaaGreatDoor
namespace Go.Proofs.YtafofcenphopbaaGreatDoor
open Go.ChangeShapes Go.WideShapes Go.ChangeAt Go.RowKit
open Go.ChangeMaps (open_string shut_string)
set_option maxRecDepth 100000 in
theorem LexConstants_lifted (os : Os) (started : os.Started) (H : Type) (enc : TypeId × Value → H) :
    ReturnsInHanded {} Tryz.checked os 4 .any (fun w args => (Rows.lexConstantsSpec.pre enc Tryz.prog Tryz.f4 [] false w args ∧ laidMetH Tryz.prog laid3 w) ∧ sizedMet enc Tryz.prog Tryz.f4 (OpenSpec.ofChange Rows.lexConstantsSpec) false w args)
      (Rows.lexConstantsSpec.post enc Tryz.prog Tryz.f4 false true false false) := by
  refine handed_ofL (C := Tryz.checked) (X := fun w _ => laidMetH Tryz.prog laid3 w) ownN started (by kernel_rfl) Tryz.func4
    (ChangeSpec.witness_shaped (enc := enc) (C := Tryz.checked) (os := os) (X := fun w _ => laidMetH Tryz.prog laid3 w) false (World.laidAll Tryz.prog os laid3) #[.agg #[.int .i64 0, .string ⟨#[]⟩, .int .i64 0], .agg #[.int .i64 0, .int .i64 0, .int .i64 0, .bool false, .string ⟨#[]⟩], .agg #[.int .i64 0, .string ⟨#[]⟩]] 8 (World.laidAll_os _ _ _)
      (shaped3 os) (by kernel_rfl) (by kernel_rfl) (by kernel_rfl)
      (by rw [MakeChecks.laidMetH_plain _ _ _ (by kernel_rfl)]; exact laidMet_laidAll _ (by kernel_rfl) (by kernel_rfl))) ?_
  intro W base args ds gs before hval0 hW _ hsh hLH
  have hval : ∀ (j : Nat) t v, Tryz.f4.params[j]? = some t → args[j]? = some v → Value.okWide Tryz.prog W .any base t v := hval0
  have hW' := hW
  obtain ⟨p, q, hA0, hV, rfl, _, _⟩ := hW
  have hA : DataW.TrodAll enc Tryz.prog W 0 (fun _ => true) true Tryz.f4.params.toList args.toList ds p := hA0
  rw [Tryz.params4] at hA hval
  obtain ⟨v0, v1, v2, d0, d1, d2, p0, p1, p2, rfl, rfl, rfl, h0, h1, h2⟩ := trodAll_three hA
  obtain ⟨rfl, rfl⟩ := trodVars_none hV
  obtain ⟨k1, x1, y1, rfl⟩ := open_token (hval 0 _ v0 rfl rfl) h0
  obtain ⟨k2, tp, tq, vy, pic, rfl⟩ := open_type (hval 1 _ v1 rfl rfl) h1
  obtain ⟨n3, s3, hN, rfl⟩ := open_value (hval 2 _ v2 rfl rfl) h2
  have hL : laidMet Tryz.prog laid3 W.memory := by rw [MakeChecks.laidMetH_plain _ _ _ (by kernel_rfl)] at hLH; exact hLH
  have hT0 : NT W.memory := nt_of hL
  have hT : NT W := hT0
  refine (LexConstants_walk k1 x1 y1 k2 tp tq vy pic n3 s3 hN W (ml_of hsh) hT).mono fun e W' ⟨he, hb⟩ => ?_
  subst he
  have hlt : ∀ x ∈ (p0 ++ p1 ++ p2) ++ [], x.block < W.heap.size := fun x hx => hW'.lt x hx
  exact ⟨_, rfl, law_post hW' rfl rfl rfl (fun sp hsp => by
    rw [Tryz.params4]
    rw [List.append_nil] at hsp hlt ⊢
    rw [List.append_assoc]
    exact trodAll_mk3 (WideElems.Trod_stays laidO (by kernel_rfl) (of_decide_eq_true (by kernel_rfl)) h0 (fun x hx => hb.same (hlt x (by simp [hx]))) (fun x hx => hsp x (by simp [hx])))
      (WideElems.Trod_stays laidO (by kernel_rfl) (of_decide_eq_true (by kernel_rfl)) h1 (fun x hx => hb.same (hlt x (by simp [hx]))) (fun x hx => hsp x (by simp [hx])))
      (WideElems.Trod_stays laidO (by kernel_rfl) (of_decide_eq_true (by kernel_rfl)) h2 (fun x hx => hb.same (hlt x (by simp [hx]))) (fun x hx => hsp x (by simp [hx])))) hb⟩
theorem LexConstants_of : Rows.LexConstantsSaid :=
  OpenClaim.holds_of_wide 4 Tryz.f4 rfl rfl rfl rfl rfl rfl rfl ⟨rfl, rfl, rfl, rfl, rfl⟩ rfl rfl rfl rfl rfl (by kernel_rfl) Tryz.func4 (by kernel_rfl)
    (of_decide_eq_true (by kernel_rfl)) (by unfold Func.isWrapper; first | (rw [if_pos (by decide +kernel)]; kernel_rfl) | (rw [if_neg (by decide +kernel)]; exact ⟨rfl, rfl⟩))
    (fun os started H enc _ => LexConstants_lifted os started H enc)
theorem LexConstants_card : Rows.LexConstantsCardSaid :=
  Claim7.holds_tied_plain_at .later [] [.data, .data, .data, .data, .pinned] true (true, "076293f99f58c21f9f86479d50162f7f1612b078a714558265b8bdf9f7ec9d58") false LexConstants_of (fun _ h => by cases h) (by kernel_rfl) (fun _ h => by cases h) lexConstants_row_tie rfl ⟨rfl, rfl⟩ (by kernel_rfl) rfl
    (fun f fn hf hfn => by
      obtain rfl : f = 4 := Option.some.inj ((show Tryz.prog.funcNamed "pliant/pliantlaw05.LexConstants" = some 4 by kernel_rfl).symm.trans hf) |>.symm
      obtain rfl : fn = Tryz.f4 := (Option.some.inj (Tryz.func4.symm.trans hfn)).symm
      exact ⟨by kernel_rfl, fun j t ht => by
        rw [Tryz.params4] at ht
        have hm : t ∈ [24, 34, 36] := by have := Array.mem_of_getElem? ht; simp at this; simp; omega
        have hall : ([24, 34, 36].all fun u => !Tryz.prog.wantsStandIn u) = true := by kernel_rfl
        exact (show Tryz.prog.wantsStandIn t = false by simpa using List.all_eq_true.1 hall t hm)⟩)
    (by kernel_rfl)
theorem LexConstants_holds : Rows.LexConstantsCardSaid := LexConstants_card
end Go.Proofs.YtafofcenphopbaaGreatDoor
