/- LexPrints: the row, out of its walk. -/
import Derived.Test.YtafofcenphopbaaGreatDoorTie
import Derived.Test.YtafofcenphopbaaGreatDoorCards
import Derived.Test.YtafofcenphopbaaGreatDoorA5
import Derived.ProofKit
import Derived.OpenShut
import Derived.LaidMore
import Derived.Lay
import Derived.SevenTiedAt
import Derived.Stop.Joined
import Derived.HandedShaped
import Derived.Shelf.Vars
import Derived.Test.YtafofcenphopbaaGreatDoorA13
import Derived.Deep.Slices
import Derived.Deep.Fields
import Derived.ChangeSame
import Derived.Carry
import Derived.Test.YtafofcenphopbaaGreatDoorA36
import Derived.Test.YtafofcenphopbaaGreatDoorA16
import Derived.Test.YtafofcenphopbaaGreatDoorC5
import Derived.Test.YtafofcenphopbaaGreatDoorA32
import Derived.Lib.AppendStr
import Derived.IntWalk
import Derived.Lib.SmallJoins
namespace Go.Proofs.YtafofcenphopbaaGreatDoor
open Go.ChangeShapes Go.WideShapes Go.ChangeAt Go.RowKit

theorem ownN : ownKnob Tryz.prog.godebug = none := by kernel_rfl
def laid2 : List (String × DataW Unit) := Rows.lexPrintsRow.laid
set_option maxRecDepth 100000 in
theorem shaped2 (os : Os) : (World.laidAll Tryz.prog os laid2).Shaped Tryz.prog := World.shaped_of_ZipB (by kernel_rfl) (by kernel_rfl)

section
variable {H : Type} {enc : TypeId × Value → H}
/-- A row that lists variables, its contract handed the world's shape and the reach. -/
theorem handed_of {C : Checked} {os : Os} {f : FuncId} {fn : Func} {s : ChangeSpec} {X : World → Array Value → Prop}
    (own : ownKnob C.prog.godebug = none) (started : os.Started) (noInit : C.prog.inits.idxOf? f = none) (hfn : C.prog.funcs[f]? = some fn)
    (witness : ∃ (w : World) (tape : Tape) (i : Input), w.os = os ∧ (w.forCall tape i).Shaped C.prog ∧ i.vars = [] ∧ Input.okWide C.prog (w.forCall tape i) .any w.heap.size f i ∧
      ((s.pre enc C.prog fn [] false (w.forCall tape i).memory i.args ∧ X (w.forCall tape i).memory i.args) ∧ sizedMet enc C.prog fn (OpenSpec.ofChange s) false (w.forCall tape i).memory i.args) ∧ ({} : Assume).holds C.prog (lone (Frame.enter C.prog f i.args .normal) [] (w.forCall tape i)))
    (contract : ∀ (W : World) (base : Nat) (args : Array Value) (ds gs : List (DataW H)) (before : List MemPlace),
      (∀ (j : Nat) t v, fn.params[j]? = some t → args[j]? = some v → Value.okWide C.prog W .any base t v) →
      DataW.Whole enc C.prog fn.params.toList s.vars false W args.toList ds gs before →
      (DataW.weightsEach C.prog (fn.params.toList ++ s.plain.varTypes C.prog) (ds ++ gs)).all (· ≤ reachBytes) = true → W.ShapedOpen C.prog →
      Calls C.prog f args W fun e W' => ∃ v, e = .returned v ∧ s.post enc C.prog fn false true false false W args v W') :
    ReturnsInHanded {} C os f .any (fun w args => (s.pre enc C.prog fn [] false w args ∧ X w args) ∧ sizedMet enc C.prog fn (OpenSpec.ofChange s) false w args) (s.post enc C.prog fn false true false false) := by
  refine returnsInHanded_of_calls own started noInit witness ?_
  intro w tape i _ hsh _ hok hpre hholds
  obtain ⟨_, _, _, fn', hfn', _, _, _, _, hval⟩ := hok
  have e : fn' = fn := Option.some.inj (hfn'.symm.trans hfn)
  subst e
  obtain ⟨⟨⟨ds, gs, before, hw, hc⟩, hx⟩, hz⟩ := hpre
  have hw' := DataW.Whole.of_heap (w' := w.forCall tape i) (by rfl) hw
  refine (contract (w.forCall tape i) w.heap.size i.args ds gs before hval hw' (hz.weights hw) hsh).mono fun e W' ⟨v, he, hp⟩ => ?_
  subst he
  exact ChangeSpec.post_blind hp
end

/-- The library's variable holds an integer, in every world of that shape. -/
theorem ml_of {W : World} (h : W.ShapedOpen Tryz.prog) : ML W := by
  obtain ⟨m, hm⟩ := cell_of_shapedOpen_int (g := 3) (t := 3) (zero := #[.int .i64 0]) (k := .i64) h (of_decide_eq_true (by kernel_rfl)) (by kernel_rfl) rfl (by kernel_rfl) (by kernel_rfl) Tryz.underlying3
  exact ⟨World.block_lt_of_cell? _ _ hm, m, hm⟩

section
variable {H : Type} {enc : TypeId × Value → H}
set_option maxRecDepth 100000 in
/-- A law that answered true, and changed nothing that stood. -/
theorem law_post {f : Func} {s : ChangeSpec} {W W' : World} {args : Array Value} {ds : List (DataW H)} {before : List MemPlace}
    (hW : DataW.Whole enc Tryz.prog f.params.toList s.vars false W args.toList ds [] before) (hv : s.vars = []) (hr : f.resultTypes = #[4]) (hs : s.fn H (ds ++ []) = { results := [.lit (.bool true)], args := ds })
    (hargs : ∀ sp : Nat → Bool, (∀ p ∈ before, sp p.block = true) → DataW.TrodAll enc Tryz.prog W' 0 sp true f.params.toList args.toList ds before) (hb : Below W.heap.size W W') :
    s.post enc Tryz.prog f false true false false W args (.bool true) W' := by
  have hlt : ∀ p ∈ before, p.block < W.heap.size := fun p hp => hW.lt p hp
  have hold : ∀ p ∈ before, (fun b => decide (b < W.heap.size)) p.block = true := fun p hp => by simpa using hlt p hp
  have hres : ∀ (b : Nat) (sp : Nat → Bool) (hd : Bool), DataW.TrodAll enc Tryz.prog W' b sp hd f.resultTypes.toList ((Value.bool true).resultList f.resultTypes.size) (s.fn H (ds ++ [])).results [] := by
    intro b sp hd
    rw [hr, hs]
    exact trodAll_mk1 (shut_bool Tryz.underlying4 _)
  have hvars : ∀ sp : Nat → Bool, DataW.TrodVars enc Tryz.prog W' sp s.vars (s.fn H (ds ++ [])).vars [] := by
    intro sp; rw [hv, hs]; exact rfl
  have hargs' : ∀ sp : Nat → Bool, (∀ p ∈ before, sp p.block = true) → DataW.TrodAll enc Tryz.prog W' 0 sp true f.params.toList args.toList (s.fn H (ds ++ [])).args before := by
    intro sp hsp; rw [hs]; exact hargs sp hsp
  refine ⟨ds, [], before, [], before, [], hW, hres _ _ _, hargs' _ hold, hvars _, World.keptBut_mono (fun p hp => ⟨hp, ?_⟩) (hb.frame (· ∈ before)), fun _ => ?_⟩
  · exact Or.inr (by simpa using hp)
  · obtain ⟨_, _, _, _, _, hz, hn⟩ := hW
    refine ⟨?_, _, _, ([] ++ before) ++ [], ⟨[] ++ before, [], trodAll_append (hargs' _ (fun _ _ => rfl)) (hres _ _ _), hvars _, rfl, ?_, ?_⟩, ?_⟩
    · exact ok_one hr rfl (okWide_bool_mk Tryz.underlying4 _)
    · intro b off hp
      have hin : MemPlace.cell b off ∈ before := by simpa using hp
      rw [hb.frozen (hlt _ hin)]
      exact hz b off hin
    · intro ha
      cases ha
    · intro p hp _
      simpa using hp
end
end Go.Proofs.YtafofcenphopbaaGreatDoor
namespace Go.Proofs.YtafofcenphopbaaGreatDoor
open Go.ChangeShapes Go.WideShapes Go.Deep Go.RowKit

section
variable {H : Type} {enc : TypeId × Value → H} {P : Program} {w : World} {base : Nat} {spare : Nat → Bool} {held : Bool}
theorem open_slice_fields {t e : TypeId} {fs : Array Field} {fuel : Nat} {cs : List Value} {x : DataW H × List MemPlace} (ht : P.underlying t = some (.slice e)) (he : P.underlying e = some (.struct fs))
    (hone : oneCellFields P fs = true) (hC : P.cellsOf e = fs.size) (h : DataW.trod enc P w base spare held fuel t cs = some x) :
    (cs = [.slice none 0 0] ∧ x = (.nil, [])) ∨
    ∃ (a : Addr) (len cap m : Nat) (D : Nat → DataW H) (Pl : Nat → List MemPlace), cs = [.slice (some a) len cap] ∧ base ≤ a.block ∧ len ≤ cap ∧ cap ≤ maxLen ∧ m = (if spare a.block then cap else len) ∧
      x = (.slice ((List.range len).map D) ((List.range (m - len)).map fun j => D (len + j)), MemPlace.row a (m * fs.size) ++ (List.range m).flatMap Pl) ∧
      ∀ i, i < m → ∃ (ys : List (DataW H × List MemPlace)) (n : Nat), D i = .agg (ys.map (·.1)) ∧ Pl i = ys.flatMap (·.2) ∧ ys.length = fs.size ∧
        ∀ (j : Nat) (f : Field), fs[j]? = some f → ∃ (v : Value) (y : DataW H × List MemPlace), w.cell? (a.add (i * fs.size + j)) = some v ∧ ys[j]? = some y ∧ DataW.trod enc P w base spare held n f.type [v] = some y := by
  rcases open_slice ht h with h0 | ⟨a, len, cap, m, n, D, Pl, hcs, hb, hl, hm, hmm, hx, hi⟩
  · exact .inl h0
  · refine .inr ⟨a, len, cap, m, D, Pl, hcs, hb, hl, hm, hmm, by rw [hC] at hx; exact hx, fun i him => ?_⟩
    obtain ⟨cs', hc, ht'⟩ := hi i him
    rw [hC] at hc
    obtain ⟨ys, n', hn', hy, hlen, hyl, hf⟩ := DataW.trod_struct he ht'
    obtain ⟨_, hcl, hat⟩ := World.cells?_some hc
    simp only [Prod.mk.injEq] at hy
    refine ⟨ys, n', hy.1, hy.2, hyl, fun j f hj => ?_⟩
    obtain ⟨ho, hk⟩ := hone_of hone j f hj
    have hjl : j < fs.size := (Array.getElem?_eq_some_iff.1 hj).1
    have hcell := hat j hjl
    have hv : cs'[j]? = some (cs'[j]'(by omega)) := List.getElem?_eq_getElem (by omega)
    have h1 := hf j f hj
    rw [ho, hk] at h1
    have hone' : (cs'.drop j).take 1 = [cs'[j]'(by omega)] := by
      rw [List.drop_eq_getElem_cons (by omega)]
      rfl
    rw [hone'] at h1
    have hys : ys[j]? = some (ys[j]'(by omega)) := List.getElem?_eq_getElem (by omega)
    refine ⟨_, _, ?_, hys, h1.trans hys⟩
    rw [← Go.Deep.add_add, hcell, hv]
end

section
variable {H : Type} {enc : TypeId × Value → H}
theorem laidO : laidOutB Tryz.prog = true := by kernel_rfl
set_option maxRecDepth 100000 in
/-- One token of the argument: its three cells. -/
theorem open_tok {w : World} {base : Nat} {spare : Nat → Bool} {held : Bool} {a : Addr} {k : Nat} {fs : Array Field} (hfs : Tryz.prog.underlying 24 = some (.struct fs))
    (h : ∃ (ys : List (DataW H × List MemPlace)) (n : Nat), True ∧ True ∧ ys.length = fs.size ∧ ∀ (j : Nat) (f : Field), fs[j]? = some f → ∃ (v : Value) (y : DataW H × List MemPlace), w.cell? (a.add (k * fs.size + j)) = some v ∧ ys[j]? = some y ∧ DataW.trod enc Tryz.prog w base spare held n f.type [v] = some y) :
    ∃ t : T3, ∀ i u, (tokv t)[i]? = some u → w.cell? (a.add (k * 3 + i)) = some u := by
  have := Tryz.underlying24.symm.trans hfs
  simp only [Option.some.injEq, TypeDesc.struct.injEq] at this
  subst this
  obtain ⟨ys, n, _, _, hy, hf⟩ := h
  obtain ⟨v0, y0, c0, _, t0⟩ := hf 0 _ rfl
  obtain ⟨v1, y1, c1, _, t1⟩ := hf 1 _ rfl
  obtain ⟨v2, y2, c2, _, t2⟩ := hf 2 _ rfl
  obtain ⟨a0, e0, _⟩ := DataW.trod_int Tryz.underlying3 t0
  obtain ⟨a1, e1, _⟩ := DataW.trod_string Tryz.underlying9 t1
  obtain ⟨a2, e2, _⟩ := DataW.trod_int Tryz.underlying3 t2
  cases e0; cases e1; cases e2
  refine ⟨⟨a0, a1, a2⟩, fun i u hu => ?_⟩
  match i, hu with
  | 0, hu => cases hu; exact c0
  | 1, hu => cases hu; exact c1
  | 2, hu => cases hu; exact c2
theorem toks_choose {w : World} {a : Addr} : ∀ (m : Nat), (∀ k, k < m → ∃ t : T3, ∀ i u, (tokv t)[i]? = some u → w.cell? (a.add (k * 3 + i)) = some u) →
    ∃ l : List T3, l.length = m ∧ ∀ k, k < m → ∀ i u, (tokv l[k]!)[i]? = some u → w.cell? (a.add (k * 3 + i)) = some u := by
  intro m
  induction m with
  | zero => intro _; exact ⟨[], rfl, fun k hk => by omega⟩
  | succ m ih =>
    intro h
    obtain ⟨l, hl, hc⟩ := ih fun k hk => h k (by omega)
    obtain ⟨t, ht⟩ := h m (by omega)
    refine ⟨l ++ [t], by simp [hl], fun k hk i u hu => ?_⟩
    rcases Nat.lt_or_ge k m with hlt | hge
    · refine hc k hlt i u ?_
      have e : (l ++ [t])[k]! = l[k]! := by
        rw [List.getElem!_eq_getElem?_getD, List.getElem!_eq_getElem?_getD, List.getElem?_append_left (by omega)]
      rw [e] at hu; exact hu
    · obtain rfl : k = m := by omega
      have e : (l ++ [t])[k]! = t := by
        rw [List.getElem!_eq_getElem?_getD, List.getElem?_append_right (by omega), hl]; simp
      rw [e] at hu; exact ht i u hu
set_option maxRecDepth 100000 in
theorem open_toks {r : Reach} {b0 base : Nat} {spare : Nat → Bool} {held : Bool} {w : World} {v : Value} {d : DataW H} {ps : List MemPlace} (hval : Value.okWide Tryz.prog w r b0 22 v) (hd : DataW.Trod enc Tryz.prog w base spare held 22 v d ps) :
    ∃ l, TokRow w v l ∧ l.length ≤ 9223372036854775807 := by
  obtain ⟨a, len, cap, rfl⟩ := okWide_slice Tryz.underlying22 hval
  obtain ⟨fuel, hf⟩ := hd
  rcases open_slice_fields Tryz.underlying22 Tryz.underlying24 (by kernel_rfl) (by kernel_rfl) hf with ⟨h0, _⟩ | ⟨a', len', cap', m, D, Pl, hcs, _, hl, hm, hmm, _, hi⟩
  · simp only [Value.cells, List.cons.injEq, and_true] at h0
    cases h0
    exact ⟨[], ⟨none, 0, rfl, fun h => absurd rfl h⟩, by simp⟩
  · simp only [Value.cells, List.cons.injEq, and_true] at hcs
    cases hcs
    have hml : len ≤ m := by rw [hmm]; split <;> omega
    obtain ⟨l, hll, hc⟩ := toks_choose (w := w) (a := a') len fun k hk => by
      obtain ⟨ys, n, _, _, h3, h4⟩ := hi k (by omega)
      exact open_tok Tryz.underlying24 ⟨ys, n, trivial, trivial, h3, h4⟩
    subst hll
    refine ⟨l, ⟨_, cap, rfl, fun hne => ?_⟩, by have : maxLen = 9223372036854775807 := by rfl
                                                omega⟩
    have hpos : 0 < l.length := List.length_pos_iff.2 hne
    obtain ⟨b, off, spot⟩ := a'
    have h0 := hc 0 hpos 0 _ rfl
    have hspot : spot = none := by simpa [Addr.add] using World.cell?_spot h0
    subst hspot
    refine ⟨b, off, rfl, World.block_lt_of_cell? _ _ h0, fun j hj i u hu => ?_⟩
    have := hc j hj i u hu
    rw [Go.WideShapes.add_plain] at this
    rw [show off + j * 3 + i = off + (j * 3 + i) by omega]; exact this
end
end Go.Proofs.YtafofcenphopbaaGreatDoor
namespace Go.Proofs.YtafofcenphopbaaGreatDoor
open Go.RowKit Lx

def longI (t : T3) : Bool := decide (1000 < t.text.size)
def fIdx {α : Type} (p : α → Bool) : List α → Nat → Int
  | [], _ => -1
  | t :: r, k => if p t then (k : Int) else fIdx p r (k + 1)
theorem fIdx_cons {α : Type} (p : α → Bool) (t : α) (r : List α) (k : Nat) : fIdx p (t :: r) k = if p t then (k : Int) else fIdx p r (k + 1) := rfl
theorem fIdx_any {α : Type} (p : α → Bool) : ∀ (l : List α) (k : Nat), decide (0 ≤ fIdx p l k) = l.any p := by
  intro l
  induction l with
  | nil => intro k; rfl
  | cons t r ih =>
    intro k
    rw [fIdx_cons]
    cases h : p t with
    | true => simp [h]
    | false => simp [h, ih]
theorem fIdx_skip {α : Type} [Inhabited α] (p : α → Bool) : ∀ (l : List α) (k j : Nat), j ≤ l.length → (∀ i, i < j → p l[i]! = false) → fIdx p l k = fIdx p (l.drop j) (k + j) := by
  intro l
  induction l with
  | nil => intro k j hj _; simp at hj; subst hj; rfl
  | cons t r ih =>
    intro k j hj h
    cases j with
    | zero => rfl
    | succ j =>
      have h0 := h 0 (by omega)
      rw [fIdx_cons, if_neg (by rw [show (t :: r)[0]! = t from rfl] at h0; rw [h0]; decide), List.drop_succ_cons, ih (k + 1) j (by simpa using hj) (fun i hi => by have := h (i + 1) (by omega); simpa using this), Nat.add_right_comm, Nat.add_assoc]
set_option maxHeartbeats 400000 in
theorem few1_any (t : T3) (w : World) : Calls Tryz.prog 36 #[tokA t] w fun e w' => e = .returned (.bool (longI t)) ∧ Below w.heap.size w w' := by
  obtain ⟨k, t, a⟩ := t
  unfold tokA longI
  go_enter Tryz.func36, Tryz.ntmps36
  go_wp2
  all_goals (
    go_ret
    refine ⟨ret_bool ?_, below_box _ _⟩
    rw [Bool.eq_iff_iff]
    simp
    try omega)
set_option maxHeartbeats 1000000 in
set_option maxRecDepth 100000 in
theorem IndexFew_any (v : Value) (ts : List T3) (w : World) (h : TokRow w v ts) (hn : ts.length ≤ 9223372036854775807) :
    Calls Tryz.prog 25 #[v, .func (.func 36) #[] #[]] w fun e w' => e = .returned (.int .i64 (fIdx longI ts 0)) ∧ Below w.heap.size w w' := by
  obtain ⟨ao, cap, rfl, h⟩ := h
  go_enter Tryz.func25, Tryz.ntmps25
  go_wp2_with fail
  generalize hnn : ts.length = n at h hn ⊢
  have HN := Lib.hid hnn
  have H1 := Lib.hid h
  clear hnn h
  go_loopg [8] n (fun gg q wr => ∃ kk : Nat, kk ≤ n ∧ n - kk ≤ gg ∧ q = .int .i64 kk ∧ Aside (Below w.heap.size w wr) ∧ Aside (∀ j, j < kk → longI ts[j]! = false))
  case atStart => exact ⟨0, Nat.zero_le _, by omega, rfl, Below.refl _ w, fun j hj => absurd hj (Nat.not_lt_zero _)⟩
  case round =>
    obtain ⟨kk, hkk, hg, rfl, BW, A⟩ := hrel
    by_cases hlt : kk < n
    · have hltz : (kk : Int) < (n : Int) := by omega
      obtain ⟨b1, o1, rfl, l1, c1⟩ := H1.out (by intro e; have := HN.out; rw [e] at this; simp at this; omega)
      have r1 := tok_cells c1 l1 BW.out kk hlt
      clear c1 l1
      generalize hxk : ts[kk]! = x at r1
      have X : Aside (ts[kk]! = x) := hxk
      clear hxk
      obtain ⟨p0, p1, p2⟩ := r1
      have hcall := fun W => few1_any x W
      unfold tokA at hcall
      have HC := Lib.hid hcall
      clear hcall
      go_wp2_with fail
      refine (HC.out _).mono ?_
      rintro e w' ⟨rfl, hb⟩
      have bb := BW.out.trans (hb.mono BW.out.size)
      cases hq : longI x with
      | true =>
        go_wp2_with fail
        go_ret
        refine ⟨?_, bb⟩
        have hk : kk < ts.length := by rw [HN.out]; exact hlt
        rw [fIdx_skip longI ts 0 kk (by omega) A.out, Nat.zero_add, List.drop_eq_getElem_cons hk]
        have hx : ts[kk] = x := by rw [← X.out, getElem!_pos ts kk hk]
        rw [fIdx_cons, hx, if_pos hq]; rfl
      | false =>
        go_wp2_with fail
        go_roundg (n - (kk + 1))
        case measure => omega
        case rel =>
          refine ⟨kk + 1, by omega, by omega, by go_num, bb, (show Aside _ from fun j hj => ?_)⟩
          by_cases e : j = kk
          · subst e
            rw [X.out]; exact hq
          · exact A.out j (by omega)
    · have hltz : ¬ (kk : Int) < (n : Int) := by omega
      have hke : kk = n := by omega
      subst hke
      have hfin : fIdx longI ts 0 = -1 := by
        rw [fIdx_skip longI ts 0 kk (by rw [HN.out]; exact Nat.le_refl _) A.out, List.drop_of_length_le (by rw [HN.out]; exact Nat.le_refl _)]; rfl
      have HF := Lib.hid hfin
      clear hfin
      go_wp2_with fail
      go_ret
      exact ⟨by rw [HF.out]; rfl, BW.out⟩
set_option maxHeartbeats 1000000 in
theorem ContFew_any (v : Value) (ts : List T3) (w : World) (h : TokRow w v ts) (hn : ts.length ≤ 9223372036854775807) :
    Calls Tryz.prog 21 #[v, .func (.func 36) #[] #[]] w fun e w' => e = .returned (.bool (ts.any longI)) ∧ Below w.heap.size w w' := by
  have hi := IndexFew_any v ts w h hn
  have hf := fIdx_any longI ts 0
  generalize fIdx longI ts 0 = r at hi hf
  have HI := Lib.hid hi
  have HF := Lib.hid hf
  clear hi hf
  go_enter Tryz.func21, Tryz.ntmps21
  go_wp2_with fail
  refine (HI.out).mono ?_
  rintro e w' ⟨rfl, hb⟩
  go_wp2_with fail
  go_ret
  exact ⟨by rw [← HF.out]; rfl, hb⟩
def fewI (ts : List T3) : Bool := decide (ts.length ≤ 5100) && !ts.any longI
set_option maxHeartbeats 1000000 in
theorem few_any (v : Value) (ts : List T3) (w : World) (h : TokRow w v ts) (hn : ts.length ≤ 9223372036854775807) :
    Calls Tryz.prog 8 #[v] w fun e w' => e = .returned (.bool (fewI ts)) ∧ Below w.heap.size w w' := by
  have hc := fun W (hW : TokRow W v ts) => ContFew_any v ts W hW hn
  have HC := Lib.hid hc
  have H := Lib.hid h
  obtain ⟨ao, cap, rfl, _⟩ := h
  clear hc
  by_cases hl : ts.length ≤ 5100
  · have hlz : (ts.length : Int) ≤ 5100 := by omega
    have hf : fewI ts = !ts.any longI := by unfold fewI; rw [decide_eq_true hl]; rfl
    have HF := Lib.hid hf
    clear hf
    go_enter Tryz.func8, Tryz.ntmps8
    go_wp2_with fail
    refine (HC.out _ H.out).mono ?_
    rintro e w' ⟨rfl, hb⟩
    go_wp2_with fail
    go_ret
    exact ⟨by rw [HF.out]; simp, hb⟩
  · have hlz : ¬ (ts.length : Int) ≤ 5100 := by omega
    have hf : fewI ts = false := by unfold fewI; rw [decide_eq_false hl]; rfl
    have HF := Lib.hid hf
    clear hf
    go_enter Tryz.func8, Tryz.ntmps8
    go_wp2_with fail
    go_ret
    exact ⟨by rw [HF.out]; rfl, Below.refl _ _⟩
end Go.Proofs.YtafofcenphopbaaGreatDoor
namespace Go.Proofs.YtafofcenphopbaaGreatDoor
open Go.RowKit Lx

theorem fewI_texts (l : List T3) (h : fewI l = true) : ∀ t ∈ l, t.text.size ≤ 1000 := by
  unfold fewI at h
  simp only [Bool.and_eq_true, Bool.not_eq_true', List.any_eq_false] at h
  intro t ht
  have := h.2 t ht
  unfold longI at this
  simpa using this
end Go.Proofs.YtafofcenphopbaaGreatDoor
namespace Go.Proofs.YtafofcenphopbaaGreatDoor
open Go.RowKit Lx

set_option maxHeartbeats 2000000 in
set_option maxRecDepth 100000 in
theorem rSame_any (a b : Value) (xs ys : List T3) (w : World) (h1 : TokRow w a xs) (h2 : TokRow w b ys) (hx : xs.length ≤ 9223372036854775807) (hy : ys.length ≤ 9223372036854775807) :
    Calls Tryz.prog 82 #[a, b] w fun e w' => e = .returned (.bool (Lib.allEq sameI xs ys)) ∧ ∃ q, w' = w.drewN q := by
  obtain ⟨ao, ac, rfl, h1⟩ := h1
  obtain ⟨bo, bc, rfl, h2⟩ := h2
  by_cases hl : xs.length = ys.length
  · go_enter Tryz.func82, Tryz.ntmps82
    go_wp2_with fail
    generalize hn : xs.length = n at h1 hx ⊢
    have hy' : ys.length = n := by omega
    rw [hy'] at h2 ⊢
    go_loopw [5] (fun q wr => ∃ kk : Nat, kk ≤ n ∧ q = .int .i64 kk ∧ (∃ d, wr = w.drewN d) ∧ Aside (∀ j, j < kk → sameI xs[j]! ys[j]! = true)) (fun q _ => n - (intOf q).toNat)
    case atStart => exact ⟨0, Nat.zero_le _, rfl, ⟨0, rfl⟩, fun j hj => absurd hj (Nat.not_lt_zero _)⟩
    case round =>
      obtain ⟨kk, hkk, rfl, ⟨d, rfl⟩, A⟩ := hrel
      by_cases hlt : kk < n
      · have hltz : (kk : Int) < (n : Int) := by omega
        have hkz : (0 : Int) ≤ (kk : Int) := by omega
        obtain ⟨b1, o1, rfl, l1, c1⟩ := h1 (by intro e; rw [e] at hn; simp at hn; omega)
        obtain ⟨b2, o2, rfl, l2, c2⟩ := h2 (by intro e; rw [e] at hy'; simp at hy'; omega)
        obtain ⟨p0, p1, _⟩ := tok_cells c1 l1 (Below.refl _ _) kk hlt
        obtain ⟨r0, r1, _⟩ := tok_cells c2 l2 (Below.refl _ _) kk hlt
        clear c1 c2 l1 l2 h1 h2
        generalize hxk : xs[kk]! = x at p0 p1
        generalize hyk : ys[kk]! = y at r0 r1
        have B : Aside (xs[kk]! = x ∧ ys[kk]! = y) := ⟨hxk, hyk⟩
        clear hxk hyk
        have hbad : sameI x y = false → Lib.allEq sameI xs ys = false := fun h => Lib.allEq_elem sameI xs ys kk (by omega) (by omega) (by rw [B.out.1, B.out.2]; exact h)
        have HBAD := Lib.hid hbad
        clear hbad
        by_cases hk : x.kind = y.kind
        · have e1 : (x.kind != y.kind) = false := by rw [hk]; simp
          have e2 : (x.kind == y.kind) = true := by rw [hk]; simp
          by_cases ht : x.text = y.text
          · have e3 : (x.text.toList != y.text.toList) = false := by rw [ht]; simp
            have e4 : (x.text.toList == y.text.toList) = true := by rw [ht]; simp
            have hs : sameI x y = true := by unfold sameI; rw [hk, ht]; simp
            have HS := Lib.hid hs
            clear hs hk ht
            go_wp2_with fail
            go_quiet (fail)
            go_wp2_with fail
            go_roundw
            case measure => simp [intOf]; omega
            case rel =>
              refine ⟨kk + 1, by omega, by go_num, ⟨_, rfl⟩, (show Aside _ from fun j hj => ?_)⟩
              by_cases e : j = kk
              · subst e; rw [B.out.1, B.out.2]; exact HS.out
              · exact A.out j (by omega)
          · have hne : ¬ x.text.toList = y.text.toList := by
              intro h
              have h2 := beq_toList x.text y.text
              rw [h] at h2; simp at h2; exact ht h2
            have e3 : (x.text.toList != y.text.toList) = true := by rw [bne_iff_ne]; exact hne
            have e4 : (x.text.toList == y.text.toList) = false := by rw [beq_eq_false_iff_ne]; exact hne
            have hs : Lib.allEq sameI xs ys = false := HBAD.out (by unfold sameI; rw [decide_eq_false ht]; simp)
            have HS := Lib.hid hs
            clear hs hk ht hne
            go_wp2_with fail
            go_quiet (fail)
            go_wp2_with fail
            go_ret
            exact ⟨by rw [HS.out]; rfl, d + nq, by first | rfl | simp⟩
        · have e1 : (x.kind != y.kind) = true := by rw [bne_iff_ne]; exact hk
          have e2 : (x.kind == y.kind) = false := by rw [beq_eq_false_iff_ne]; exact hk
          have hs : Lib.allEq sameI xs ys = false := HBAD.out (by unfold sameI; rw [decide_eq_false hk]; simp)
          have HS := Lib.hid hs
          clear hs hk
          go_wp2_with fail
          go_quiet (fail)
          go_wp2_with fail
          go_ret
          exact ⟨by rw [HS.out]; rfl, d + nq, by first | rfl | simp⟩
      · have hltz : ¬ (kk : Int) < (n : Int) := by omega
        obtain rfl : kk = n := by omega
        have hs : Lib.allEq sameI xs ys = true := Lib.allEq_all sameI xs ys (by omega) (by rw [hn]; exact A.out)
        have HS := Lib.hid hs
        clear hs
        go_wp2_with fail
        go_ret
        exact ⟨by rw [HS.out]; rfl, _, rfl⟩
  · have hs : Lib.allEq sameI xs ys = false := Lib.allEq_len sameI xs ys hl
    have HS := Lib.hid hs
    have hl' : ¬ (xs.length : Int) = ys.length := by omega
    clear h1 h2 hs hl
    go_enter Tryz.func82, Tryz.ntmps82
    go_wp2_with fail
    go_ret
    exact ⟨by rw [HS.out]; rfl, 0, rfl⟩
set_option maxHeartbeats 1000000 in
set_option maxRecDepth 100000 in
theorem rtight_any (x y : T3) (hx : x.text.size ≤ 1000000) (hy : y.text.size ≤ 1000000) (hcx : checkI x.kind x.text = true) (hcy : checkI y.kind y.text = true) (w : World) : Calls Tryz.prog 39 #[tokA x, tokA y] w fun e w' => e = .returned (.bool (tightI x y)) ∧ Below w.heap.size w w' := by
  obtain ⟨r, hr⟩ : ∃ r, r = scanR (spellI x.kind x.text ++ spellI y.kind y.text) := ⟨_, rfl⟩
  obtain ⟨ts, hts⟩ : ∃ ts, ts = outT (spellI x.kind x.text ++ spellI y.kind y.text) := ⟨_, rfl⟩
  have htt : tightI x y = (decide (r.err = 0) && Lib.allEq sameI (ts.map Tok.t3) [x, y]) := by unfold tightI; rw [hr, hts]
  rw [htt]
  clear htt
  unfold tokA
  go_enter Tryz.func39, Tryz.ntmps39
  go_upto_region 1 with fail
  have b2 := below_box2 w (.cells #[.int .i64 x.kind, .string x.text, .int .i64 x.at_] 24) (.cells #[.int .i64 y.kind, .string y.text, .int .i64 y.at_] 24)
  have n1 := heap_alloc_new w (.cells #[.int .i64 x.kind, .string x.text, .int .i64 x.at_] 24)
  have n2 := heap_alloc_new (w.alloc (.cells #[.int .i64 x.kind, .string x.text, .int .i64 x.at_] 24)) (.cells #[.int .i64 y.kind, .string y.text, .int .i64 y.at_] 24)
  have n3 := (Lib.alloc_old (w.alloc (.cells #[.int .i64 x.kind, .string x.text, .int .i64 x.at_] 24)) (.cells #[.int .i64 y.kind, .string y.text, .int .i64 y.at_] 24) w.heap.size (Array.getElem?_eq_some_iff.1 n1).1).trans n1
  rw [World.size_alloc] at n2
  generalize (w.alloc (.cells #[.int .i64 x.kind, .string x.text, .int .i64 x.at_] 24)).alloc (.cells #[.int .i64 y.kind, .string y.text, .int .i64 y.at_] 24) = w2 at b2 n2 n3 ⊢
  have l1 := (Array.getElem?_eq_some_iff.1 n3).1
  have l2 := (Array.getElem?_eq_some_iff.1 n2).1
  have p0 : w2.cell? ⟨w.heap.size, 0, none⟩ = some (.int .i64 x.kind) := by rw [Lib.cell_of_heap n3]; rfl
  have p1 : w2.cell? ⟨w.heap.size, 1, none⟩ = some (.string x.text) := by rw [Lib.cell_of_heap n3]; rfl
  have p2 : w2.cell? ⟨w.heap.size, 2, none⟩ = some (.int .i64 x.at_) := by rw [Lib.cell_of_heap n3]; rfl
  have q0 : w2.cell? ⟨w.heap.size + 1, 0, none⟩ = some (.int .i64 y.kind) := by rw [Lib.cell_of_heap n2]; rfl
  have q1 : w2.cell? ⟨w.heap.size + 1, 1, none⟩ = some (.string y.text) := by rw [Lib.cell_of_heap n2]; rfl
  have q2 : w2.cell? ⟨w.heap.size + 1, 2, none⟩ = some (.int .i64 y.at_) := by rw [Lib.cell_of_heap n2]; rfl
  have zx := spellI_size x.kind x.text
  have zy := spellI_size y.kind y.text
  have hsz : (spellI x.kind x.text ++ spellI y.kind y.text).size ≤ 140737488351232 := by rw [ByteArray.size_append]; omega
  have hb2 : Below w2.heap.size w2 w2.drew := (Below.refl _ _).drew
  have hc3 : ∀ W, Calls Tryz.prog 81 #[.string (spellI x.kind x.text ++ spellI y.kind y.text)] W fun e w' => ∃ lv, e = .returned (.tuple #[lv, .int .i64 r.at_, .int .i64 r.err]) ∧ w'.ownsRow W.heap.size 24 3 lv ts.length (tcells ts) ∧ Below W.heap.size W w' := by
    intro W; rw [hr, hts]; exact rTokens_any (spellI x.kind x.text ++ spellI y.kind y.text) hsz W
  have hab : (spellI x.kind x.text).size + (spellI y.kind y.text).size ≤ 140737488351232 := by omega
  have hnl : ¬ 9223372036854775807 < (spellI x.kind x.text).size + (spellI y.kind y.text).size := by omega
  have HC3 := Lib.hid hc3
  have HX := Lib.hid (fun W => rspell_any x.kind x.text x.at_ hcx hx W)
  have HY := Lib.hid (fun W => rspell_any y.kind y.text y.at_ hcy hy W)
  clear n1 n2 n3 zx zy hr hts hc3
  go_region_held3 (fun w' => w'.cell? ⟨w.heap.size, 0, none⟩ = some (.int .i64 x.kind) ∧ w'.cell? ⟨w.heap.size, 1, none⟩ = some (.string x.text) ∧ w'.cell? ⟨w.heap.size, 2, none⟩ = some (.int .i64 x.at_) ∧ w'.cell? ⟨w.heap.size + 1, 0, none⟩ = some (.int .i64 y.kind) ∧ w'.cell? ⟨w.heap.size + 1, 1, none⟩ = some (.string y.text) ∧ w'.cell? ⟨w.heap.size + 1, 2, none⟩ = some (.int .i64 y.at_) ∧ Below w2.heap.size w2 w') (go_keep) (first
    | (go_at_call 45; (with_reducible refine (HX.out _).mono ?_); rintro e w' ⟨rfl, hb⟩; have hn := below_next (by assumption) (Nat.le_refl w2.heap.size) hb; have g0 := (hn.cell (p := ⟨w.heap.size, 0, none⟩) l1).trans p0; have g1 := (hn.cell (p := ⟨w.heap.size, 1, none⟩) l1).trans p1; have g2 := (hn.cell (p := ⟨w.heap.size, 2, none⟩) l1).trans p2; have k0 := (hn.cell (p := ⟨w.heap.size + 1, 0, none⟩) l2).trans q0; have k1 := (hn.cell (p := ⟨w.heap.size + 1, 1, none⟩) l2).trans q1; have k2 := (hn.cell (p := ⟨w.heap.size + 1, 2, none⟩) l2).trans q2)
    | (go_at_call 45; (with_reducible refine (HY.out _).mono ?_); rintro e w' ⟨rfl, hb⟩; have hn := below_next (by assumption) (Nat.le_refl w2.heap.size) hb; have g0 := (hn.cell (p := ⟨w.heap.size, 0, none⟩) l1).trans p0; have g1 := (hn.cell (p := ⟨w.heap.size, 1, none⟩) l1).trans p1; have g2 := (hn.cell (p := ⟨w.heap.size, 2, none⟩) l1).trans p2; have k0 := (hn.cell (p := ⟨w.heap.size + 1, 0, none⟩) l2).trans q0; have k1 := (hn.cell (p := ⟨w.heap.size + 1, 1, none⟩) l2).trans q1; have k2 := (hn.cell (p := ⟨w.heap.size + 1, 2, none⟩) l2).trans q2)
    | (go_at_call 81; refine (HC3.out _).mono ?_; rintro e w' ⟨lv, rfl, hown, hb⟩; have hn := below_next (by assumption) (Nat.le_refl w2.heap.size) hb; have g0 := (hn.cell (p := ⟨w.heap.size, 0, none⟩) l1).trans p0; have g1 := (hn.cell (p := ⟨w.heap.size, 1, none⟩) l1).trans p1; have g2 := (hn.cell (p := ⟨w.heap.size, 2, none⟩) l1).trans p2; have k0 := (hn.cell (p := ⟨w.heap.size + 1, 0, none⟩) l2).trans q0; have k1 := (hn.cell (p := ⟨w.heap.size + 1, 1, none⟩) l2).trans q1; have k2 := (hn.cell (p := ⟨w.heap.size + 1, 2, none⟩) l2).trans q2))
  have z2 := b2.size
  have z3 := hn.size
  clear hab hnl hsz p0 p1 p2 q0 q1 q2 HC3 HX HY hcx hcy hx hy
  by_cases he : r.err = 0
  · rw [he]
    go_wp2_with fail
    have hr1 : TokRow w' lv (ts.map Tok.t3) := TokRow.of_own (by rw [List.length_map, ← rcells_tcells]; exact hown)
    have hln : (ts.map Tok.t3).length ≤ 9223372036854775807 := by
      rw [List.length_map]
      rcases hown.2 with ⟨_, h0⟩ | ⟨g, cap', cur, hv, hB, hg, hnc, hcm, rest⟩
      · omega
      · unfold maxLen at hcm; omega
    have hr2 := hr1.below (below_box w' (.cells #[.int .i64 x.kind, .string x.text, .int .i64 x.at_, .int .i64 y.kind, .string y.text, .int .i64 y.at_] 24)) (Nat.le_refl _)
    have n4 := heap_alloc_new w' (.cells #[.int .i64 x.kind, .string x.text, .int .i64 x.at_, .int .i64 y.kind, .string y.text, .int .i64 y.at_] 24)
    have b4 := below_box w' (.cells #[.int .i64 x.kind, .string x.text, .int .i64 x.at_, .int .i64 y.kind, .string y.text, .int .i64 y.at_] 24)
    generalize w'.alloc (.cells #[.int .i64 x.kind, .string x.text, .int .i64 x.at_, .int .i64 y.kind, .string y.text, .int .i64 y.at_] 24) = w4 at hr2 n4 b4 ⊢
    have hr3 : TokRow w4 (.slice (some ⟨w'.heap.size, 0, none⟩) 2 2) [x, y] := by
      refine ⟨_, 2, rfl, fun _ => ⟨w'.heap.size, 0, rfl, (Array.getElem?_eq_some_iff.1 n4).1, fun j hj i u hu => ?_⟩⟩
      rw [Lib.cell_of_heap n4]
      have hi : i < 3 := by
        have := (List.getElem?_eq_some_iff.1 hu).1
        simpa [tokv] using this
      have hj' : j = 0 ∨ j = 1 := by simp at hj; omega
      have hi' : i = 0 ∨ i = 1 ∨ i = 2 := by omega
      rcases hj' with rfl | rfl <;> rcases hi' with rfl | rfl | rfl <;> simpa [tokv] using hu
    refine (rSame_any _ _ _ _ w4 hr2 hr3 hln (by show 2 ≤ _; decide)).mono ?_
    rintro e w5 ⟨rfl, q5, rfl⟩
    have hb5 : Below w4.heap.size w4 (w4.drewN q5) := below_drewN (Below.refl _ _) _
    have z4 := b4.size
    go_wp2_with fail
    go_ret
    exact ⟨by rw [he]; rfl, ((b2.trans (hn.mono z2)).trans (b4.mono (by omega))).trans (hb5.mono (by omega))⟩
  · have hd : decide (r.err = 0) = false := decide_eq_false he
    have hd' : (r.err == 0) = false := by rw [beq_eq_false_iff_ne]; exact he
    go_wp2_with fail
    go_ret
    refine ⟨?_, b2.trans (hn.mono z2)⟩
    rw [hd]
    simp
set_option maxHeartbeats 1000000 in
set_option maxRecDepth 100000 in
theorem rTight_any (x y : T3) (hx : x.text.size ≤ 1000000) (hy : y.text.size ≤ 1000000) (w : World) : Calls Tryz.prog 10 #[tokA x, tokA y] w fun e w' =>
    e = .returned (.tuple #[.bool (checkI x.kind x.text && (checkI y.kind y.text && tightI x y)), .int .i64 (errIf (checkI x.kind x.text && checkI y.kind y.text))]) ∧ Below w.heap.size w w' := by
  unfold tokA
  go_enter Tryz.func10, Tryz.ntmps10
  go_upto_region 1 with fail
  have b2 := below_box2 w (.cells #[.int .i64 x.kind, .string x.text, .int .i64 x.at_] 24) (.cells #[.int .i64 y.kind, .string y.text, .int .i64 y.at_] 24)
  have n1 := heap_alloc_new w (.cells #[.int .i64 x.kind, .string x.text, .int .i64 x.at_] 24)
  have n2 := heap_alloc_new (w.alloc (.cells #[.int .i64 x.kind, .string x.text, .int .i64 x.at_] 24)) (.cells #[.int .i64 y.kind, .string y.text, .int .i64 y.at_] 24)
  have n3 := (Lib.alloc_old (w.alloc (.cells #[.int .i64 x.kind, .string x.text, .int .i64 x.at_] 24)) (.cells #[.int .i64 y.kind, .string y.text, .int .i64 y.at_] 24) w.heap.size (Array.getElem?_eq_some_iff.1 n1).1).trans n1
  rw [World.size_alloc] at n2
  generalize (w.alloc (.cells #[.int .i64 x.kind, .string x.text, .int .i64 x.at_] 24)).alloc (.cells #[.int .i64 y.kind, .string y.text, .int .i64 y.at_] 24) = w2 at b2 n2 n3 ⊢
  have l1 := (Array.getElem?_eq_some_iff.1 n3).1
  have l2 := (Array.getElem?_eq_some_iff.1 n2).1
  have p0 : w2.cell? ⟨w.heap.size, 0, none⟩ = some (.int .i64 x.kind) := by rw [Lib.cell_of_heap n3]; rfl
  have p1 : w2.cell? ⟨w.heap.size, 1, none⟩ = some (.string x.text) := by rw [Lib.cell_of_heap n3]; rfl
  have p2 : w2.cell? ⟨w.heap.size, 2, none⟩ = some (.int .i64 x.at_) := by rw [Lib.cell_of_heap n3]; rfl
  have q0 : w2.cell? ⟨w.heap.size + 1, 0, none⟩ = some (.int .i64 y.kind) := by rw [Lib.cell_of_heap n2]; rfl
  have q1 : w2.cell? ⟨w.heap.size + 1, 1, none⟩ = some (.string y.text) := by rw [Lib.cell_of_heap n2]; rfl
  have q2 : w2.cell? ⟨w.heap.size + 1, 2, none⟩ = some (.int .i64 y.at_) := by rw [Lib.cell_of_heap n2]; rfl
  clear n1 n2 n3
  have hcx : ∀ W, Calls Tryz.prog 38 #[.agg #[.int .i64 x.kind, .string x.text, .int .i64 x.at_]] W fun e w' => e = .returned (.int .i64 (errIf (checkI x.kind x.text))) ∧ Below W.heap.size W w' :=
    fun W => rCheck_any x.kind x.text x.at_ hx W
  have hcy : ∀ W, Calls Tryz.prog 38 #[.agg #[.int .i64 y.kind, .string y.text, .int .i64 y.at_]] W fun e w' => e = .returned (.int .i64 (errIf (checkI y.kind y.text))) ∧ Below W.heap.size W w' :=
    fun W => rCheck_any y.kind y.text y.at_ hy W
  have ht : checkI x.kind x.text = true → checkI y.kind y.text = true → ∀ W, Calls Tryz.prog 39 #[.agg #[.int .i64 x.kind, .string x.text, .int .i64 x.at_], .agg #[.int .i64 y.kind, .string y.text, .int .i64 y.at_]] W fun e w' => e = .returned (.bool (tightI x y)) ∧ Below W.heap.size W w' :=
    fun h1 h2 W => rtight_any x y hx hy h1 h2 W
  have HX := Lib.hid hcx
  have HY := Lib.hid hcy
  have HT := Lib.hid ht
  have z2 := b2.size
  clear hcx hcy ht
  cases hcx : checkI x.kind x.text with
  | false =>
    rw [hcx] at HX
    go_wp2_with fail
    refine (HX.out _).mono ?_
    rintro e w3 ⟨rfl, hb3⟩
    go_wp2_with fail
    go_ret2
    exact ⟨by rw [hcx]; rfl, b2.trans (hb3.mono z2)⟩
  | true =>
    rw [hcx] at HX
    go_wp2_with fail
    refine (HX.out _).mono ?_
    rintro e w3 ⟨rfl, hb3⟩
    have z3 := hb3.size
    have k0 := (hb3.cell (p := ⟨w.heap.size + 1, 0, none⟩) l2).trans q0
    have k1 := (hb3.cell (p := ⟨w.heap.size + 1, 1, none⟩) l2).trans q1
    have k2 := (hb3.cell (p := ⟨w.heap.size + 1, 2, none⟩) l2).trans q2
    cases hcy : checkI y.kind y.text with
    | false =>
      rw [hcy] at HY
      go_wp2_with fail
      refine (HY.out _).mono ?_
      rintro e w4 ⟨rfl, hb4⟩
      go_wp2_with fail
      go_ret2
      exact ⟨by rw [hcx, hcy]; rfl, (b2.trans (hb3.mono z2)).trans (hb4.mono (by omega))⟩
    | true =>
      rw [hcy] at HY
      go_wp2_with fail
      refine (HY.out _).mono ?_
      rintro e w4 ⟨rfl, hb4⟩
      have hb34 := hb3.trans (hb4.mono z3)
      have z4 := hb34.size
      have j0 := (hb34.cell (p := ⟨w.heap.size, 0, none⟩) l1).trans p0
      have j1 := (hb34.cell (p := ⟨w.heap.size, 1, none⟩) l1).trans p1
      have j2 := (hb34.cell (p := ⟨w.heap.size, 2, none⟩) l1).trans p2
      have i0 := (hb34.cell (p := ⟨w.heap.size + 1, 0, none⟩) l2).trans q0
      have i1 := (hb34.cell (p := ⟨w.heap.size + 1, 1, none⟩) l2).trans q1
      have i2 := (hb34.cell (p := ⟨w.heap.size + 1, 2, none⟩) l2).trans q2
      go_wp2_with fail
      refine (HT.out hcx hcy _).mono ?_
      rintro e w5 ⟨rfl, hb5⟩
      go_wp2_with fail
      go_ret2
      exact ⟨by rw [hcx, hcy]; rfl, (b2.trans (hb34.mono z2)).trans (hb5.mono (by omega))⟩
end Go.Proofs.YtafofcenphopbaaGreatDoor
namespace Go.Proofs.YtafofcenphopbaaGreatDoor
open Go.RowKit Lx

theorem bcells_strCells (s : ByteArray) : Lib.strCells s = bcells s.data.toList := by
  rw [Lib.strCells_eq]; rfl
theorem bcells_app (a b : Bs) : bcells (a ++ b) = bcells a ++ bcells b := by simp [bcells]
theorem kt3_drop (l : List T3) (k : Nat) (h : k < l.length) : (l.map kt3).drop k = kt3 l[k]! :: (l.map kt3).drop (k + 1) := by
  rw [List.drop_eq_getElem_cons (by rw [List.length_map]; exact h), List.getElem_map, getElem!_pos l k h]
theorem spl_kt3 (t : T3) : spl (kt3 t) = (spellI t.kind t.text).data.toList := rfl
theorem semi_kt3 (t : T3) : semiI (kt3 t) = (decide (t.kind = 6) && decide (t.text = ⟨#[59]⟩)) := rfl
set_option maxHeartbeats 4000000 in
set_option maxRecDepth 100000 in
theorem rPrint_any (v : Value) (l : List T3) (hs : ∀ t ∈ l, t.text.size ≤ 1000000) (hlen : l.length ≤ 9223372036854775807) (w : World) (hrow : TokRow w v l) : Calls Tryz.prog 12 #[v] w (PrintQ (l.map kt3) w) := by
  by_cases hl : 5000 < l.length
  · obtain ⟨ao, cap, rfl, _⟩ := hrow
    have hr : printR (l.map kt3) = (⟨#[]⟩, 2) := by unfold printR; rw [if_pos (by rw [List.length_map]; exact hl)]
    unfold PrintQ
    rw [hr]
    clear hr
    have hl' : (5000 : Int) < (l.length : Int) := by omega
    go_enter Tryz.func12, Tryz.ntmps12
    go_wp2_with fail
    go_ret2
    exact ⟨rfl, Below.refl _ _⟩
  · obtain ⟨i0, hi0, hz0, hz1, hz2⟩ := info_parts infoB
    have hp1 : 0 < 1 := by decide
    obtain ⟨ao, cap, rfl, h1⟩ := hrow
    have hl' : ¬ (5000 : Int) < (l.length : Int) := by omega
    have HS := Lib.hid hs
    clear hs
    go_enter Tryz.func12, Tryz.ntmps12
    go_wp2_with fail
    generalize hn : l.length = n at h1 hl hl' hlen ⊢
    have HN := Lib.hid hn
    have H1 := Lib.hid h1
    clear hn h1
    go_loopw [4] (fun q wr => ∃ kk : Nat, kk ≤ n ∧ q = .int .i64 kk ∧ Aside (Below w.heap.size w wr) ∧ Aside (∀ j, j < kk → checkI l[j]!.kind l[j]!.text = true)) (fun q _ => n - (intOf q).toNat)
    case atStart => exact ⟨0, Nat.zero_le _, rfl, Below.refl _ w, fun j hj => absurd hj (Nat.not_lt_zero _)⟩
    case round =>
      obtain ⟨kk, hkk, rfl, BW, A⟩ := hrel
      by_cases hlt : kk < n
      · have hltz : (kk : Int) < (n : Int) := by omega
        have hkz : (0 : Int) ≤ (kk : Int) := by omega
        obtain ⟨b1, o1, rfl, l1, c1⟩ := H1.out (by intro e; have := HN.out; rw [e] at this; simp at this; omega)
        obtain ⟨p0, p1, p2⟩ := tok_cells c1 l1 BW.out kk hlt
        have hxs : l[kk]!.text.size ≤ 1000000 := by
          have hk : kk < l.length := by rw [HN.out]; exact hlt
          rw [getElem!_pos l kk hk]; exact HS.out _ (List.getElem_mem hk)
        have hck := fun W => rCheck_any l[kk]!.kind l[kk]!.text l[kk]!.at_ hxs W
        cases hc : checkI l[kk]!.kind l[kk]!.text with
        | false =>
          rw [hc] at hck
          have hbad := all_okI_false l kk (by rw [HN.out]; exact hlt) hc
          have hr : printR (l.map kt3) = (⟨#[]⟩, 50) := by unfold printR; rw [if_neg (by rw [List.length_map]; have := HN.out; omega), if_pos hbad]
          have HR := Lib.hid hr
          have HCK := Lib.hid hck
          clear hck hbad hr hc c1
          generalize l[kk]! = x at p0 p1 p2 HCK hxs
          go_wp2_with fail
          refine (HCK.out _).mono ?_
          rintro e w' ⟨rfl, hb'⟩
          go_wp2_with fail
          go_ret2
          exact (show PrintQ (l.map kt3) w _ _ from by unfold PrintQ; rw [HR.out]; exact ⟨rfl, BW.out.trans (hb'.mono BW.out.size)⟩)
        | true =>
          rw [hc] at hck
          have HC := Lib.hid hc
          have HCK := Lib.hid hck
          clear hck hc c1
          obtain ⟨x, hx⟩ : ∃ x, x = l[kk]! := ⟨_, rfl⟩
          rw [← hx] at p0 p1 p2 HCK HC hxs
          have HX := Lib.hid hx
          clear hx
          go_wp2_with fail
          refine (HCK.out _).mono ?_
          rintro e w' ⟨rfl, hb'⟩
          go_wp2_with fail
          go_roundw
          case measure => simp [intOf]; omega
          case rel =>
            refine ⟨kk + 1, by omega, by go_num, BW.out.trans (hb'.mono BW.out.size), (show Aside _ from fun j hj => ?_)⟩
            by_cases e : j = kk
            · subst e; rw [← HX.out]; exact HC.out
            · exact A.out j (by omega)
      · obtain rfl : kk = n := by omega
        have hok : (l.map kt3).all okI = true := all_okI_of l (by rw [HN.out]; exact A.out)
        have hpr : printR (l.map kt3) = if 20000 < (printL (l.map kt3)).length then (⟨#[]⟩, 2) else (⟨(printL (l.map kt3)).toArray⟩, 0) := by
          unfold printR
          rw [if_neg (by rw [List.length_map]; have := HN.out; omega), if_neg (by rw [hok]; decide)]
        have HPR := Lib.hid hpr
        have HOK := Lib.hid (fun j (hj : j < kk) => all_okI_at l hok j (by rw [HN.out]; exact hj))
        have bw0 := BW.out
        clear hpr hok A hlt hkk BW
        have hltz : ¬ (kk : Int) < (kk : Int) := by omega
        go_wp2_with fail
        go_loopw [5, 6] (fun ov q wr => ∃ (k : Nat) (acc : Bs), k ≤ kk ∧ q = .int .i64 k ∧ printL (l.map kt3) = acc ++ printL ((l.map kt3).drop k) ∧ acc.length ≤ 2000100 * k ∧ wr.ownsRow w.heap.size 5 1 ov acc.length (bcells acc) ∧ Below w.heap.size w wr) (fun _ q _ => kk - (intOf q).toNat)
        case atStart => exact ⟨0, [], Nat.zero_le _, rfl, rfl, Nat.le_refl _, World.ownsRow_nil _ _ _ _, bw0⟩
        case round =>
          obtain ⟨k, acc, hk, rfl, hq, hal, own, hb⟩ := hrel
          have HQ := Lib.hid hq
          clear hq bw0
          obtain ⟨oa, oc, rfl⟩ := own_form own
          by_cases hlt : k < kk
          · have hltz : (k : Int) < (kk : Int) := by omega
            have hkz : (0 : Int) ≤ (k : Int) := by omega
            have hkl : k < l.length := by rw [HN.out]; exact hlt
            obtain ⟨b1, o1, rfl, l1, c1⟩ := H1.out (by intro e; have := HN.out; rw [e] at this; simp at this; omega)
            have hcell := fun W (hW : Below w.heap.size w W) => tok_cells c1 l1 hW k hlt
            have hcell2 := fun (h : k + 1 < kk) W (hW : Below w.heap.size w W) => tok_cells c1 l1 hW (k + 1) h
            have hxs : l[k]!.text.size ≤ 1000000 := by rw [getElem!_pos l k hkl]; exact HS.out _ (List.getElem_mem hkl)
            have hys : k + 1 < kk → l[k + 1]!.text.size ≤ 1000000 := fun h => by
              have h' : k + 1 < l.length := by rw [HN.out]; exact h
              rw [getElem!_pos l (k + 1) h']; exact HS.out _ (List.getElem_mem h')
            have hok := HOK.out k hlt
            have hok2 := fun (h : k + 1 < kk) => HOK.out (k + 1) h
            have hdrop := kt3_drop l k hkl
            have hdrop2 := fun (h : k + 1 < kk) => kt3_drop l (k + 1) (by rw [HN.out]; exact h)
            generalize l[k]! = x at hcell hxs hok hdrop
            generalize l[k + 1]! = y at hcell2 hys hok2 hdrop2
            have hss := spellI_size x.kind x.text
            have hsp := fun W => rspell_any x.kind x.text x.at_ hok hxs W
            have hspl := spl_kt3 x
            obtain ⟨sp, hsp0⟩ : ∃ sp, sp = spellI x.kind x.text := ⟨_, rfl⟩
            rw [← hsp0] at hsp hss hspl
            have hspz : sp.data.toList.length = sp.size := rfl
            have HCELL := Lib.hid hcell
            have HCELL2 := Lib.hid hcell2
            have HDR := Lib.hid hdrop
            have HDR2 := Lib.hid hdrop2
            have HSP := Lib.hid hsp
            have HSPL := Lib.hid hspl
            have HSPZ := Lib.hid hspz
            have HXO := Lib.hid hok
            have HYO := Lib.hid hok2
            have HYS := Lib.hid hys
            obtain ⟨p0, p1, p2⟩ := hcell wr hb
            clear hcell hcell2 hdrop hdrop2 hsp hspl hsp0 hspz hok hok2 hys c1 l1
            go_wp2_with fail
            refine (HSP.out _).mono ?_
            rintro e w2 ⟨rfl, hb2⟩
            have own2 := own_below own hb2
            have bb := hb.trans (hb2.mono hb.size)
            have hbz := bb.size
            clear own hb hb2 p0 p1 p2 HSP
            go_upto_region 13 with (at_builtin; refine Lib.wpList_append_own_string _ rfl _ _ 73 9 rfl w.heap.size 5 i0 undBs undS hi0 hz0 hz1 hz2 _ _ _ rfl own2 sp rfl ?ss1 ?ss2 hbz ?_)
            case ss1 => unfold maxLen; omega
            case ss2 => omega
            intro ov w3 own3 hgrow _
            have bb3 := bb.grown hgrow hbz (fun k hk => (own2.lt k hk).1)
            rw [bcells_strCells, ← bcells_app, show acc.length + sp.size = (acc ++ sp.data.toList).length from by rw [List.length_append, HSPZ.out]] at own3
            clear own2 bb hbz hgrow
            have hbz := bb3.size
            obtain ⟨p0, p1, p2⟩ := HCELL.out w3 bb3
            have hal3 : (acc ++ sp.data.toList).length ≤ 2000100 * k + 2000003 := by rw [List.length_append, HSPZ.out]; omega
            have hq3 : printL (l.map kt3) = (acc ++ sp.data.toList) ++ (afterI (kt3 x) ((l.map kt3).drop (k + 1)) ++ printL ((l.map kt3).drop (k + 1))) := by
              rw [HQ.out, HDR.out, printL_cons, HSPL.out]; simp
            have HQ3 := Lib.hid hq3
            generalize acc ++ sp.data.toList = ac at own3 hal3 HQ3
            clear hq3 HQ hal hss HSPL HSPZ HDR
            obtain ⟨oa3, oc3, rfl⟩ := own_form own3
            go_upto_region 13 with fail
            by_cases hsemi : semiI (kt3 x) = true
            · have ha : ∀ r, afterI (kt3 x) r = [10] := by
                intro r; cases r with
                | nil => show (if semiI (kt3 x) = true then _ else _) = _; rw [if_pos hsemi]
                | cons b r => rw [afterI_cons, if_pos hsemi]
              have HA := Lib.hid ha
              rw [semi_kt3, Bool.and_eq_true, decide_eq_true_iff, decide_eq_true_iff] at hsemi
              have e1 : (x.kind == 6) = true := by rw [hsemi.1]; rfl
              have e2 : (x.text.toList == [59]) = true := by rw [hsemi.2, toList_data]; rfl
              have hone : ∀ u ∈ [Value.int .u8 (10 : Int)], u.oneCell' = true := by intro u hu; simp at hu; subst hu; rfl
              clear hsemi ha
              go_wp2_with (at_builtin; refine wpList_append_own _ rfl _ _ 73 rfl w.heap.size 5 i0 (.int .u8 0) 1 1 undBs hi0 hz0 hz1 hz2 rfl hp1 _ _ _ rfl (own3.alloc _) ⟨w3.heap.size, 0, none⟩ 1 1 [.int .u8 10] rfl rfl ?nn1 ?nn2 ?nn3 ?nn4 ?nn5 ?_)
              case nn1 => exact World.news_of_block (heap_alloc_new w3 (.cells #[.int .u8 10] 5))
              case nn2 => exact hone
              case nn3 => unfold maxLen; omega
              case nn4 => omega
              case nn5 => simp; omega
              intro ov4 w4 own4 hgrow _
              have bb4 := (bb3.alloc hbz (.cells #[.int .u8 10] 5)).grown hgrow (by simp; omega) (fun k hk => (own3.lt k hk).1)
              clear own3 bb3 hgrow p0 p1 p2 hone
              go_wp2_with fail
              go_roundw
              case measure => simp [intOf]; omega
              case rel =>
                refine ⟨k + 1, ac ++ [10], by omega, by go_num, by rw [HQ3.out, HA.out]; simp, by rw [List.length_append]; show _ + 1 ≤ _; omega, ?_, bb4⟩
                rw [bcells_app, List.length_append]
                exact own4
            · have hsemi' : semiI (kt3 x) = false := by simpa using hsemi
              have hwalk : ((x.kind == 6) = false) ∨ ((x.kind == 6) = true ∧ (x.text.toList == [59]) = false) := by
                rw [semi_kt3] at hsemi'
                by_cases h6 : x.kind = 6
                · right
                  refine ⟨by rw [h6]; rfl, ?_⟩
                  rw [decide_eq_true h6, Bool.true_and] at hsemi'
                  have h2 := beq_toList x.text ⟨#[59]⟩
                  rw [hsemi', toList_data ⟨#[59]⟩] at h2
                  exact h2
                · left; rw [beq_eq_false_iff_ne]; exact h6
              have HSE := Lib.hid hsemi'
              have HW := Lib.hid hwalk
              clear hsemi hsemi' hwalk
              go_cut [49] (fun c wx => w3 = wx ∧ c = .bool false)
              case first =>
                rcases HW.out with e1 | ⟨e1, e2⟩
                all_goals
                  go_wp2_with fail
                  go_meet
                  case rel => exact ⟨rfl, rfl⟩
              case rest =>
                obtain ⟨rfl, rfl⟩ := hcut
                by_cases hlast : k + 1 < kk
                · have hlz : (k : Int) + 1 < (kk : Int) := by omega
                  have hlz0 : (0 : Int) ≤ (k : Int) + 1 := by omega
                  have z3 : IntKind.i64.wrap ((k : Int) + 1) = (k : Int) + 1 := IntWalk.i64_in _ (by omega)
                  have z4 : ((k : Int) + 1).toNat = k + 1 := by omega
                  obtain ⟨q0, q1, q2⟩ := HCELL2.out hlast w3 bb3
                  have ha : afterI (kt3 x) ((l.map kt3).drop (k + 1)) = if tightK (kt3 x) (kt3 y) then [] else [32] := by
                    rw [HDR2.out hlast, afterI_cons, if_neg (by rw [HSE.out]; decide)]
                  have htg := fun W => rtight_any x y hxs (HYS.out hlast) HXO.out (HYO.out hlast) W
                  unfold tokA at htg
                  rw [tightI_K] at htg
                  generalize tightK (kt3 x) (kt3 y) = tg at ha htg
                  have HA := Lib.hid ha
                  have HTG := Lib.hid htg
                  clear ha htg
                  go_upto_region 16 with fail
                  cases tg with
                  | true =>
                    go_region_held3 (fun w' => w'.cell? ⟨b1, o1 + k * 3, none⟩ = some (.int .i64 x.kind) ∧ w'.cell? ⟨b1, o1 + k * 3 + 1, none⟩ = some (.string x.text) ∧ w'.cell? ⟨b1, o1 + k * 3 + 2, none⟩ = some (.int .i64 x.at_) ∧ w'.cell? ⟨b1, o1 + (k + 1) * 3, none⟩ = some (.int .i64 y.kind) ∧ w'.cell? ⟨b1, o1 + (k + 1) * 3 + 1, none⟩ = some (.string y.text) ∧ w'.cell? ⟨b1, o1 + (k + 1) * 3 + 2, none⟩ = some (.int .i64 y.at_)) (go_keep) ((go_at_call 39; refine (HTG.out _).mono ?_; rintro e w4 ⟨rfl, hb4⟩; have hb5 : Below w3.heap.size w3 w4 := below_like rfl hb4; obtain ⟨p0, p1, p2⟩ := HCELL.out w4 (bb3.trans (hb5.mono hbz)); obtain ⟨q0, q1, q2⟩ := HCELL2.out hlast w4 (bb3.trans (hb5.mono hbz)); clear hb4))
                    all_goals (
                      have own4 := own_below own3 hb5
                      have bb4 := bb3.trans (hb5.mono hbz)
                      clear own3 bb3 hb5 p0 p1 p2 q0 q1 q2
                      go_wp2_with fail
                      go_roundw
                      case measure => simp [intOf]; omega
                      case rel => exact ⟨k + 1, ac, by omega, by go_num, by rw [HQ3.out, HA.out]; simp, by omega, own4, bb4⟩)
                  | false =>
                    have hone : ∀ u ∈ [Value.int .u8 (32 : Int)], u.oneCell' = true := by intro u hu; simp at hu; subst hu; rfl
                    go_region_held3 (fun w' => w'.cell? ⟨b1, o1 + k * 3, none⟩ = some (.int .i64 x.kind) ∧ w'.cell? ⟨b1, o1 + k * 3 + 1, none⟩ = some (.string x.text) ∧ w'.cell? ⟨b1, o1 + k * 3 + 2, none⟩ = some (.int .i64 x.at_) ∧ w'.cell? ⟨b1, o1 + (k + 1) * 3, none⟩ = some (.int .i64 y.kind) ∧ w'.cell? ⟨b1, o1 + (k + 1) * 3 + 1, none⟩ = some (.string y.text) ∧ w'.cell? ⟨b1, o1 + (k + 1) * 3 + 2, none⟩ = some (.int .i64 y.at_)) (go_keep) ((go_at_call 39; refine (HTG.out _).mono ?_; rintro e w4 ⟨rfl, hb4⟩; have hb5 : Below w3.heap.size w3 w4 := below_like rfl hb4; obtain ⟨p0, p1, p2⟩ := HCELL.out w4 (bb3.trans (hb5.mono hbz)); obtain ⟨q0, q1, q2⟩ := HCELL2.out hlast w4 (bb3.trans (hb5.mono hbz)); clear hb4))
                    all_goals (
                      have own4 := own_below own3 hb5
                      have bb4 := bb3.trans (hb5.mono hbz)
                      have hbz4 := bb4.size
                      clear own3 bb3 hb5 p0 p1 p2 q0 q1 q2 hbz)
                    all_goals
                      go_wp2_with (at_builtin; refine wpList_append_own _ rfl _ _ 73 rfl w.heap.size 5 i0 (.int .u8 0) 1 1 undBs hi0 hz0 hz1 hz2 rfl hp1 _ _ _ rfl (own4.alloc _) ⟨w4.heap.size, 0, none⟩ 1 1 [.int .u8 32] rfl rfl ?qq1 ?qq2 ?qq3 ?qq4 ?qq5 ?_)
                    case qq1 => exact World.news_of_block (heap_alloc_new w4 (.cells #[.int .u8 32] 5))
                    case qq2 => exact hone
                    case qq3 => unfold maxLen; omega
                    case qq4 => omega
                    case qq5 => simp; omega
                    intro ov5 w5 own5 hgrow _
                    have bb5 := (bb4.alloc hbz4 (.cells #[.int .u8 32] 5)).grown hgrow (by simp; omega) (fun k hk => (own4.lt k hk).1)
                    clear own4 bb4 hgrow hone
                    go_wp2_with fail
                    go_roundw
                    case measure => simp [intOf]; omega
                    case rel =>
                      refine ⟨k + 1, ac ++ [32], by omega, by go_num, by rw [HQ3.out, HA.out]; simp, by rw [List.length_append]; show _ + 1 ≤ _; omega, ?_, bb5⟩
                      rw [bcells_app, List.length_append]
                      exact own5
                · have hlz : ¬ (k : Int) + 1 < (kk : Int) := by omega
                  have ha : afterI (kt3 x) ((l.map kt3).drop (k + 1)) = [] := by
                    have : (l.map kt3).drop (k + 1) = [] := List.drop_of_length_le (by rw [List.length_map, HN.out]; omega)
                    rw [this]
                    show (if semiI (kt3 x) = true then _ else _) = _
                    rw [if_neg (by rw [HSE.out]; decide)]
                  have HA := Lib.hid ha
                  clear ha
                  go_wp2_with fail
                  go_roundw
                  case measure => simp [intOf]; omega
                  case rel => exact ⟨k + 1, ac, by omega, by go_num, by rw [HQ3.out, HA.out]; simp, by omega, own3, bb3⟩
          · obtain rfl : k = kk := by omega
            have hdr : (l.map kt3).drop k = [] := List.drop_of_length_le (by rw [List.length_map, HN.out]; omega)
            have hq := HQ.out
            rw [hdr] at hq
            have hq2 : printL (l.map kt3) = acc := by rw [hq]; simp [printL]
            have hpr := HPR.out
            rw [hq2] at hpr
            have HP2 := Lib.hid hpr
            have hcv := run_conv_own wr w.heap.size (.slice oa acc.length oc) acc own
            clear hq hq2 hpr hdr
            by_cases hbig : 20000 < acc.length
            · have hbz : (20000 : Int) < (acc.length : Int) := by omega
              go_wp2_with fail
              go_ret2
              exact (show PrintQ (l.map kt3) w _ _ from by unfold PrintQ; rw [HP2.out, if_pos hbig]; exact ⟨rfl, hb⟩)
            · have hbz : ¬ (20000 : Int) < (acc.length : Int) := by omega
              go_wp2_with fail
              go_ret2
              exact (show PrintQ (l.map kt3) w _ _ from by unfold PrintQ; rw [HP2.out, if_neg hbig]; exact ⟨rfl, hb⟩)
end Go.Proofs.YtafofcenphopbaaGreatDoor
namespace Go.Proofs.YtafofcenphopbaaGreatDoor
open Go.RowKit Lx

theorem two_toks {w : World} {b : Nat} {x y : T3} (h : w.heap[b]? = some (.cells #[.int .i64 x.kind, .string x.text, .int .i64 x.at_, .int .i64 y.kind, .string y.text, .int .i64 y.at_] 24)) : TokRow w (.slice (some ⟨b, 0, none⟩) 2 2) [x, y] := by
  refine ⟨_, 2, rfl, fun _ => ⟨b, 0, rfl, (Array.getElem?_eq_some_iff.1 h).1, fun j hj i u hu => ?_⟩⟩
  rw [Lib.cell_of_heap h]
  have hi : i < 3 := by
    have := (List.getElem?_eq_some_iff.1 hu).1
    simpa [tokv] using this
  have hj' : j = 0 ∨ j = 1 := by simp at hj; omega
  have hi' : i = 0 ∨ i = 1 ∨ i = 2 := by omega
  rcases hj' with rfl | rfl <;> rcases hi' with rfl | rfl | rfl <;> simpa [tokv] using hu
/-- Two tokens in boxes of their own. -/
structure Boxed2 (w : World) (b : Nat) (x y : T3) : Prop where
  h0 : w.heap[b]? = some (.cells #[.int .i64 x.kind, .string x.text, .int .i64 x.at_] 24)
  h1 : w.heap[b + 1]? = some (.cells #[.int .i64 y.kind, .string y.text, .int .i64 y.at_] 24)
theorem Boxed2.below {w w' : World} {b : Nat} {x y : T3} (h : Boxed2 w b x y) (hb : Below w.heap.size w w') : Boxed2 w' b x y :=
  ⟨(hb.block _ (Array.getElem?_eq_some_iff.1 h.h0).1).trans h.h0, (hb.block _ (Array.getElem?_eq_some_iff.1 h.h1).1).trans h.h1⟩
theorem Boxed2.cells {w : World} {b : Nat} {x y : T3} (h : Boxed2 w b x y) : w.cell? ⟨b, 0, none⟩ = some (.int .i64 x.kind) ∧ w.cell? ⟨b, 1, none⟩ = some (.string x.text) ∧ w.cell? ⟨b, 2, none⟩ = some (.int .i64 x.at_) ∧
    w.cell? ⟨b + 1, 0, none⟩ = some (.int .i64 y.kind) ∧ w.cell? ⟨b + 1, 1, none⟩ = some (.string y.text) ∧ w.cell? ⟨b + 1, 2, none⟩ = some (.int .i64 y.at_) :=
  ⟨cell_of_row _ _ 0 _ _ _ h.h0, cell_of_row _ _ 1 _ _ _ h.h0, cell_of_row _ _ 2 _ _ _ h.h0, cell_of_row _ _ 0 _ _ _ h.h1, cell_of_row _ _ 1 _ _ _ h.h1, cell_of_row _ _ 2 _ _ _ h.h1⟩
set_option maxHeartbeats 4000000 in
set_option maxRecDepth 100000 in
theorem LexPrints_walk (v : Value) (l : List T3) (x y : T3) (w : World) (h : TokRow w v l) (hn : l.length ≤ 9223372036854775807) (hml : ML w) : Calls Tryz.prog 3 #[v, tokA x, tokA y] w fun e w' => e = .returned (.bool true) ∧ Below w.heap.size w w' := by
  obtain ⟨n0, n1, b0⟩ := two_box w (.cells #[.int .i64 x.kind, .string x.text, .int .i64 x.at_] 24) (.cells #[.int .i64 y.kind, .string y.text, .int .i64 y.at_] 24)
  have hf := fun W (hW : TokRow W v l) => few_any v l W hW hn
  have hg := fun V W (hW : TokRow W V [x, y]) => few_any V [x, y] W hW (by show 2 ≤ _; decide)
  have hm0 := hml.below b0
  have h0 := h.below b0 (Nat.le_refl _)
  unfold tokA
  go_enter Tryz.func3, Tryz.ntmps3
  go_wp2_with fail
  generalize (w.alloc (.cells #[.int .i64 x.kind, .string x.text, .int .i64 x.at_] 24)).alloc (.cells #[.int .i64 y.kind, .string y.text, .int .i64 y.at_] 24) = w1 at n0 n1 b0 hm0 h0 ⊢
  have bx : Boxed2 w1 w.heap.size x y := ⟨n0, n1⟩
  obtain ⟨B, hB⟩ : ∃ B, B = w.heap.size := ⟨_, rfl⟩
  rw [← hB] at bx
  simp only [← hB]
  clear hB n0 n1 h hml
  refine (sane_any _ hm0).mono ?_
  rintro e w2 ⟨rfl, hb⟩
  have bb := b0.trans (hb.mono b0.size)
  have hm1 := hm0.below hb
  have h1 := h0.below hb (Nat.le_refl _)
  have bx1 := bx.below hb
  clear b0 hm0 h0 bx hb
  obtain ⟨ao, cap, rfl⟩ : ∃ ao cap, v = .slice ao l.length cap := by obtain ⟨ao, cap, e, _⟩ := h1; exact ⟨ao, cap, e⟩
  have HF := Lib.hid hf
  have HG := Lib.hid hg
  clear hf hg
  cases hfew : fewI l with
  | false =>
    rw [hfew] at HF
    clear hfew
    go_wp2_with fail
    refine (HF.out _ h1).mono ?_
    rintro e w3 ⟨rfl, hb⟩
    go_wp2_with fail
    go_ret
    exact ⟨rfl, bb.trans (hb.mono bb.size)⟩
  | true =>
    rw [hfew] at HF
    have HT := Lib.hid (fewI_texts l hfew)
    clear hfew
    go_wp2_with fail
    refine (HF.out _ h1).mono ?_
    rintro e w3 ⟨rfl, hb⟩
    have bb := bb.trans (hb.mono bb.size)
    have hm2 := hm1.below hb
    have h2 := h1.below hb (Nat.le_refl _)
    have bx2 := bx1.below hb
    obtain ⟨p0, p1, p2, q0, q1, q2⟩ := bx2.cells
    clear hm1 h1 bx1 hb
    go_wp2_with fail
    have n4 := heap_alloc_new w3 (.cells #[.int .i64 x.kind, .string x.text, .int .i64 x.at_, .int .i64 y.kind, .string y.text, .int .i64 y.at_] 24)
    have b4 := below_box w3 (.cells #[.int .i64 x.kind, .string x.text, .int .i64 x.at_, .int .i64 y.kind, .string y.text, .int .i64 y.at_] 24)
    generalize w3.alloc (.cells #[.int .i64 x.kind, .string x.text, .int .i64 x.at_, .int .i64 y.kind, .string y.text, .int .i64 y.at_] 24) = w4 at n4 b4 ⊢
    have bb := bb.trans (b4.mono bb.size)
    have hm3 := hm2.below b4
    have h3 := h2.below b4 (Nat.le_refl _)
    have bx3 := bx2.below b4
    have t4 := two_toks n4
    clear hm2 h2 bx2 b4 n4 p0 p1 p2 q0 q1 q2
    generalize w3.heap.size = B3 at t4 ⊢
    cases hfew : fewI [x, y] with
    | false =>
      rw [hfew] at HG
      clear hfew
      refine (HG.out _ _ t4).mono ?_
      rintro e w5 ⟨rfl, hb⟩
      go_wp2_with fail
      go_ret
      exact ⟨rfl, bb.trans (hb.mono bb.size)⟩
    | true =>
      rw [hfew] at HG
      have hx : x.text.size ≤ 1000 := fewI_texts _ hfew x (by simp)
      have hy : y.text.size ≤ 1000 := fewI_texts _ hfew y (by simp)
      clear hfew
      have c1 := fun W (h : ML W) => Tight_any x y (by omega) (by omega) W h
      have c2 := fun W => rTight_any x y (by omega) (by omega) W
      have c3 := fun W (h : ML W) (hr : TokRow W (.slice ao l.length cap) l) => Print_any (.slice ao l.length cap) l (fun t ht => by have := HT.out t ht; omega) hn W h hr
      have c4 := fun W (hr : TokRow W (.slice ao l.length cap) l) => rPrint_any (.slice ao l.length cap) l (fun t ht => by have := HT.out t ht; omega) hn W hr
      unfold tokA at c1 c2
      unfold PrintQ at c3 c4
      generalize (checkI x.kind x.text && (checkI y.kind y.text && tightI x y)) = r1 at c1 c2
      generalize errIf (checkI x.kind x.text && checkI y.kind y.text) = r2 at c1 c2
      generalize (printR (l.map kt3)).1 = r3 at c3 c4
      generalize (printR (l.map kt3)).2 = r4 at c3 c4
      have C1 := Lib.hid c1
      have C2 := Lib.hid c2
      have C3 := Lib.hid c3
      have C4 := Lib.hid c4
      clear c1 c2 c3 c4 HT hx hy
      refine (HG.out _ _ t4).mono ?_
      rintro e w5 ⟨rfl, hb⟩
      have bb := bb.trans (hb.mono bb.size)
      have hm4 := hm3.below hb
      have h4 := h3.below hb (Nat.le_refl _)
      have bx4 := bx3.below hb
      obtain ⟨p0, p1, p2, q0, q1, q2⟩ := bx4.cells
      clear hm3 h3 bx3 hb t4
      go_wp2_with fail
      refine (C1.out _ hm4).mono ?_
      rintro e w6 ⟨rfl, hb⟩
      have bb := bb.trans (hb.mono bb.size)
      have hm5 := hm4.below hb
      have h5 := h4.below hb (Nat.le_refl _)
      have bx5 := bx4.below hb
      clear p0 p1 p2 q0 q1 q2
      obtain ⟨p0, p1, p2, q0, q1, q2⟩ := bx5.cells
      clear hm4 h4 bx4 hb
      go_wp2_with fail
      refine (C2.out _).mono ?_
      rintro e w7 ⟨rfl, hb⟩
      have bb := bb.trans (hb.mono bb.size)
      have hm6 := hm5.below hb
      have h6 := h5.below hb (Nat.le_refl _)
      clear p0 p1 p2 q0 q1 q2 hm5 h5 bx5 hb
      go_wp2_with fail
      refine (C3.out _ hm6 h6).mono ?_
      rintro e w8 ⟨rfl, hb⟩
      have bb := bb.trans (hb.mono bb.size)
      have h7 := h6.below hb (Nat.le_refl _)
      clear hb hm6 h6
      go_wp2_with fail
      refine (C4.out _ h7).mono ?_
      rintro e w9 ⟨rfl, hb⟩
      have bb := bb.trans (hb.mono bb.size)
      clear hb h7
      go_wp2_with fail
      go_ret
      exact ⟨by simp, bb⟩
end Go.Proofs.YtafofcenphopbaaGreatDoor
namespace Go.Proofs.YtafofcenphopbaaGreatDoor
open Go.Joins Go.ChangeShapes Go.WideShapes Go.RowKit Go.Deep

section
variable {H : Type} {enc : TypeId × Value → H}
set_option maxRecDepth 100000 in
theorem open_token {r : Reach} {b0 base : Nat} {spare : Nat → Bool} {held : Bool} {w : World} {v : Value} {d : DataW H} {ps : List MemPlace} (hval : Value.okWide Tryz.prog w r b0 24 v) (hd : DataW.Trod enc Tryz.prog w base spare held 24 v d ps) :
    ∃ (k : Int) (t : ByteArray) (a : Int), v = .agg #[.int .i64 k, .string t, .int .i64 a] := by
  obtain ⟨v0, v1, v2, y0, y1, y2, n, rfl, _, _, t0, t1, t2⟩ := open_agg3 Tryz.underlying24 (by kernel_rfl) (by kernel_rfl) hval hd
  obtain ⟨a0, e0, _⟩ := DataW.trod_int Tryz.underlying3 t0
  obtain ⟨a1, e1, _⟩ := DataW.trod_string Tryz.underlying9 t1
  obtain ⟨a2, e2, _⟩ := DataW.trod_int Tryz.underlying3 t2
  cases e0; cases e1; cases e2
  exact ⟨_, _, _, rfl⟩
end
end Go.Proofs.YtafofcenphopbaaGreatDoor
namespace Go.Proofs.YtafofcenphopbaaGreatDoor
open Go.ChangeShapes Go.WideShapes Go.ChangeAt Go.RowKit
open Go.ChangeMaps (open_string shut_string)
set_option maxRecDepth 100000 in
theorem LexPrints_lifted (os : Os) (started : os.Started) (H : Type) (enc : TypeId × Value → H) :
    ReturnsInHanded {} Tryz.checked os 3 .any (fun w args => (Rows.lexPrintsSpec.pre enc Tryz.prog Tryz.f3 [] false w args ∧ laidMetH Tryz.prog laid2 w) ∧ sizedMet enc Tryz.prog Tryz.f3 (OpenSpec.ofChange Rows.lexPrintsSpec) false w args)
      (Rows.lexPrintsSpec.post enc Tryz.prog Tryz.f3 false true false false) := by
  refine handed_of (C := Tryz.checked) (X := fun w _ => laidMetH Tryz.prog laid2 w) ownN started (by kernel_rfl) Tryz.func3
    (ChangeSpec.witness_shaped (enc := enc) (C := Tryz.checked) (os := os) (X := fun w _ => laidMetH Tryz.prog laid2 w) false (World.laidAll Tryz.prog os laid2) #[.slice none 0 0, .agg #[.int .i64 0, .string ⟨#[]⟩, .int .i64 0], .agg #[.int .i64 0, .string ⟨#[]⟩, .int .i64 0]] 8 (World.laidAll_os _ _ _)
      (shaped2 os) (by kernel_rfl) (by kernel_rfl) (by kernel_rfl)
      (by rw [MakeChecks.laidMetH_plain _ _ _ (by kernel_rfl)]; exact laidMet_laidAll _ (by kernel_rfl) (by kernel_rfl))) ?_
  intro W base args ds gs before hval0 hW _ hsh
  have hval : ∀ (j : Nat) t v, Tryz.f3.params[j]? = some t → args[j]? = some v → Value.okWide Tryz.prog W .any base t v := hval0
  have hW' := hW
  obtain ⟨p, q, hA0, hV, rfl, _, _⟩ := hW
  have hA : DataW.TrodAll enc Tryz.prog W 0 (fun _ => true) true Tryz.f3.params.toList args.toList ds p := hA0
  rw [Tryz.params3] at hA hval
  obtain ⟨v0, v1, v2, d0, d1, d2, p0, p1, p2, rfl, rfl, rfl, h0, h1, h2⟩ := trodAll_three hA
  obtain ⟨rfl, rfl⟩ := trodVars_none hV
  obtain ⟨l, hl, hn⟩ := open_toks (hval 0 _ v0 rfl rfl) h0
  obtain ⟨k1, x1, y1, rfl⟩ := open_token (hval 1 _ v1 rfl rfl) h1
  obtain ⟨k2, x2, y2, rfl⟩ := open_token (hval 2 _ v2 rfl rfl) h2
  refine (LexPrints_walk v0 l ⟨k1, x1, y1⟩ ⟨k2, x2, y2⟩ W hl hn (ml_of hsh)).mono fun e W' ⟨he, hb⟩ => ?_
  subst he
  have hlt : ∀ x ∈ (p0 ++ p1 ++ p2) ++ [], x.block < W.heap.size := fun x hx => hW'.lt x hx
  exact ⟨_, rfl, law_post hW' rfl rfl rfl (fun sp hsp => by
    rw [Tryz.params3]
    rw [List.append_nil] at hsp hlt ⊢
    rw [List.append_assoc]
    exact trodAll_mk3 (WideElems.Trod_stays laidO (by kernel_rfl) (of_decide_eq_true (by kernel_rfl)) h0 (fun x hx => hb.same (hlt x (by simp [hx]))) (fun x hx => hsp x (by simp [hx])))
      (WideElems.Trod_stays laidO (by kernel_rfl) (of_decide_eq_true (by kernel_rfl)) h1 (fun x hx => hb.same (hlt x (by simp [hx]))) (fun x hx => hsp x (by simp [hx])))
      (WideElems.Trod_stays laidO (by kernel_rfl) (of_decide_eq_true (by kernel_rfl)) h2 (fun x hx => hb.same (hlt x (by simp [hx]))) (fun x hx => hsp x (by simp [hx])))) hb⟩
theorem LexPrints_of : Rows.LexPrintsSaid :=
  OpenClaim.holds_of_wide 3 Tryz.f3 rfl rfl rfl rfl rfl rfl rfl ⟨rfl, rfl, rfl, rfl, rfl⟩ rfl rfl rfl rfl rfl (by kernel_rfl) Tryz.func3 (by kernel_rfl)
    (of_decide_eq_true (by kernel_rfl)) (by unfold Func.isWrapper; first | (rw [if_pos (by decide +kernel)]; kernel_rfl) | (rw [if_neg (by decide +kernel)]; exact ⟨rfl, rfl⟩))
    (fun os started H enc _ => LexPrints_lifted os started H enc)
theorem LexPrints_card : Rows.LexPrintsCardSaid :=
  Claim7.holds_tied_plain_at .later [] [.data, .pinned] true (true, "076293f99f58c21f9f86479d50162f7f1612b078a714558265b8bdf9f7ec9d58") false LexPrints_of (fun _ h => by cases h) (by kernel_rfl) (fun _ h => by cases h) lexPrints_row_tie rfl ⟨rfl, rfl⟩ (by kernel_rfl) rfl
    (fun f fn hf hfn => by
      obtain rfl : f = 3 := Option.some.inj ((show Tryz.prog.funcNamed "pliant/pliantlaw05.LexPrints" = some 3 by kernel_rfl).symm.trans hf) |>.symm
      obtain rfl : fn = Tryz.f3 := (Option.some.inj (Tryz.func3.symm.trans hfn)).symm
      exact ⟨by kernel_rfl, fun j t ht => by
        rw [Tryz.params3] at ht
        have hm : t ∈ [22, 24] := by have := Array.mem_of_getElem? ht; simp at this; simp; omega
        have hall : ([22, 24].all fun u => !Tryz.prog.wantsStandIn u) = true := by kernel_rfl
        exact (show Tryz.prog.wantsStandIn t = false by simpa using List.all_eq_true.1 hall t hm)⟩)
    (by kernel_rfl)
theorem LexPrints_holds : Rows.LexPrintsCardSaid := LexPrints_card
end Go.Proofs.YtafofcenphopbaaGreatDoor
