/- LexLiterals: the row, out of its walk. -/
import Derived.Test.YtafofcenphopbaaDoorTie
import Derived.Test.YtafofcenphopbaaDoorCards
import Derived.Test.YtafofcenphopbaaDoorA5
import Derived.ProofKit
import Derived.OpenShut
import Derived.LaidMore
import Derived.Lay
import Derived.SevenTiedAt
import Derived.Stop.Joined
import Derived.HandedShaped
import Derived.Shelf.Vars
import Derived.Test.YtafofcenphopbaaDoorA36
import Derived.Lib.QuietBelow
import Derived.Test.YtafofcenphopbaaDoorK1
import Derived.Test.YtafofcenphopbaaDoorA37
import Derived.Lib.SmallJoins
import Derived.Deep.Slices
import Derived.Deep.Fields
import Derived.ChangeSame
import Derived.Carry
namespace Go.Proofs.YtafofcenphopbaaDoor
open Go.ChangeShapes Go.WideShapes Go.ChangeAt Go.RowKit

theorem ownN : ownKnob Tryd.prog.godebug = none := by kernel_rfl
def laid2 : List (String × DataW Unit) := Rows.lexFirstRow.laid
set_option maxRecDepth 100000 in
theorem shaped2 (os : Os) : (World.laidAll Tryd.prog os laid2).Shaped Tryd.prog := World.shaped_of_ZipB (by kernel_rfl) (by kernel_rfl)

section
variable {H : Type} {enc : TypeId × Value → H}
/-- A row that lists variables, its contract handed the world's shape and the reach. -/
theorem handed_of {C : Checked} {os : Os} {f : FuncId} {fn : Func} {s : ChangeSpec} {X : World → Array Value → Prop}
    (own : ownKnob C.prog.godebug = none) (started : os.Started) (noInit : C.prog.inits.idxOf? f = none) (hfn : C.prog.funcs[f]? = some fn)
    (witness : ∃ (w : World) (tape : Tape) (i : Input), w.os = os ∧ (w.forCall tape i).Shaped C.prog ∧ i.vars = [] ∧ Input.okWide C.prog (w.forCall tape i) .any w.heap.size f i ∧
      ((s.pre enc C.prog fn [] false (w.forCall tape i).memory i.args ∧ X (w.forCall tape i).memory i.args) ∧ sizedMet enc C.prog fn (OpenSpec.ofChange s) false (w.forCall tape i).memory i.args) ∧ ({} : Assume).holds C.prog (lone (Frame.enter C.prog f i.args .normal) [] (w.forCall tape i)))
    (contract : ∀ (W : World) (base : Nat) (args : Array Value) (ds gs : List (DataW H)) (before : List MemPlace),
      (∀ (j : Nat) t v, fn.params[j]? = some t → args[j]? = some v → Value.okWide C.prog W .any base t v) →
      DataW.Whole enc C.prog fn.params.toList s.vars false W args.toList ds gs before →
      (DataW.weightsEach C.prog (fn.params.toList ++ s.plain.varTypes C.prog) (ds ++ gs)).all (· ≤ reachBytes) = true → W.ShapedOpen C.prog →
      Calls C.prog f args W fun e W' => ∃ v, e = .returned v ∧ s.post enc C.prog fn false true false false W args v W') :
    ReturnsInHanded {} C os f .any (fun w args => (s.pre enc C.prog fn [] false w args ∧ X w args) ∧ sizedMet enc C.prog fn (OpenSpec.ofChange s) false w args) (s.post enc C.prog fn false true false false) := by
  refine returnsInHanded_of_calls own started noInit witness ?_
  intro w tape i _ hsh _ hok hpre hholds
  obtain ⟨_, _, _, fn', hfn', _, _, _, _, hval⟩ := hok
  have e : fn' = fn := Option.some.inj (hfn'.symm.trans hfn)
  subst e
  obtain ⟨⟨⟨ds, gs, before, hw, hc⟩, hx⟩, hz⟩ := hpre
  have hw' := DataW.Whole.of_heap (w' := w.forCall tape i) (by rfl) hw
  refine (contract (w.forCall tape i) w.heap.size i.args ds gs before hval hw' (hz.weights hw) hsh).mono fun e W' ⟨v, he, hp⟩ => ?_
  subst he
  exact ChangeSpec.post_blind hp
end

/-- The library's variable holds an integer, in every world of that shape. -/
theorem ml_of {W : World} (h : W.ShapedOpen Tryd.prog) : ML W := by
  obtain ⟨m, hm⟩ := cell_of_shapedOpen_int (g := 1) (t := 3) (zero := #[.int .i64 0]) (k := .i64) h (of_decide_eq_true (by kernel_rfl)) (by kernel_rfl) rfl (by kernel_rfl) (by kernel_rfl) Tryd.underlying3
  exact ⟨World.block_lt_of_cell? _ _ hm, m, hm⟩

section
variable {H : Type} {enc : TypeId × Value → H}
set_option maxRecDepth 100000 in
/-- A law that answered true, and changed nothing that stood. -/
theorem law_post {f : Func} {s : ChangeSpec} {W W' : World} {args : Array Value} {ds : List (DataW H)} {before : List MemPlace}
    (hW : DataW.Whole enc Tryd.prog f.params.toList s.vars false W args.toList ds [] before) (hv : s.vars = []) (hr : f.resultTypes = #[4]) (hs : s.fn H (ds ++ []) = { results := [.lit (.bool true)], args := ds })
    (hargs : ∀ sp : Nat → Bool, (∀ p ∈ before, sp p.block = true) → DataW.TrodAll enc Tryd.prog W' 0 sp true f.params.toList args.toList ds before) (hb : Below W.heap.size W W') :
    s.post enc Tryd.prog f false true false false W args (.bool true) W' := by
  have hlt : ∀ p ∈ before, p.block < W.heap.size := fun p hp => hW.lt p hp
  have hold : ∀ p ∈ before, (fun b => decide (b < W.heap.size)) p.block = true := fun p hp => by simpa using hlt p hp
  have hres : ∀ (b : Nat) (sp : Nat → Bool) (hd : Bool), DataW.TrodAll enc Tryd.prog W' b sp hd f.resultTypes.toList ((Value.bool true).resultList f.resultTypes.size) (s.fn H (ds ++ [])).results [] := by
    intro b sp hd
    rw [hr, hs]
    exact trodAll_mk1 (shut_bool Tryd.underlying4 _)
  have hvars : ∀ sp : Nat → Bool, DataW.TrodVars enc Tryd.prog W' sp s.vars (s.fn H (ds ++ [])).vars [] := by
    intro sp; rw [hv, hs]; exact rfl
  have hargs' : ∀ sp : Nat → Bool, (∀ p ∈ before, sp p.block = true) → DataW.TrodAll enc Tryd.prog W' 0 sp true f.params.toList args.toList (s.fn H (ds ++ [])).args before := by
    intro sp hsp; rw [hs]; exact hargs sp hsp
  refine ⟨ds, [], before, [], before, [], hW, hres _ _ _, hargs' _ hold, hvars _, World.keptBut_mono (fun p hp => ⟨hp, ?_⟩) (hb.frame (· ∈ before)), fun _ => ?_⟩
  · exact Or.inr (by simpa using hp)
  · obtain ⟨_, _, _, _, _, hz, hn⟩ := hW
    refine ⟨?_, _, _, ([] ++ before) ++ [], ⟨[] ++ before, [], trodAll_append (hargs' _ (fun _ _ => rfl)) (hres _ _ _), hvars _, rfl, ?_, ?_⟩, ?_⟩
    · exact ok_one hr rfl (okWide_bool_mk Tryd.underlying4 _)
    · intro b off hp
      have hin : MemPlace.cell b off ∈ before := by simpa using hp
      rw [hb.frozen (hlt _ hin)]
      exact hz b off hin
    · intro ha
      cases ha
    · intro p hp _
      simpa using hp
end
end Go.Proofs.YtafofcenphopbaaDoor
namespace Go.Proofs.YtafofcenphopbaaDoor
open Go.RowKit Go.Sort Lx

def wideS (s : ByteArray) : Bool := decide (21000 < s.size)
theorem short1_any (s : ByteArray) (w : World) : Calls Tryd.prog 49 #[.string s] w fun e w' => e = .returned (.bool (wideS s)) ∧ w' = w := by
  unfold wideS
  go_enter Tryd.func49, Tryd.ntmps49
  go_wp2
  all_goals (
    go_ret
    refine ⟨ret_bool ?_, rfl⟩
    rw [Bool.eq_iff_iff]
    simp
    try omega)
def fIdxS (p : ByteArray → Bool) : List ByteArray → Nat → Int
  | [], _ => -1
  | t :: r, k => if p t then (k : Int) else fIdxS p r (k + 1)
theorem fIdxS_cons (p : ByteArray → Bool) (t : ByteArray) (r : List ByteArray) (k : Nat) : fIdxS p (t :: r) k = if p t then (k : Int) else fIdxS p r (k + 1) := rfl
theorem fIdxS_any (p : ByteArray → Bool) : ∀ (l : List ByteArray) (k : Nat), decide (0 ≤ fIdxS p l k) = l.any p := by
  intro l
  induction l with
  | nil => intro k; rfl
  | cons t r ih =>
    intro k
    rw [fIdxS_cons]
    cases h : p t with
    | true => simp [h]
    | false => simp [h, ih]
set_option maxHeartbeats 1000000 in
set_option maxRecDepth 100000 in
theorem IndexShort_any (ss : List ByteArray) (B : Nat) (w : World) (hc : ∀ j (h : j < ss.length), w.cell? ⟨B, j, none⟩ = some (.string (ss[j]'h))) (hn : ss.length ≤ 1000) :
    Calls Tryd.prog 84 #[.slice (some ⟨B, 0, none⟩) ss.length ss.length, .func (.func 49) #[] #[]] w fun e w' => e = .returned (.int .i64 (fIdxS wideS ss 0)) ∧ w' = w := by
  generalize hnn : ss.length = n at hn ⊢
  have HN := Lib.hid hnn
  have H1 := Lib.hid hc
  clear hnn hc
  go_enter Tryd.func84, Tryd.ntmps84
  go_wp2_with fail
  go_loop [8] (fun q => ∃ k : Nat, k ≤ n ∧ q = .int .i64 k ∧ fIdxS wideS ss 0 = fIdxS wideS (ss.drop k) k) (fun q => n - (intOf q).toNat)
  case atStart => exact ⟨0, Nat.zero_le _, rfl, rfl⟩
  case round =>
    obtain ⟨k, hk, rfl, hf⟩ := hrel
    have HF := Lib.hid hf
    clear hf
    by_cases hlt : k < n
    · have hltz : (k : Int) < (n : Int) := by omega
      have hl : k < ss.length := by rw [HN.out]; exact hlt
      have hcell := H1.out k hl
      have hst : fIdxS wideS (ss.drop k) k = if wideS (ss[k]'hl) then (k : Int) else fIdxS wideS (ss.drop (k + 1)) (k + 1) := by rw [List.drop_eq_getElem_cons hl, fIdxS_cons]
      generalize ss[k] = x at hcell hst
      have hq := fun W => short1_any x W
      have HQ := Lib.hid hq
      have HST := Lib.hid hst
      clear hq hst
      cases hv : wideS x with
      | true =>
        rw [hv] at HQ HST
        clear hv
        go_wp2_with fail
        refine (HQ.out _).mono ?_
        rintro e w' ⟨rfl, hw⟩
        rw [hw]
        clear hw
        go_wp2_with fail
        go_ret
        exact ⟨by rw [HF.out, HST.out]; rfl, rfl⟩
      | false =>
        rw [hv] at HQ HST
        clear hv
        go_wp2_with fail
        refine (HQ.out _).mono ?_
        rintro e w' ⟨rfl, hw⟩
        rw [hw]
        clear hw
        go_wp2_with fail
        go_round
        case rel => exact ⟨k + 1, hlt, by go_num, by rw [HF.out, HST.out]; rfl⟩
        case measure => simp [intOf]; omega
    · have hltz : ¬ (k : Int) < (n : Int) := by omega
      have hfin : fIdxS wideS ss 0 = -1 := by rw [HF.out, List.drop_of_length_le (by rw [HN.out]; omega)]; rfl
      have HFN := Lib.hid hfin
      clear hfin
      go_wp2_with fail
      go_ret
      exact ⟨by rw [HFN.out]; rfl, rfl⟩
set_option maxHeartbeats 1000000 in
theorem short_any (ss : List ByteArray) (B n : Nat) (hnn : ss.length = n) (b : Bool) (hb : (!ss.any wideS) = b) (w : World) (hc : ∀ j (h : j < ss.length), w.cell? ⟨B, j, none⟩ = some (.string (ss[j]'h))) (hn : n ≤ 1000) :
    Calls Tryd.prog 18 #[.slice (some ⟨B, 0, none⟩) n n] w fun e w' => e = .returned (.bool b) ∧ w' = w := by
  have hq := IndexShort_any ss B w hc (by omega)
  rw [hnn] at hq
  have hi := fIdxS_any wideS ss 0
  generalize fIdxS wideS ss 0 = x at hq hi
  have hcf : Calls Tryd.prog 48 #[.slice (some ⟨B, 0, none⟩) n n, .func (.func 49) #[] #[]] w fun e w' => e = .returned (.bool (ss.any wideS)) ∧ w' = w := by
    have HQ := Lib.hid hq
    have HI := Lib.hid hi
    clear hq hi hb hc
    go_enter Tryd.func48, Tryd.ntmps48
    go_wp2_with fail
    refine HQ.out.mono ?_
    rintro e w' ⟨rfl, hw⟩
    rw [hw]
    clear hw
    go_wp2_with fail
    go_ret
    exact ⟨by rw [← HI.out]; rfl, rfl⟩
  have HC := Lib.hid hcf
  have HB := Lib.hid hb
  clear hcf hq hi hb hc
  go_enter Tryd.func18, Tryd.ntmps18
  go_wp2_with fail
  refine HC.out.mono ?_
  rintro e w' ⟨rfl, hw⟩
  rw [hw]
  clear hw
  go_wp2_with fail
  go_ret
  exact ⟨by rw [← HB.out]; rfl, rfl⟩
end Go.Proofs.YtafofcenphopbaaDoor
namespace Go.Proofs.YtafofcenphopbaaDoor
open Go.RowKit Lx

theorem lower_lowC (l : Bs) : Lib.toLowerA l = l.map lowC := by
  unfold Lib.toLowerA
  refine List.map_congr_left fun c _ => ?_
  unfold lowC Lib.lowerB Lib.isUpperB
  by_cases h : 65 ≤ c.toNat ∧ c.toNat ≤ 90
  · rw [if_pos h, if_pos (by simp [UInt8.le_iff_toNat_le]; omega)]
    apply UInt8.toNat_inj.1
    rw [UInt8.toNat_ofNat', UInt8.toNat_add]; rfl
  · rw [if_neg h, if_neg (by simp [UInt8.le_iff_toNat_le]; omega)]
theorem neqType (k p q : Int) (vary : Bool) (pic : ByteArray) (w : World) : (binOp .neq 57 (.agg #[.int .i64 k, .int .i64 p, .int .i64 q, .bool vary, .string pic]) (.agg #[.int .i64 k, .int .i64 p, .int .i64 q, .bool vary, .string pic])).run Tryd.prog w = .ok (.bool false) w := by
  have u3 := Tryd.underlying3
  have a3 := Tryd.isAgg3
  have z3 := Tryd.sizeOf3
  have hS : Tryd.prog.underlying 57 = some (.struct (Tryd.prog.fieldsOf 57)) := by kernel_rfl
  have hp : Tryd.prog.stoodInHeld 57 = false := by kernel_rfl
  rw [run_neq_struct, show (10000 : Nat) = 9999 + 1 from rfl, run_equalIn_agg w 9999 57 _ _ hS hp]
  simp only [Program.fieldsOf, Tryd.underlying57]
  go_simp
theorem neqValue (n : Int) (s : ByteArray) (w : World) : (binOp .neq 59 (.agg #[.int .i64 n, .string s]) (.agg #[.int .i64 n, .string s])).run Tryd.prog w = .ok (.bool false) w := by
  have u3 := Tryd.underlying3
  have a3 := Tryd.isAgg3
  have z3 := Tryd.sizeOf3
  have hS : Tryd.prog.underlying 59 = some (.struct (Tryd.prog.fieldsOf 59)) := by kernel_rfl
  have hp : Tryd.prog.stoodInHeld 59 = false := by kernel_rfl
  rw [run_neq_struct, show (10000 : Nat) = 9999 + 1 from rfl, run_equalIn_agg w 9999 59 _ _ hS hp]
  simp only [Program.fieldsOf, Tryd.underlying59]
  go_simp
theorem neqTok (k : Int) (t : ByteArray) (a : Int) (w : World) : (binOp .neq 37 (.agg #[.int .i64 k, .string t, .int .i64 a]) (.agg #[.int .i64 k, .string t, .int .i64 a])).run Tryd.prog w = .ok (.bool false) w := by
  have u3 := Tryd.underlying3
  have a3 := Tryd.isAgg3
  have z3 := Tryd.sizeOf3
  have hS : Tryd.prog.underlying 37 = some (.struct (Tryd.prog.fieldsOf 37)) := by kernel_rfl
  have hp : Tryd.prog.stoodInHeld 37 = false := by kernel_rfl
  rw [run_neq_struct, show (10000 : Nat) = 9999 + 1 from rfl, run_equalIn_agg w 9999 37 _ _ hS hp]
  simp only [Program.fieldsOf, Tryd.underlying37]
  go_simp
/-- The three arguments, boxed. -/
structure LX (w : World) (b : Nat) (k p q : Int) (vary : Bool) (pic : ByteArray) (n : Int) (s : ByteArray) (k' : Int) (t : ByteArray) (a : Int) : Prop where
  h0 : w.heap[b]? = some (.cells #[.int .i64 k, .int .i64 p, .int .i64 q, .bool vary, .string pic] 57)
  h1 : w.heap[b + 1]? = some (.cells #[.int .i64 n, .string s] 59)
  h2 : w.heap[b + 1 + 1]? = some (.cells #[.int .i64 k', .string t, .int .i64 a] 37)
theorem LX.below {w w' : World} {b : Nat} {k p q : Int} {vary : Bool} {pic : ByteArray} {n : Int} {s : ByteArray} {k' : Int} {t : ByteArray} {a : Int} (h : LX w b k p q vary pic n s k' t a) (hb : Below w.heap.size w w') : LX w' b k p q vary pic n s k' t a :=
  ⟨(hb.block _ (Array.getElem?_eq_some_iff.1 h.h0).1).trans h.h0, (hb.block _ (Array.getElem?_eq_some_iff.1 h.h1).1).trans h.h1, (hb.block _ (Array.getElem?_eq_some_iff.1 h.h2).1).trans h.h2⟩
theorem LX.tok {w : World} {b : Nat} {k p q : Int} {vary : Bool} {pic : ByteArray} {n : Int} {s : ByteArray} {k' : Int} {t : ByteArray} {a : Int} (h : LX w b k p q vary pic n s k' t a) :
    w.cell? ⟨b + 1 + 1, 0, none⟩ = some (.int .i64 k') ∧ w.cell? ⟨b + 1 + 1, 1, none⟩ = some (.string t) ∧ w.cell? ⟨b + 1 + 1, 2, none⟩ = some (.int .i64 a) :=
  ⟨cell_of_row _ _ 0 _ _ _ h.h2, cell_of_row _ _ 1 _ _ _ h.h2, cell_of_row _ _ 2 _ _ _ h.h2⟩
theorem LX.tv {w : World} {b : Nat} {k p q : Int} {vary : Bool} {pic : ByteArray} {n : Int} {s : ByteArray} {k' : Int} {t : ByteArray} {a : Int} (h : LX w b k p q vary pic n s k' t a) :
    w.cell? ⟨b, 0, none⟩ = some (.int .i64 k) ∧ w.cell? ⟨b, 1, none⟩ = some (.int .i64 p) ∧ w.cell? ⟨b, 2, none⟩ = some (.int .i64 q) ∧ w.cell? ⟨b, 3, none⟩ = some (.bool vary) ∧ w.cell? ⟨b, 4, none⟩ = some (.string pic) ∧
      w.cell? ⟨b + 1, 0, none⟩ = some (.int .i64 n) ∧ w.cell? ⟨b + 1, 1, none⟩ = some (.string s) :=
  ⟨cell_of_row _ _ 0 _ _ _ h.h0, cell_of_row _ _ 1 _ _ _ h.h0, cell_of_row _ _ 2 _ _ _ h.h0, cell_of_row _ _ 3 _ _ _ h.h0, cell_of_row _ _ 4 _ _ _ h.h0, cell_of_row _ _ 0 _ _ _ h.h1, cell_of_row _ _ 1 _ _ _ h.h1⟩
set_option maxHeartbeats 4000000 in
set_option maxRecDepth 100000 in
theorem LexLiterals_walk (k p q : Int) (vary : Bool) (pic : ByteArray) (n : Int) (s : ByteArray) (k' : Int) (t : ByteArray) (a : Int) (w : World) (hml : ML w) :
    Calls Tryd.prog 12 #[.agg #[.int .i64 k, .int .i64 p, .int .i64 q, .bool vary, .string pic], .agg #[.int .i64 n, .string s], .agg #[.int .i64 k', .string t, .int .i64 a]] w fun e w' => e = .returned (.bool true) ∧ Below w.heap.size w w' := by
  obtain ⟨b0, n0, n1, n2⟩ := box3 w (.cells #[.int .i64 k, .int .i64 p, .int .i64 q, .bool vary, .string pic] 57) (.cells #[.int .i64 n, .string s] 59) (.cells #[.int .i64 k', .string t, .int .i64 a] 37)
  have hm0 := hml.below b0
  go_enter Tryd.func12, Tryd.ntmps12
  go_wp2_with fail
  generalize ((w.alloc (.cells #[.int .i64 k, .int .i64 p, .int .i64 q, .bool vary, .string pic] 57)).alloc (.cells #[.int .i64 n, .string s] 59)).alloc (.cells #[.int .i64 k', .string t, .int .i64 a] 37) = w1 at b0 n0 n1 n2 hm0 ⊢
  have bx : LX w1 w.heap.size k p q vary pic n s k' t a := ⟨n0, n1, n2⟩
  obtain ⟨B, hB⟩ : ∃ B, B = w.heap.size := ⟨_, rfl⟩
  rw [← hB] at bx
  simp only [← hB]
  clear hB n0 n1 n2 hml
  refine (sane_any _ hm0).mono ?_
  rintro e w2 ⟨rfl, hb⟩
  have bb := b0.trans (hb.mono b0.size)
  have hm1 := hm0.below hb
  have bx1 := bx.below hb
  clear b0 hm0 bx hb
  obtain ⟨c0, c1, c2⟩ := bx1.tok
  obtain ⟨d0, d1, d2, d3, d4, e0, e1⟩ := bx1.tv
  go_wp2_with fail
  have b2 := below_box w2 (.cells #[.string s, .string t, .string pic] 9)
  have y0 := cell_box w2 #[.string s, .string t, .string pic] 9 0
  have y1 := cell_box w2 #[.string s, .string t, .string pic] 9 1
  have y2 := cell_box w2 #[.string s, .string t, .string pic] 9 2
  have hm2 := hm1.below b2
  have bx2 := bx1.below b2
  have bb := bb.trans (b2.mono bb.size)
  generalize w2.alloc (.cells #[.string s, .string t, .string pic] 9) = w3 at b2 y0 y1 y2 hm2 bx2 bb ⊢
  clear c0 c1 c2 d0 d1 d2 d3 d4 e0 e1 b2 hm1 bx1
  cases hv : !([s, t, pic].any wideS) with
  | false =>
    refine (short_any [s, t, pic] _ 3 rfl _ hv w3 (fun j h => by
      match j, h with
      | 0, _ => exact y0
      | 1, _ => exact y1
      | 2, _ => exact y2) (by decide)).mono ?_
    rintro e w' ⟨rfl, hw⟩
    rw [hw]
    clear hw y0 y1 y2
    go_wp2_with fail
    go_ret
    exact ⟨rfl, bb⟩
  | true =>
    refine (short_any [s, t, pic] _ 3 rfl _ hv w3 (fun j h => by
      match j, h with
      | 0, _ => exact y0
      | 1, _ => exact y1
      | 2, _ => exact y2) (by decide)).mono ?_
    rintro e w' ⟨rfl, hw⟩
    rw [hw]
    clear hw y0 y1 y2
    have hsz : s.size ≤ 21000 ∧ t.size ≤ 21000 := by
      simp [wideS] at hv
      omega
    obtain ⟨hs1, hs2⟩ := hsz
    clear hv
    have hlit := lit_back k p q vary pic n s
    have f3 := fun W => Literal_any k p q n vary pic s (by omega) W
    generalize (litI k p q vary pic n s) = lr at f3 hlit
    obtain ⟨lt, le⟩ := lr
    simp only at f3 hlit
    have F3 := Lib.hid f3
    have HL := Lib.hid hlit
    clear f3 hlit
    obtain ⟨d0, d1, d2, d3, d4, e0, e1⟩ := bx2.tv
    go_wp2_with fail
    refine (F3.out _).mono ?_
    rintro e w4 ⟨lv, rfl, T4, hb⟩
    have bb := bb.trans (hb.mono bb.size)
    have hm3 := hm2.below hb
    have bx3 := bx2.below hb
    clear d0 d1 d2 d3 d4 e0 e1 hb hm2 bx2 F3
    go_upto_if 38 with fail
    go_cut [] (fun wx => LX wx B k p q vary pic n s k' t a ∧ Below w.heap.size w wx ∧ ML wx)
    case first =>
      obtain ⟨d0, d1, d2, d3, d4, e0, e1⟩ := bx3.tv
      by_cases hle : le = 0
      · subst hle
        obtain ⟨hvary, hpic, a0, hl, hcon, hsz, hn1, hn2⟩ := HL.out rfl
        subst hvary
        obtain rfl : pic = ⟨#[]⟩ := ba_ext (by rw [← toList_data, hpic])
        obtain rfl := congrArg Prod.fst hl
        simp only at T4
        have fc : ∀ W, Calls Tryd.prog 41 #[.agg #[.int .i64 a0.1, .string a0.2, .int .i64 0]] W fun e w' => e = .returned (.tuple #[.agg #[.int .i64 k, .int .i64 p, .int .i64 q, .bool false, .string ⟨#[]⟩], .agg #[.int .i64 n.natAbs, .string s], .int .i64 0]) ∧ Below W.heap.size W w' := by
          intro W
          have := Constant_any a0.1 a0.2 0 (by omega) W
          unfold ConQ conV at this
          rw [hcon] at this
          exact this
        obtain ⟨g1, g2⟩ := a0
        simp only at fc T4
        have FC := Lib.hid fc
        clear fc hl hpic hcon hsz HL
        by_cases hneg : n < 0
        · rw [if_pos hneg] at T4
          obtain ⟨ao, cap, rfl, hT⟩ := T4
          obtain ⟨lb, lo, rfl, hlb, hT⟩ := hT (by simp)
          have t00 : w4.cell? ⟨lb, lo + 0 * 3 + 0, none⟩ = some (.int .i64 6) := hT 0 (by simp) 0 _ rfl
          have t01 : w4.cell? ⟨lb, lo + 0 * 3 + 1, none⟩ = some (.string ⟨#[45]⟩) := hT 0 (by simp) 1 _ rfl
          have t02 : w4.cell? ⟨lb, lo + 0 * 3 + 2, none⟩ = some (.int .i64 0) := hT 0 (by simp) 2 _ rfl
          have t10 : w4.cell? ⟨lb, lo + 1 * 3 + 0, none⟩ = some (.int .i64 g1) := hT 1 (by simp) 0 _ rfl
          have t11 : w4.cell? ⟨lb, lo + 1 * 3 + 1, none⟩ = some (.string g2) := hT 1 (by simp) 1 _ rfl
          have t12 : w4.cell? ⟨lb, lo + 1 * 3 + 2, none⟩ = some (.int .i64 0) := hT 1 (by simp) 2 _ rfl
          simp only [Nat.zero_mul, Nat.one_mul, Nat.add_zero] at t00 t01 t02 t10 t11 t12
          clear hT
          have hne := neqTok 6 ⟨#[45]⟩ 0
          have hB1 : B + 1 < w4.heap.size := (Array.getElem?_eq_some_iff.1 bx3.h1).1
          simp only [List.singleton_append, List.map_cons, List.map_nil, List.length_cons, List.length_nil, Nat.zero_add, Nat.reduceAdd]
          go_wp2_with fail
          go_region_held3 (fun w' => w'.cell? ⟨lb, lo, none⟩ = some (.int .i64 6) ∧ w'.cell? ⟨lb, lo + 1, none⟩ = some (.string ⟨#[45]⟩) ∧ w'.cell? ⟨lb, lo + 2, none⟩ = some (.int .i64 0) ∧ w'.cell? ⟨B + 1, 0, none⟩ = some (.int .i64 n)) (first | go_keep | exact ⟨(hb5.cell (p := ⟨lb, lo, none⟩) hlb).trans t00, (hb5.cell (p := ⟨lb, lo + 1, none⟩) hlb).trans t01, (hb5.cell (p := ⟨lb, lo + 2, none⟩) hlb).trans t02, (hb5.cell (p := ⟨B + 1, 0, none⟩) hB1).trans e0⟩) ((go_at_call 40; refine (token_any _ _ _ _).mono ?_; rintro e w5 ⟨rfl, hb5⟩))
          have hb5' : Below w4.heap.size w4 w5 := (Below.refl _ w4).drew.trans hb5
          have t10 := (hb5'.cell (p := ⟨lb, lo + 3, none⟩) hlb).trans t10
          have t11 := (hb5'.cell (p := ⟨lb, lo + 3 + 1, none⟩) hlb).trans t11
          have t12 := (hb5'.cell (p := ⟨lb, lo + 3 + 2, none⟩) hlb).trans t12
          have bx5 := bx3.below hb5'
          have hm5 := hm3.below hb5'
          have bb := bb.trans (hb5'.mono bb.size)
          clear hb5 hb5' t00 t01 t02 d0 d1 d2 d3 d4 e0 e1 bx3 hm3 hB1 hne
          go_wp2_with fail
          refine (FC.out _).mono ?_
          rintro e w6 ⟨rfl, hb6⟩
          have bx6 := bx5.below hb6
          have hm6 := hm5.below hb6
          have bb := bb.trans (hb6.mono bb.size)
          clear hb6 bx5 hm5 t10 t11 t12
          go_upto_region 10 with fail
          have b7 := below_box2 w6 (.cells #[.int .i64 k, .int .i64 p, .int .i64 q, .bool false, .string ⟨#[]⟩] 57) (.cells #[.int .i64 n.natAbs, .string s] 59)
          have L7 := lb_box w6 k p q false ⟨#[]⟩ n.natAbs s
          generalize (w6.alloc (.cells #[.int .i64 k, .int .i64 p, .int .i64 q, .bool false, .string ⟨#[]⟩] 57)).alloc (.cells #[.int .i64 n.natAbs, .string s] 59) = w7 at b7 L7 ⊢
          have bx7 := bx6.below b7
          have hm7 := hm6.below b7
          have bb := bb.trans (b7.mono bb.size)
          generalize w6.heap.size = B6 at L7 ⊢
          clear b7 bx6 hm6
          obtain ⟨d0, d1, d2, d3, d4, e0, e1⟩ := bx7.tv
          obtain ⟨a0, a1, a2, a3, a4, f0, f1⟩ := L7.cells
          have hneT := neqType k p q false ⟨#[]⟩
          have hneV := neqValue n.natAbs s
          go_wp2_with fail
          go_meet
          case rel => exact ⟨bx7, bb, hm7⟩
        · rw [if_neg hneg] at T4
          obtain ⟨ao, cap, rfl, hT⟩ := T4
          obtain ⟨lb, lo, rfl, hlb, hT⟩ := hT (by simp)
          have t10 : w4.cell? ⟨lb, lo + 0 * 3 + 0, none⟩ = some (.int .i64 g1) := hT 0 (by simp) 0 _ rfl
          have t11 : w4.cell? ⟨lb, lo + 0 * 3 + 1, none⟩ = some (.string g2) := hT 0 (by simp) 1 _ rfl
          have t12 : w4.cell? ⟨lb, lo + 0 * 3 + 2, none⟩ = some (.int .i64 0) := hT 0 (by simp) 2 _ rfl
          simp only [Nat.zero_mul, Nat.add_zero] at t10 t11 t12
          have hnd : decide (n < 0) = false := decide_eq_false hneg
          clear hT
          simp only [List.nil_append, List.map_cons, List.map_nil, List.length_cons, List.length_nil, Nat.zero_add]
          go_wp2_with fail
          go_quiet (fail)
          have bx5 : LX (w4.drewN nq) B k p q false ⟨#[]⟩ n s k' t a := ⟨bx3.h0, bx3.h1, bx3.h2⟩
          have hm5 : ML (w4.drewN nq) := hm3
          have t10 : (w4.drewN nq).cell? ⟨lb, lo, none⟩ = some (.int .i64 g1) := t10
          have t11 : (w4.drewN nq).cell? ⟨lb, lo + 1, none⟩ = some (.string g2) := t11
          have t12 : (w4.drewN nq).cell? ⟨lb, lo + 2, none⟩ = some (.int .i64 0) := t12
          have bb := below_drewN bb nq
          generalize w4.drewN nq = w5 at bx5 hm5 t10 t11 t12 bb ⊢
          clear d0 d1 d2 d3 d4 e0 e1 bx3 hm3
          go_wp2_with fail
          refine (FC.out _).mono ?_
          rintro e w6 ⟨rfl, hb6⟩
          have bx6 := bx5.below hb6
          have hm6 := hm5.below hb6
          have bb := bb.trans (hb6.mono bb.size)
          clear hb6 bx5 hm5 t10 t11 t12
          go_upto_region 10 with fail
          have b7 := below_box2 w6 (.cells #[.int .i64 k, .int .i64 p, .int .i64 q, .bool false, .string ⟨#[]⟩] 57) (.cells #[.int .i64 n.natAbs, .string s] 59)
          have L7 := lb_box w6 k p q false ⟨#[]⟩ n.natAbs s
          generalize (w6.alloc (.cells #[.int .i64 k, .int .i64 p, .int .i64 q, .bool false, .string ⟨#[]⟩] 57)).alloc (.cells #[.int .i64 n.natAbs, .string s] 59) = w7 at b7 L7 ⊢
          have bx7 := bx6.below b7
          have hm7 := hm6.below b7
          have bb := bb.trans (b7.mono bb.size)
          generalize w6.heap.size = B6 at L7 ⊢
          clear b7 bx6 hm6
          obtain ⟨d0, d1, d2, d3, d4, e0, e1⟩ := bx7.tv
          obtain ⟨a0, a1, a2, a3, a4, f0, f1⟩ := L7.cells
          have hneT := neqType k p q false ⟨#[]⟩
          have hneV := neqValue n.natAbs s
          go_wp2_with fail
          go_meet
          case rel => exact ⟨bx7, bb, hm7⟩
      · go_wp2_with fail
        go_meet
        case rel => exact ⟨bx3, bb, hm3⟩
    case rest =>
      obtain ⟨bx4, bb, hm4⟩ := hcut
      clear hm3 bx3 T4 HL
      obtain ⟨c0, c1, c2⟩ := bx4.tok
      have hsp := fun W (h : ML W) => Spell_any k' t a (by omega) W h
      cases hck : checkI k' t with
      | false =>
        rw [hck] at hsp
        have HSP := Lib.hid hsp
        clear hsp hck
        go_wp2_with fail
        refine (HSP.out _ hm4).mono ?_
        rintro e w5 ⟨rfl, hb⟩
        have bb := bb.trans (hb.mono bb.size)
        clear hb c0 c1 c2 HSP
        go_wp2_with fail
        go_ret
        exact ⟨rfl, bb⟩
      | true =>
        obtain ⟨q1, q2, q3, q4⟩ := law_spelled k' t hck
        have hps : k' = 1 → spellI k' t = t := by rintro rfl; rfl
        have hsm : k' = 1 → ∀ s' : ByteArray, s'.data.toList = t.data.toList.map lowC → (scanR s').err = 0 ∧ (scanR s').at_ = 0 ∧ (scanR s').toks = [⟨1, t, 0⟩] := by
          rintro rfl s' h'
          exact law_small t hck s' h'
        have hasc : k' = 1 → ∀ (j : Nat) (b : UInt8), t.data.toList[j]? = some b → b.toNat < 128 := by
          rintro rfl j b h'
          have h1 : isNameI t = true := by unfold checkI at hck; rw [if_pos rfl] at hck; exact hck
          unfold isNameI nameI at h1
          simp at h1
          have h2 := List.all_eq_true.1 (allI_list h1.1.2) b (List.mem_of_getElem? h')
          have h3 := (part_low b)
          unfold partI alphI digI symI at h2
          simp at h2
          omega
        rw [hck] at hsp
        have hsp : ∀ W, ML W → Calls Tryd.prog 26 #[.agg #[.int .i64 k', .string t, .int .i64 a]] W fun e w' => e = .returned (.tuple #[.string (spellI k' t), .int .i64 0]) ∧ Below W.heap.size W w' := hsp
        generalize hs5 : spellI k' t = s5 at hsp q1 q2 q3 q4 hps
        have ft : ∀ W, ML W → Calls Tryd.prog 14 #[.string s5] W fun e w' => ∃ lv, e = .returned (.tuple #[lv, .int .i64 0, .int .i64 0]) ∧ TokRow w' lv [⟨k', t, 0⟩] ∧ Below W.heap.size W w' := by
          intro W h; have := Tokens_row s5 (by omega) W h; rw [q2, q3, outT_ok q2, q4] at this; exact this
        have HSP := Lib.hid hsp
        have FT := Lib.hid ft
        have HPS := Lib.hid hps
        have HSM := Lib.hid hsm
        have HAS := Lib.hid hasc
        clear hsp ft hck hps hsm hasc hs5 q2 q3 q4
        go_wp2_with fail
        refine (HSP.out _ hm4).mono ?_
        rintro e w5 ⟨rfl, hb⟩
        have bb := bb.trans (hb.mono bb.size)
        have hm5 := hm4.below hb
        have bx5 := bx4.below hb
        clear hb c0 c1 c2 HSP hm4 bx4
        go_wp2_with fail
        refine (FT.out _ hm5).mono ?_
        rintro e w6 ⟨lv2, rfl, T6, hb⟩
        have bb := bb.trans (hb.mono bb.size)
        have hm6 := hm5.below hb
        have bx6 := bx5.below hb
        clear hb hm5 bx5 FT
        obtain ⟨c0, c1, c2⟩ := bx6.tok
        go_wp2_with fail
        have b7 := below_box w6 (.cells #[.int .i64 k', .string t, .int .i64 a] 37)
        have n7 := heap_alloc_new w6 (.cells #[.int .i64 k', .string t, .int .i64 a] 37)
        have T7 := T6.below b7 (Nat.le_refl _)
        have hm7 := hm6.below b7
        have bx7 := bx6.below b7
        have bb := bb.trans (b7.mono bb.size)
        generalize w6.alloc (.cells #[.int .i64 k', .string t, .int .i64 a] 37) = w7 at b7 n7 T7 hm7 bx7 bb ⊢
        have R7 := TokRow.one n7
        have hal := alike_any lv2 _ _ _ w7 T7 R7 (by simp) (by simp)
        rw [show decide (([⟨k', t, 0⟩] : List T3).map T3.z = ([⟨k', t, a⟩] : List T3).map T3.z) = true from by simp [T3.z]] at hal
        clear b7 c0 c1 c2 n7 hm6 bx6 T6 R7
        refine hal.mono ?_
        rintro e w8 ⟨rfl, hb⟩
        have bb := bb.trans (hb.mono bb.size)
        have hm8 := hm7.below hb
        have bx8 := bx7.below hb
        have T8 := T7.below hb (Nat.le_refl _)
        clear hb hm7 bx7 T7 hal
        obtain ⟨c0, c1, c2⟩ := bx8.tok
        by_cases hk1 : k' = 1
        · subst hk1
          obtain rfl := HPS.out rfl
          have hlow := Tryd.strings_ToLower_ascii s5
          have fl : ∀ W, ML W → Calls Tryd.prog 14 #[.string ⟨(Lib.toLowerA s5.data.toList).toArray⟩] W fun e w' => ∃ lv, e = .returned (.tuple #[lv, .int .i64 0, .int .i64 0]) ∧ TokRow w' lv [⟨1, s5, 0⟩] ∧ Below W.heap.size W w' := by
            intro W h
            obtain ⟨q2, q3, q4⟩ := HSM.out rfl ⟨(Lib.toLowerA s5.data.toList).toArray⟩ (by show Lib.toLowerA _ = _; rw [lower_lowC])
            have := Tokens_row ⟨(Lib.toLowerA s5.data.toList).toArray⟩ (by show (Lib.toLowerA s5.data.toList).length ≤ _; rw [lower_lowC, List.length_map]; show s5.size ≤ _; omega) W h; rw [q2, q3, outT_ok q2, q4] at this; exact this
          have FL := Lib.hid fl
          have HA := HAS.out rfl
          have HA := Lib.hid HA
          clear fl HAS
          go_wp2_with fail
          refine (hlow _ (by omega) HA.out).mono ?_
          rintro e w9 ⟨rfl, hb⟩
          have bb := bb.trans (hb.mono bb.size)
          have hm9 := hm8.below hb
          have T9 := T8.below hb (Nat.le_refl _)
          clear hb c0 c1 c2 bx8 hlow
          go_wp2_with fail
          refine (FL.out _ hm9).mono ?_
          rintro e w10 ⟨lv3, rfl, T10, hb⟩
          have bb := bb.trans (hb.mono bb.size)
          have T11 := T9.below hb (Nat.le_refl _)
          clear hb hm9 FL
          have hal2 := alike_any lv3 _ _ _ w10 T10 T11 (by simp) (by simp)
          rw [decide_eq_true rfl] at hal2
          go_wp2_with fail
          refine hal2.mono ?_
          rintro e w12 ⟨rfl, hb⟩
          have bb := bb.trans (hb.mono bb.size)
          go_wp2_with fail
          go_ret
          exact ⟨rfl, bb⟩
        · have hk1' : (k' != 1) = true := by rw [bne_iff_ne]; exact hk1
          go_wp2_with fail
          go_ret
          exact ⟨rfl, bb⟩
end Go.Proofs.YtafofcenphopbaaDoor
namespace Go.Proofs.YtafofcenphopbaaDoor
open Go.Joins Go.ChangeShapes Go.WideShapes Go.RowKit Go.Deep

section
variable {H : Type} {enc : TypeId × Value → H}
set_option maxRecDepth 100000 in
theorem open_token {r : Reach} {b0 base : Nat} {spare : Nat → Bool} {held : Bool} {w : World} {v : Value} {d : DataW H} {ps : List MemPlace} (hval : Value.okWide Tryd.prog w r b0 37 v) (hd : DataW.Trod enc Tryd.prog w base spare held 37 v d ps) :
    ∃ (k : Int) (t : ByteArray) (a : Int), v = .agg #[.int .i64 k, .string t, .int .i64 a] := by
  obtain ⟨v0, v1, v2, y0, y1, y2, n, rfl, _, _, t0, t1, t2⟩ := open_agg3 Tryd.underlying37 (by kernel_rfl) (by kernel_rfl) hval hd
  obtain ⟨a0, e0, _⟩ := DataW.trod_int Tryd.underlying3 t0
  obtain ⟨a1, e1, _⟩ := DataW.trod_string Tryd.underlying9 t1
  obtain ⟨a2, e2, _⟩ := DataW.trod_int Tryd.underlying3 t2
  cases e0; cases e1; cases e2
  exact ⟨_, _, _, rfl⟩
theorem open_agg5 {P : Program} {w : World} {base : Nat} {spare : Nat → Bool} {held : Bool} {r : Reach} {b0 : Nat} {t : TypeId} {f0 f1 f2 f3 f4 : Field} {v : Value} {d : DataW H} {p : List MemPlace} (hs : P.underlying t = some (.struct #[f0, f1, f2, f3, f4])) (hone : oneCellFields P #[f0, f1, f2, f3, f4] = true) (hC : P.cellsOf t = 5)
    (hv : Value.okWide P w r b0 t v) (h : DataW.Trod enc P w base spare held t v d p) :
    ∃ (v0 v1 v2 v3 v4 : Value) (y0 y1 y2 y3 y4 : DataW H × List MemPlace) (n : Nat), v = .agg #[v0, v1, v2, v3, v4] ∧
      DataW.trod enc P w base spare held n f0.type [v0] = some y0 ∧ DataW.trod enc P w base spare held n f1.type [v1] = some y1 ∧ DataW.trod enc P w base spare held n f2.type [v2] = some y2 ∧ DataW.trod enc P w base spare held n f3.type [v3] = some y3 ∧ DataW.trod enc P w base spare held n f4.type [v4] = some y4 := by
  obtain ⟨cs, rfl, hsz⟩ := okWide_struct hs hv
  have hsz := hsz.trans hC
  obtain ⟨l⟩ := cs
  match l, hsz with
  | [c0, c1, c2, c3, c4], _ =>
    obtain ⟨fuel, hf⟩ := h
    obtain ⟨xs, n, _, _, hl, hlen, hg⟩ := DataW.trod_struct hs hf
    match xs, hlen with
    | [y0, y1, y2, y3, y4], _ =>
      obtain ⟨o0, k0⟩ := hone_of hone 0 f0 rfl
      obtain ⟨o1, k1⟩ := hone_of hone 1 f1 rfl
      obtain ⟨o2, k2⟩ := hone_of hone 2 f2 rfl
      obtain ⟨o3, k3⟩ := hone_of hone 3 f3 rfl
      obtain ⟨o4, k4⟩ := hone_of hone 4 f4 rfl
      have g0 := hg 0 f0 rfl
      have g1 := hg 1 f1 rfl
      have g2 := hg 2 f2 rfl
      have g3 := hg 3 f3 rfl
      have g4 := hg 4 f4 rfl
      exact ⟨c0, c1, c2, c3, c4, y0, y1, y2, y3, y4, n, rfl, by simpa [Value.cells, o0, k0] using g0, by simpa [Value.cells, o1, k1] using g1, by simpa [Value.cells, o2, k2] using g2, by simpa [Value.cells, o3, k3] using g3, by simpa [Value.cells, o4, k4] using g4⟩
set_option maxRecDepth 100000 in
theorem open_type {r : Reach} {b0 base : Nat} {spare : Nat → Bool} {held : Bool} {w : World} {v : Value} {d : DataW H} {ps : List MemPlace} (hval : Value.okWide Tryd.prog w r b0 57 v) (hd : DataW.Trod enc Tryd.prog w base spare held 57 v d ps) :
    ∃ (k p q : Int) (vary : Bool) (pic : ByteArray), v = .agg #[.int .i64 k, .int .i64 p, .int .i64 q, .bool vary, .string pic] := by
  obtain ⟨v0, v1, v2, v3, v4, y0, y1, y2, y3, y4, n, rfl, t0, t1, t2, t3, t4⟩ := open_agg5 Tryd.underlying57 (by kernel_rfl) (by kernel_rfl) hval hd
  obtain ⟨a0, e0, _⟩ := DataW.trod_int Tryd.underlying3 t0
  obtain ⟨a1, e1, _⟩ := DataW.trod_int Tryd.underlying3 t1
  obtain ⟨a2, e2, _⟩ := DataW.trod_int Tryd.underlying3 t2
  obtain ⟨a3, e3, _⟩ := DataW.trod_bool Tryd.underlying4 t3
  obtain ⟨a4, e4, _⟩ := DataW.trod_string Tryd.underlying9 t4
  cases e0; cases e1; cases e2; cases e3; cases e4
  exact ⟨_, _, _, _, _, rfl⟩
set_option maxRecDepth 100000 in
theorem open_value {r : Reach} {b0 base : Nat} {spare : Nat → Bool} {held : Bool} {w : World} {v : Value} {d : DataW H} {ps : List MemPlace} (hval : Value.okWide Tryd.prog w r b0 59 v) (hd : DataW.Trod enc Tryd.prog w base spare held 59 v d ps) :
    ∃ (n : Int) (s : ByteArray), (-9223372036854775808 ≤ n ∧ n ≤ 9223372036854775807) ∧ v = .agg #[.int .i64 n, .string s] := by
  obtain ⟨v0, v1, y0, y1, n, rfl, _, _, t0, t1⟩ := open_agg2 Tryd.underlying59 (by kernel_rfl) (by kernel_rfl) hval hd
  obtain ⟨a0, e0, _, wn⟩ := DataW.trod_int Tryd.underlying3 t0
  obtain ⟨a1, e1, _⟩ := DataW.trod_string Tryd.underlying9 t1
  cases e0; cases e1
  refine ⟨_, _, ?_, rfl⟩
  have : IntKind.i64.min ≤ a0 ∧ a0 ≤ IntKind.i64.max := by simpa [Lit.wf] using wn
  simpa [IntKind.min, IntKind.max, IntKind.signed, IntKind.bits] using this
def laid3 : List (String × DataW Unit) := Rows.lexLiteralsRow.laid
set_option maxRecDepth 100000 in
theorem shaped3 (os : Os) : (World.laidAll Tryd.prog os laid3).Shaped Tryd.prog := World.shaped_of_ZipB (by kernel_rfl) (by kernel_rfl)
theorem laidO : laidOutB Tryd.prog = true := by kernel_rfl
end
end Go.Proofs.YtafofcenphopbaaDoor
namespace Go.Proofs.YtafofcenphopbaaDoor
open Go.ChangeShapes Go.WideShapes Go.ChangeAt Go.RowKit
open Go.ChangeMaps (open_string shut_string)
set_option maxHeartbeats 4000000 in
set_option maxRecDepth 100000 in
theorem LexLiterals_lifted (os : Os) (started : os.Started) (H : Type) (enc : TypeId × Value → H) :
    ReturnsInHanded {} Tryd.checked os 12 .any (fun w args => (Rows.lexLiteralsSpec.pre enc Tryd.prog Tryd.f12 [] false w args ∧ laidMetH Tryd.prog laid3 w) ∧ sizedMet enc Tryd.prog Tryd.f12 (OpenSpec.ofChange Rows.lexLiteralsSpec) false w args)
      (Rows.lexLiteralsSpec.post enc Tryd.prog Tryd.f12 false true false false) := by
  refine handed_of (C := Tryd.checked) (X := fun w _ => laidMetH Tryd.prog laid3 w) ownN started (by kernel_rfl) Tryd.func12
    (ChangeSpec.witness_shaped (enc := enc) (C := Tryd.checked) (os := os) (X := fun w _ => laidMetH Tryd.prog laid3 w) false (World.laidAll Tryd.prog os laid3) #[.agg #[.int .i64 0, .int .i64 0, .int .i64 0, .bool false, .string ⟨#[]⟩], .agg #[.int .i64 0, .string ⟨#[]⟩], .agg #[.int .i64 0, .string ⟨#[]⟩, .int .i64 0]] 8 (World.laidAll_os _ _ _)
      (shaped3 os) (by kernel_rfl) (by kernel_rfl) (by kernel_rfl)
      (by rw [MakeChecks.laidMetH_plain _ _ _ (by kernel_rfl)]; exact laidMet_laidAll _ (by kernel_rfl) (by kernel_rfl))) ?_
  intro W base args ds gs before hval0 hW _ hsh
  have hval : ∀ (j : Nat) t v, Tryd.f12.params[j]? = some t → args[j]? = some v → Value.okWide Tryd.prog W .any base t v := hval0
  have hW' := hW
  obtain ⟨p, q, hA0, hV, rfl, _, _⟩ := hW
  have hA : DataW.TrodAll enc Tryd.prog W 0 (fun _ => true) true Tryd.f12.params.toList args.toList ds p := hA0
  rw [Tryd.params12] at hA hval
  obtain ⟨v0, v1, v2, d0, d1, d2, p0, p1, p2, rfl, rfl, rfl, h0, h1, h2⟩ := trodAll_three hA
  obtain ⟨rfl, rfl⟩ := trodVars_none hV
  obtain ⟨k2, tp, tq, vy, pic, rfl⟩ := open_type (hval 0 _ v0 rfl rfl) h0
  obtain ⟨n3, s3, _, rfl⟩ := open_value (hval 1 _ v1 rfl rfl) h1
  obtain ⟨k1, x1, y1, rfl⟩ := open_token (hval 2 _ v2 rfl rfl) h2
  refine (LexLiterals_walk k2 tp tq vy pic n3 s3 k1 x1 y1 W (ml_of hsh)).mono fun e W' ⟨he, hb⟩ => ?_
  subst he
  have hlt : ∀ x ∈ (p0 ++ p1 ++ p2) ++ [], x.block < W.heap.size := fun x hx => hW'.lt x hx
  exact ⟨_, rfl, law_post hW' rfl rfl rfl (fun sp hsp => by
    rw [Tryd.params12]
    rw [List.append_nil] at hsp hlt ⊢
    rw [List.append_assoc]
    exact trodAll_mk3 (WideElems.Trod_stays laidO (by kernel_rfl) (of_decide_eq_true (by kernel_rfl)) h0 (fun x hx => hb.same (hlt x (by simp [hx]))) (fun x hx => hsp x (by simp [hx])))
      (WideElems.Trod_stays laidO (by kernel_rfl) (of_decide_eq_true (by kernel_rfl)) h1 (fun x hx => hb.same (hlt x (by simp [hx]))) (fun x hx => hsp x (by simp [hx])))
      (WideElems.Trod_stays laidO (by kernel_rfl) (of_decide_eq_true (by kernel_rfl)) h2 (fun x hx => hb.same (hlt x (by simp [hx]))) (fun x hx => hsp x (by simp [hx])))) hb⟩
theorem LexLiterals_of : Rows.LexLiteralsSaid :=
  OpenClaim.holds_of_wide 12 Tryd.f12 rfl rfl rfl rfl rfl rfl rfl ⟨rfl, rfl, rfl, rfl, rfl⟩ rfl rfl rfl rfl rfl (by kernel_rfl) Tryd.func12 (by kernel_rfl)
    (of_decide_eq_true (by kernel_rfl)) (by unfold Func.isWrapper; first | (rw [if_pos (by decide +kernel)]; kernel_rfl) | (rw [if_neg (by decide +kernel)]; exact ⟨rfl, rfl⟩))
    (fun os started H enc _ => LexLiterals_lifted os started H enc)
theorem LexLiterals_card : Rows.LexLiteralsCardSaid :=
  Claim7.holds_tied_plain_at .later [] [.data, .pinned, .pinned] true (true, "f40295a80fe7fbb65fab62bd1a51a68503d2ab629acf0fbbcf25ec75d55f1d18") false LexLiterals_of (fun _ h => by cases h) (by kernel_rfl) (fun _ h => by cases h) lexLiterals_row_tie rfl ⟨rfl, rfl⟩ (by kernel_rfl) rfl
    (fun f fn hf hfn => by
      obtain rfl : f = 12 := Option.some.inj ((show Tryd.prog.funcNamed "pliant/pliantlaw05.LexLiterals" = some 12 by kernel_rfl).symm.trans hf) |>.symm
      obtain rfl : fn = Tryd.f12 := (Option.some.inj (Tryd.func12.symm.trans hfn)).symm
      exact ⟨by kernel_rfl, fun j t ht => by
        rw [Tryd.params12] at ht
        have hm : t ∈ [57, 59, 37] := by have := Array.mem_of_getElem? ht; simp at this; simp; omega
        have hall : ([57, 59, 37].all fun u => !Tryd.prog.wantsStandIn u) = true := by kernel_rfl
        exact (show Tryd.prog.wantsStandIn t = false by simpa using List.all_eq_true.1 hall t hm)⟩)
    (by kernel_rfl)
theorem LexLiterals_holds : Rows.LexLiteralsCardSaid := LexLiterals_card
end Go.Proofs.YtafofcenphopbaaDoor
