/- Walks: Tokens, Comments, Strip. -/
import Derived.Test.YtafofcenphopbaaGreatDoorA11
import Derived.Shelf.Strings.BuilderK
namespace Go.Proofs.YtafofcenphopbaaGreatDoor
open Go.RowKit Lx

def TokensQ (s : ByteArray) (w : World) (e : Ending) (w' : World) : Prop :=
  ∃ lv, e = .returned (.tuple #[lv, .int .i64 (scanR s).at_, .int .i64 (scanR s).err]) ∧ w'.ownsRow w.heap.size 24 3 lv (outT s).length (tcells (outT s)) ∧ Below w.heap.size w w'
def CommentsQ (s : ByteArray) (w : World) (e : Ending) (w' : World) : Prop :=
  ∃ cv, e = .returned (.tuple #[cv, .int .i64 (scanR s).at_, .int .i64 (scanR s).err]) ∧ w'.ownsRow w.heap.size 69 2 cv (outC s).length (ccells (outC s)) ∧ Below w.heap.size w w'

set_option maxHeartbeats 1000000 in
theorem Tokens_any (s : ByteArray) (hs : s.size ≤ 140737488351232) (w : World) (hml : ML w) : Calls Tryz.prog 19 #[.string s] w (TokensQ s w) := by
  go_enter Tryz.func19, Tryz.ntmps19
  go_wp2_with (go_at_call 56; refine (scan_any s hs _ hml).mono ?_; rintro e w' ⟨lv, cv, rfl, h1, h2, hb⟩)
  go_ret3
  exact ⟨lv, rfl, h1, hb⟩
set_option maxHeartbeats 1000000 in
theorem Comments_any (s : ByteArray) (hs : s.size ≤ 140737488351232) (w : World) (hml : ML w) : Calls Tryz.prog 31 #[.string s] w (CommentsQ s w) := by
  go_enter Tryz.func31, Tryz.ntmps31
  go_wp2_with (go_at_call 56; refine (scan_any s hs _ hml).mono ?_; rintro e w' ⟨lv, cv, rfl, h1, h2, hb⟩)
  go_ret3
  exact ⟨cv, rfl, h2, hb⟩

/-- (*strings.Builder).WriteString, out of the shelf. -/
theorem WriteString_any (B b : Nat) (bs : List Value) (s : ByteArray) (w : World) (h : Lib.IsBuilderF 75 5 B b bs w) (hlen : bs.length + s.size ≤ 140737488355328) (hBw : B ≤ w.heap.size) :
    Calls Tryz.prog 41 #[.pointer (some ⟨b, 0, none⟩), .string s] w fun e w' => e = .returned (.tuple #[.int .i64 s.size, .nilIface]) ∧ (Lib.BuilderAtF 75 5 B b (.pointer (some ⟨b, 0, none⟩)) (bs ++ Lib.strCells s) w' ∧ Below B w w' ∧ Lib.OthersKept 5 (some b) w w') :=
  Any.Builder_WriteString_k { Tryz.lays154 with } { Tryz.Builder_Extra_154 with } B b bs s w h hlen hBw

theorem ccells_get (cs : List (Nat × Nat)) : ∀ (k : Nat) (h : k < cs.length), (ccells cs)[k * 2]? = some (.int .i64 (cs[k]'h).1) ∧ (ccells cs)[k * 2 + 1]? = some (.int .i64 (cs[k]'h).2) := by
  induction cs with
  | nil => intro k h; cases h
  | cons c cs ih =>
    intro k h
    cases k with
    | zero => exact ⟨rfl, rfl⟩
    | succ k =>
      have := ih k (by simpa using h)
      rw [show (k + 1) * 2 = k * 2 + 1 + 1 from by omega]
      exact this
/-- A comment's two cells. -/
theorem com_cells {w : World} {B0 : Nat} {v : Value} {cs : List (Nat × Nat)} (h : w.ownsRow B0 69 2 v cs.length (ccells cs)) (hne : 0 < cs.length) : ∃ g cap, v = .slice (some ⟨g, 0, none⟩) cs.length cap ∧ cs.length ≤ cap ∧
    ∀ k (hk : k < cs.length), w.cell? ⟨g, k * 2, none⟩ = some (.int .i64 (cs[k]'hk).1) ∧ w.cell? ⟨g, k * 2 + 1, none⟩ = some (.int .i64 (cs[k]'hk).2) := by
  rcases h.2 with ⟨_, h0⟩ | ⟨g, cap, cur, rfl, hB, hg, hnc, hcm, hcs, htake⟩
  · omega
  · refine ⟨g, cap, rfl, hnc, fun k hk => ?_⟩
    obtain ⟨h1, h2⟩ := ccells_get cs k hk
    have a1 := h.cells (g := g) rfl _ _ h1
    have a2 := h.cells (g := g) rfl _ _ h2
    have e : ∀ n, (⟨g, 0, none⟩ : Addr).add n = ⟨g, n, none⟩ := fun n => by unfold Addr.add; split <;> simp_all
    rw [e] at a1 a2
    exact ⟨a1, a2⟩

theorem own_belowB {w w' : World} {B B0 n size : Nat} {e : TypeId} {v : Value} {xs : List Value} (hown : w.ownsRow B0 e size v n xs) (hl : ∀ g, v.ownBlock = some g → g < B) (hb : Below B w w') : w'.ownsRow B0 e size v n xs := by
  refine ⟨hown.1, ?_⟩
  rcases hown.2 with h | ⟨g, cap, cur, rfl, hB, hg, rest⟩
  · exact .inl h
  · exact .inr ⟨g, cap, cur, rfl, hB, (hb.block g (hl g rfl)).trans hg, rest⟩
theorem chain_le {n i : Nat} {cs : List (Nat × Nat)} (h : Chain n i cs) : i ≤ n := by
  induction cs generalizing i with
  | nil => exact h
  | cons c cs ih => have := ih h.2.2; have := h.1; have := h.2.1; omega
theorem chain_len {n i : Nat} {cs : List (Nat × Nat)} (h : Chain n i cs) : i + cs.length ≤ n := by
  induction cs generalizing i with
  | nil => exact h
  | cons c cs ih => have := ih h.2.2; have := h.1; have := h.2.1; rw [List.length_cons]; omega
theorem strip_cells (s : ByteArray) (i p : Nat) (h : i ≤ p) (hp : p ≤ s.size) : Lib.strCells (s.extract i p ++ ⟨#[32]⟩) = Lib.byteCells ((s.data.toList.drop i).take (p - i) ++ [32]) := by
  rw [Lib.strCells_eq, extract_take s i p h hp]
  simp
theorem scanU_at0 (f : Nat) : ∀ (l : Bs) (i nt : Nat), (scanU f l i nt).err = 0 → (scanU f l i nt).at_ = 0 := by
  induction f with
  | zero => intro l i nt _; rfl
  | succ f ih =>
    intro l i nt
    unfold scanU
    repeat' split
    all_goals (intro h; first | rfl | exact absurd (show (50 : Int) = 0 from h) (by decide) | exact absurd (show (2 : Int) = 0 from h) (by decide) | exact ih _ _ _ h)
theorem scanR_at0 (s : ByteArray) (h : (scanR s).err = 0) : (scanR s).at_ = 0 := by
  unfold scanR at h ⊢
  split at h
  · cases h
  · rename_i hn; rw [if_neg hn]; exact scanU_at0 _ _ _ _ h
def StripQ (s : ByteArray) (w : World) (e : Ending) (w' : World) : Prop :=
  e = .returned (.tuple #[.string (stripR s), .int .i64 (scanR s).at_, .int .i64 (scanR s).err]) ∧ Below w.heap.size w w'

set_option maxHeartbeats 2000000 in
set_option maxRecDepth 100000 in
theorem Strip_any (s : ByteArray) (hs : s.size ≤ 140737488351232) (w : World) (hml : ML w) : Calls Tryz.prog 32 #[.string s] w (StripQ s w) := by
  by_cases he : (scanR s).err = 0
  · have hsm := scanR_small he
    have hch := scanR_chain s he
    obtain ⟨cs, hcs⟩ : ∃ cs, cs = (scanR s).coms := ⟨_, rfl⟩
    have hat : outC s = cs := by unfold outC; rw [if_pos he, hcs]
    have hst : stripR s = ⟨(stripL s.data.toList 0 cs).toArray⟩ := by unfold stripR; rw [if_pos he, hcs]
    rw [← hcs] at hch
    have HST := Lib.hid hst
    have HAT := Lib.hid hat
    have HCH := Lib.hid hch
    have hlen := chain_len hch
    have HE := Lib.hid he
    clear hst hat hch hcs he
    go_enter Tryz.func32, Tryz.ntmps32
    go_wp2_with (go_at_call 56; refine (scan_any s hs _ hml).mono ?_; rintro e w1 ⟨lv, cv, rfl, h1, h2, hb⟩; rw [HAT.out] at h2; rw [HE.out]; obtain ⟨ao, cap, rfl⟩ := own_form h2)
    have hb2 := hb.alloc hb.size (.cells #[.pointer none, .slice none 0 0] 75)
    have own2 := h2.alloc (.cells #[.pointer none, .slice none 0 0] 75)
    have bld2 : Lib.IsBuilderF 75 5 w1.heap.size w1.heap.size (Lib.byteCells []) (w1.alloc (.cells #[.pointer none, .slice none 0 0] 75)) :=
      .of <| .inl ⟨Nat.le_refl _, _, heap_alloc_new w1 (.cells #[.pointer none, .slice none 0 0] 75), World.ownsRow_nil _ _ _ _, by simp [Value.ownBlock]⟩
    have bel2 : Below w1.heap.size (w1.alloc (.cells #[.pointer none, .slice none 0 0] 75)) (w1.alloc (.cells #[.pointer none, .slice none 0 0] 75)) := Below.refl _ _
    have hz2 : w1.heap.size < (w1.alloc (.cells #[.pointer none, .slice none 0 0] 75)).heap.size := by simp
    generalize w1.alloc (.cells #[.pointer none, .slice none 0 0] 75) = w2 at hb2 own2 bld2 bel2 hz2 ⊢
    have hBw := hb.size
    have gl : ∀ g, (Value.slice ao cs.length cap).ownBlock = some g → g < w1.heap.size := fun g h => (h2.lt g h).2
    generalize w1.heap.size = B at bld2 bel2 hz2 hBw gl ⊢
    go_loopw [10, 26] (fun f q wr => ∃ (k from_ : Nat) (acc : Bs), k ≤ cs.length ∧ q = .int .i64 k ∧ f = .int .i64 from_ ∧ from_ ≤ s.size ∧ acc.length ≤ 2 * from_ ∧ Chain s.size from_ (cs.drop k) ∧
      stripL s.data.toList 0 cs = acc ++ stripL s.data.toList from_ (cs.drop k) ∧ Lib.IsBuilderF 75 5 B B (Lib.byteCells acc) wr ∧ Below B w2 wr) (fun _ q _ => cs.length - (intOf q).toNat)
    case atStart => exact ⟨0, 0, [], Nat.zero_le _, rfl, rfl, Nat.zero_le _, Nat.le_refl _, HCH.out, rfl, bld2, bel2⟩
    case round =>
      obtain ⟨k, from_, acc, hk, rfl, rfl, hfs, hacc, hch, hq, bld, bel⟩ := hrel
      have HQ := Lib.hid hq
      have HC := Lib.hid hch
      have hBr : B ≤ wr.heap.size := by have := bel.size; omega
      clear hq hch bld2 bel2
      by_cases hlt : k < cs.length
      · have ownr := own_belowB own2 gl bel
        obtain ⟨g, cap', hv, hcap, hcell⟩ := com_cells ownr (by omega)
        have hdrop : cs.drop k = cs[k] :: cs.drop (k + 1) := List.drop_eq_getElem_cons hlt
        have hch := HC.out
        rw [hdrop] at hch
        obtain ⟨hc1, hc2, hc3⟩ := hch
        obtain ⟨c0, c1⟩ := hcell k hlt
        have hcs1 := chain_le hc3
        injection hv with hv1 hv2 hv3
        subst hv1
        have hs1 : ∀ o, (wr.alloc o).cell? ⟨wr.heap.size, 0, none⟩ = (wr.alloc o).cell? ⟨wr.heap.size, 0, none⟩ := fun _ => rfl
        generalize hp : cs[k] = p at c0 c1 hc1 hc2 hc3 hcs1 hdrop
        obtain ⟨p1, p2⟩ := p
        simp only at c0 c1 hc1 hc2 hc3 hcs1
        have HD := Lib.hid hdrop
        have x1 : (from_ : Int) ≤ (p1 : Int) := by omega
        have x2 : (p1 : Int) ≤ (s.size : Int) := by omega
        have x3 : (k : Int) < (cs.length : Int) := by omega
        have hws := fun W (h : Lib.IsBuilderF 75 5 B B (Lib.byteCells acc) W) (hz : B ≤ W.heap.size) => WriteString_any B B (Lib.byteCells acc) (s.extract from_ p1 ++ ⟨#[32]⟩) W h (by rw [Lib.byteCells_length, ByteArray.size_append, ByteArray.size_extract]; show _ + (_ + 1) ≤ _; omega) hz
        have HWS := Lib.hid hws
        clear hp hdrop hv2 hv3 hs1 hcell hws
        go_wp2_with fail
        refine (HWS.out _ (bld.alloc _) (by simp; omega)).mono ?_
        rintro e w' ⟨rfl, hat, hbel, hk⟩
        have hbox : w'.heap[wr.heap.size]? = some (.cells #[.int .i64 p1, .int .i64 p2] 69) := hk _ _ (heap_alloc_new wr _) (by intro e; injection e with e; have := bel.size; omega) (by intro c fz e; injection e with e1 e2 e3; exact absurd e2 (by decide))
        have hbw : Below B w2 w' := (bel.alloc hBr _).trans hbel
        have d1 : w'.cell? ⟨wr.heap.size, 1, none⟩ = some (.int .i64 p2) := by rw [Lib.cell_of_heap hbox]; rfl
        clear hbox hk hbel bld HWS
        go_wp2_with fail
        go_roundw
        case rel =>
          refine ⟨k + 1, p2, acc ++ ((s.data.toList.drop from_).take (p1 - from_) ++ [32]), hlt, by go_num, rfl, hcs1, ?_, hc3, ?_, .inr ?_, hbw⟩
          · simp only [List.length_append, List.length_take, List.length_drop, List.length_cons, List.length_nil]; omega
          · rw [HQ.out, HD.out]; simp [stripL]
          · rw [Lib.byteCells_append, ← strip_cells s from_ p1 hc1 (by omega)]; exact hat
        case measure => simp [intOf]; omega
      · have hke : k = cs.length := by omega
        subst hke
        have hdrop : cs.drop cs.length = [] := List.drop_eq_nil_of_le (Nat.le_refl _)
        have hq := HQ.out
        rw [hdrop] at hq
        have HQ := Lib.hid hq
        clear hq hdrop HC
        have hws := fun W (h : Lib.IsBuilderF 75 5 B B (Lib.byteCells acc) W) (hz : B ≤ W.heap.size) => WriteString_any B B (Lib.byteCells acc) (s.extract from_ s.size) W h (by rw [Lib.byteCells_length, ByteArray.size_extract]; omega) hz
        have HWS := Lib.hid hws
        clear hws
        have x1 : (from_ : Int) ≤ (s.size : Int) := by omega
        go_wp2_with fail
        refine (HWS.out _ bld hBr).mono ?_
        rintro e w' ⟨rfl, hat, hbel, hk⟩
        have hbw := bel.trans hbel
        rw [show s.extract from_ s.size = ⟨(s.data.toList.drop from_).toArray⟩ from by rw [extract_take s from_ s.size hfs (Nat.le_refl _), List.take_of_length_le (by simp)], show Lib.strCells ⟨(s.data.toList.drop from_).toArray⟩ = Lib.byteCells (s.data.toList.drop from_) from by simp [Lib.strCells_eq], ← Lib.byteCells_append] at hat
        clear HWS hk hbel bld bel
        have hBz := hbw.size
        go_wp2_with (go_at_call 44; refine (Any.Builder_String_any_f { Tryz.lays169 with } { Tryz.Builder_Extra_169 with } B B _ _ (.inr hat) (by omega)).mono ?_; rintro e w'' ⟨rfl, hbf, hb3⟩)
        go_ret3
        refine ⟨?_, (hb2.trans (hbw.mono hBw)).trans (hb3.mono hBw)⟩
        rw [HST.out, HQ.out, HE.out, scanR_at0 s HE.out]
        rfl
  · have hst : stripR s = ⟨#[]⟩ := by unfold stripR; rw [if_neg he]
    have HST := Lib.hid hst
    have hne : ((scanR s).err != 0) = true := by rw [bne_iff_ne]; exact he
    clear hst he
    go_enter Tryz.func32, Tryz.ntmps32
    go_wp2_with (go_at_call 56; refine (scan_any s hs _ hml).mono ?_; rintro e w1 ⟨lv, cv, rfl, h1, h2, hb⟩)
    go_ret3
    exact ⟨by rw [HST.out]; rfl, hb⟩
end Go.Proofs.YtafofcenphopbaaGreatDoor
