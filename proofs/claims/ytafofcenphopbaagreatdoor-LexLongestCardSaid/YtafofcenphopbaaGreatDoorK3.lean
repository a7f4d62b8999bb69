/- pieces: the tokens and comments of a source, sorted. -/
import Derived.Test.YtafofcenphopbaaGreatDoorA35
import Derived.Test.YtafofcenphopbaaGreatDoorA37
import Derived.Test.YtafofcenphopbaaGreatDoorK2
import Derived.Test.YtafofcenphopbaaGreatDoorSort
import Derived.Shelf.SlSortCmp.NoneTotal
import Derived.Shelf.Strings.SlTrimAscii
import Derived.IntWalk
import Derived.Deep.RegionHeld3
namespace Go.Proofs.YtafofcenphopbaaGreatDoor
open Go.RowKit Lx

theorem h116 : (Tryz.prog.info? 98).map (fun i => (i.zero, i.size)) = some (some (.agg (Array.replicate 256 (.bool false))), 256) := by kernel_rfl
theorem two_ascii : ∀ (j : Nat) (b : UInt8), (⟨#[32, 10]⟩ : ByteArray).data.toList[j]? = some b → b.toNat < 128 := by
  intro j b h
  have h' : b ∈ ([32, 10] : List UInt8) := List.mem_of_getElem? h
  simp at h'
  rcases h' with rfl | rfl <;> decide
instance : Inhabited Tok := ⟨⟨0, ⟨#[]⟩, 0⟩⟩
theorem toks_le' (s : ByteArray) (h : (scanR s).err = 0) : (scanR s).toks.length ≤ 5000 := by
  obtain ⟨_, _, h3, h4⟩ := scanR_ok s h
  rw [h4]; show (itoks 0 _).length ≤ _; rw [itoks_ntok]; exact h3
theorem TrimRight_any (s : ByteArray) (hs : s.size ≤ 140737488351232) (w : World) : Calls Tryz.prog 57 #[.string s, .string ⟨#[32, 10]⟩] w fun e w' =>
    e = .returned (.string ⟨(Lib.trimRightS s.data.toList [32, 10]).toArray⟩) ∧ Below w.heap.size w w' :=
  Any.strings_TrimRight_laid Tryz.lays162 h116 s ⟨#[32, 10]⟩ w (by omega) (by decide) two_ascii
theorem Trim_any (s : ByteArray) (hs : s.size ≤ 140737488351232) (w : World) : Calls Tryz.prog 24 #[.string s, .string ⟨#[32, 10]⟩] w fun e w' =>
    e = .returned (.string ⟨(Lib.trimS s.data.toList [32, 10]).toArray⟩) ∧ Below w.heap.size w w' :=
  Any.strings_Trim_laid Tryz.lays160 h116 s ⟨#[32, 10]⟩ w (by omega) (by decide) two_ascii

/-- One piece against another. -/
def cmpP (x y : Nat × Nat) : Int := if x.1 < y.1 then -1 else if y.1 < x.1 then 1 else 0
theorem ltP (x y : Nat × Nat) : ltOf cmpP x y = decide (x.1 < y.1) := by
  unfold ltOf cmpP
  by_cases h1 : x.1 < y.1
  · simp [h1]
  · by_cases h2 : y.1 < x.1 <;> simp [h1, h2]
theorem swoP : Go.Sort.SWO (ltOf cmpP) where
  irrefl x := by rw [ltP]; simp
  trans x y z h1 h2 := by rw [ltP] at *; simp at *; omega
  ntrans x y z h1 h2 := by rw [ltP] at *; simp at *; omega
def encP (x : Nat × Nat) : List Value := [.int .i64 x.1, .int .i64 x.2]
set_option maxHeartbeats 1000000 in
theorem cmp_any (x y : Nat × Nat) (W : World) : Calls Tryz.prog 59 #[.agg #[.int .i64 x.1, .int .i64 x.2], .agg #[.int .i64 y.1, .int .i64 y.2]] W fun e w' => e = .returned (.int .i64 (cmpP x y)) ∧ ∃ q os', w' = Go.Sort.grow (W.drewN q) os' := by
  obtain ⟨x1, x2⟩ := x
  obtain ⟨y1, y2⟩ := y
  simp only
  have hend : ∀ r : Int, (cmpP (x1, x2) (y1, y2) = r) → (Ending.returned (.int .i64 r) = .returned (.int .i64 (cmpP (x1, x2) (y1, y2))) ∧ ∃ q os', (W.alloc (.cells #[.int .i64 x1, .int .i64 x2] 50)).alloc (.cells #[.int .i64 y1, .int .i64 y2] 50) = Go.Sort.grow (W.drewN q) os') := by
    intro r hr
    exact ⟨by rw [hr], 0, _, by rw [Go.Sort.alloc_eq_grow, Go.Sort.alloc_eq_grow, Go.Sort.grow_grow]; rfl⟩
  have HE := Lib.hid hend
  clear hend
  by_cases h1 : x1 < y1
  · have h1z : (x1 : Int) < (y1 : Int) := by omega
    have hc : cmpP (x1, x2) (y1, y2) = -1 := by unfold cmpP; simp [h1]
    have HC := Lib.hid hc
    clear hc
    go_enter Tryz.func59, Tryz.ntmps59
    go_wp2_with fail
    go_ret
    exact HE.out _ HC.out
  · have h1z : ¬ (x1 : Int) < (y1 : Int) := by omega
    by_cases h2 : y1 < x1
    · have h2z : (y1 : Int) < (x1 : Int) := by omega
      have hc : cmpP (x1, x2) (y1, y2) = 1 := by unfold cmpP; simp [h1, h2]
      have HC := Lib.hid hc
      clear hc
      go_enter Tryz.func59, Tryz.ntmps59
      go_wp2_with fail
      go_ret
      exact HE.out _ HC.out
    · have h2z : ¬ (y1 : Int) < (x1 : Int) := by omega
      have hc : cmpP (x1, x2) (y1, y2) = 0 := by unfold cmpP; simp [h1, h2]
      have HC := Lib.hid hc
      clear hc
      go_enter Tryz.func59, Tryz.ntmps59
      go_wp2_with fail
      go_ret
      exact HE.out _ HC.out
theorem cmpLaysP (blk off size : Nat) (w : World) : CmpLays Tryz.prog 59 #[] encP 2 cmpP blk off size w :=
  fun _ _ _ _ x y => cmp_any x y _

theorem below_sort {B blk off n : Nat} {w : World} {d : Array (Nat × Nat)} {os : Array Obj} (hB : B ≤ blk) (hlt : B ≤ w.heap.size) : Below B w (Go.Proofs.sortWorldK encP 2 w blk off n d os) := by
  have hz := size_sortWorldK_c encP 2 w blk off n d #[]
  refine ⟨rfl, rfl, rfl, size_sortWorldK_c encP 2 w blk off n d os, fun k hk => ?_⟩
  have e : (Go.Proofs.sortWorldK encP 2 w blk off n d os).heap = (Go.Proofs.sortWorldK encP 2 w blk off n d #[]).heap ++ os := by
    unfold sortWorldK Go.Sort.grow; simp
  rw [e, Array.getElem?_append_left (by omega)]
  have e2 : Go.Proofs.sortWorldK encP 2 w blk off n d #[] = Go.Sort.putRowK encP 2 (Go.Sort.ahead w n) blk off d := by unfold sortWorldK; rw [Go.Sort.grow_empty]
  rw [e2]
  show (w.heap.modify blk _)[k]? = _
  rw [Array.getElem?_modify, if_neg (by omega)]

theorem undPcs : Tryz.prog.underlying 46 = some (.slice 50) := by kernel_rfl
theorem infoPc : (Tryz.prog.info? 50).map (fun i => (i.zero, i.size, i.bytes)) = some (some (.agg #[.int .i64 0, .int .i64 0]), 2, 16) := by kernel_rfl
/-- A row of pairs: its cells. -/
theorem com_row2 {w : World} {v : Value} {cs : List (Nat × Nat)} (h : ComRow w v (comI cs)) : ∃ ao cap, v = .slice ao cs.length cap ∧ (0 < cs.length → ∃ b off, ao = some ⟨b, off, none⟩ ∧ b < w.heap.size ∧
    ∀ k (hk : k < cs.length), w.cell? ⟨b, off + k * 2, none⟩ = some (.int .i64 (cs[k]'hk).1) ∧ w.cell? ⟨b, off + k * 2 + 1, none⟩ = some (.int .i64 (cs[k]'hk).2)) := by
  obtain ⟨ao, cap, rfl, h⟩ := h
  have hl : (comI cs).length = cs.length := by simp [comI]
  refine ⟨ao, cap, by rw [hl], fun hne => ?_⟩
  obtain ⟨b, off, rfl, hlt, hc⟩ := h (by intro e; rw [e] at hl; simp at hl; omega)
  refine ⟨b, off, rfl, hlt, fun k hk => ?_⟩
  have e : (comI cs)[k]! = ((cs[k].1 : Int), (cs[k].2 : Int)) := by simp [comI, hk, getElem!_pos]
  have h0 := hc k (by rw [hl]; exact hk) 0
  have h1 := hc k (by rw [hl]; exact hk) 1
  rw [e] at h0 h1
  exact ⟨h0 _ rfl, h1 _ rfl⟩
theorem endC_succ (a e : Nat) (cs : List (Nat × Nat)) (m : Nat) (h : m < cs.length) : endC a e (cs.take (m + 1)) = if a ≤ (cs[m]'h).1 ∧ (cs[m]'h).1 < endC a e (cs.take m) then (cs[m]'h).1 else endC a e (cs.take m) := by
  rw [List.take_succ_eq_append_getElem h, endC_app]; rfl
theorem endC_le (a e : Nat) (cs : List (Nat × Nat)) : endC a e cs ≤ e := by
  unfold endC
  induction cs generalizing e with
  | nil => exact Nat.le_refl _
  | cons c cs ih =>
    rw [List.foldl_cons]
    split
    · rename_i h; exact Nat.le_trans (ih _) (by omega)
    · exact ih _
/-- The facts of each token, by its index. -/
structure TokF (s : ByteArray) (ts : List Tok) (cs tp : List (Nat × Nat)) (te : List Nat) : Prop where
  l1 : tp.length = ts.length
  l2 : te.length = ts.length
  at_ : ∀ k, k < ts.length → ts[k]!.at_ = (tp[k]!).1
  fin : ∀ k, k < ts.length → endC (tp[k]!).1 (if k + 1 < ts.length then (tp[k + 1]!).1 else s.size) cs = te[k]!
  lo : ∀ k, k < ts.length → (tp[k]!).1 < te[k]! ∧ te[k]! ≤ s.size ∧ (tp[k]!).2 ≤ te[k]! ∧ (tp[k]!).1 < (tp[k]!).2
  trim : ∀ k, k < ts.length → (Lib.trimRightS (s.extract (tp[k]!).1 te[k]!).data.toList [32, 10]).length = (tp[k]!).2 - (tp[k]!).1
theorem tokF_of (s : ByteArray) (he : (scanR s).err = 0) : TokF s (scanR s).toks (scanR s).coms (tps 0 (parse s.data.toList).1) (tes 0 (parse s.data.toList).1) ∧ (scanR s).coms.length ≤ s.size := by
  obtain ⟨h1, h2, h3, h4⟩ := scanR_ok s he
  have hp : parse (s.data.toList.drop 0) = ((parse s.data.toList).1, []) := by rw [List.drop_zero, ← h1]
  have hw : 0 + wid (parse s.data.toList).1 = s.data.toList.length := by rw [Nat.zero_add]; exact wid_all h1
  have hf := tok_facts s.data.toList (icoms 0 (parse s.data.toList).1) (parse s.data.toList).1 0 [] hp hw rfl (by intro c hc; cases hc)
  have hct := items_ct (show parse s.data.toList = ((parse s.data.toList).1, (parse s.data.toList).2) from rfl)
  rw [h4]
  simp only
  generalize (parse s.data.toList).1 = r at hp hw hf hct h3 ⊢
  obtain ⟨l1, l2, hk⟩ := hf
  have ta : ∀ k (h : k < (itoks 0 r).length), ((itoks 0 r)[k]!).at_ = ((tps 0 r)[k]!).1 := by
    intro k h
    have := (hk k h (by omega) (by omega)).1
    rw [getElem!_pos _ k h, getElem!_pos _ k (by omega)]; exact this.symm
  refine ⟨⟨l1, l2, ta, ?_, ?_, ?_⟩, ?_⟩
  · intro k h
    obtain ⟨a1, a2, _⟩ := hk k h (by omega) (by omega)
    rw [getElem!_pos _ k (show k < (tps 0 r).length by omega), getElem!_pos _ k (show k < (tes 0 r).length by omega), a1, ← a2]
    congr 1
    by_cases hl : k + 1 < (itoks 0 r).length
    · rw [if_pos hl, List.drop_eq_getElem_cons hl]
      show _ = ((itoks 0 r)[k + 1]).at_
      rw [← ta (k + 1) hl, getElem!_pos _ (k + 1) hl]
    · rw [if_neg hl, List.drop_of_length_le (by omega)]; rfl
  · intro k h
    obtain ⟨a1, _, a3, a4, a5, _⟩ := hk k h (by omega) (by omega)
    rw [getElem!_pos _ k (show k < (tps 0 r).length by omega), getElem!_pos _ k (show k < (tes 0 r).length by omega)]
    have : s.data.toList.length = s.size := rfl
    omega
  · intro k h
    obtain ⟨a1, _, a3, a4, a5, a6⟩ := hk k h (by omega) (by omega)
    rw [getElem!_pos _ k (show k < (tps 0 r).length by omega), getElem!_pos _ k (show k < (tes 0 r).length by omega)]
    rw [extract_list, a6, List.length_take, List.length_drop]
    omega
  · have hl := chain_len (icoms_chain s.data.toList r 0 (fun it hi => ?_) (by omega))
    · have : s.data.toList.length = s.size := rfl
      omega
    · have := parse_pos s.data.toList
      rw [List.drop_zero] at hp
      rw [hp] at this
      exact this it hi

theorem pcells_get : ∀ (ps : List (Nat × Nat)) (j : Nat), j < ps.length * 2 → (ccells ps)[j]? = some (encP ps[j / 2]!)[j % 2]! := by
  intro ps
  induction ps with
  | nil => intro j h; simp at h
  | cons p ps ih =>
    intro j h
    have e : ccells (p :: ps) = encP p ++ ccells ps := rfl
    rw [e]
    match j, h with
    | 0, _ => rfl
    | 1, _ => rfl
    | j + 2, h =>
      rw [List.getElem?_append_right (by simp [encP])]
      have := ih j (by simp only [List.length_cons] at h; omega)
      rw [show j + 2 - (encP p).length = j from by simp [encP], this]
      rw [show (j + 2) / 2 = j / 2 + 1 from by omega, show (j + 2) % 2 = j % 2 from by omega]
      rfl
theorem holds_own {w : World} {B g cap : Nat} {ps : List (Nat × Nat)} (h : w.ownsRow B 50 2 (.slice (some ⟨g, 0, none⟩) ps.length cap) ps.length (ccells ps)) : Go.Sort.HoldsK encP 2 w g 0 ps.toArray := by
  intro j hj
  rw [Go.Sort.size_flatK] at hj
  have hj' : j < ps.length * 2 := by simpa using hj
  refine ⟨?_, ?_⟩
  · rw [Nat.zero_add, h.cellAt j hj', pcells_get ps j hj', id, Go.Sort.get_flatK encP 2 ps.toArray j hj]
    congr 3
    simp
  · rw [Nat.zero_add]; exact h.frozenAt j
theorem eg59 : ∀ args w, (callFunc 59 args).run Tryz.prog w = .ok (.enter 59 args) w := enters_of Tryz.func59 (by kernel_rfl) rfl
/-- What SortFunc makes of pieces. -/
def SoQ (B : Nat) (v : Value) (ps : List (Nat × Nat)) (w : World) (e : Ending) (w' : World) : Prop :=
  e = .returned (.tuple #[]) ∧ ∃ qs : List (Nat × Nat), qs.Perm ps ∧ qs.Pairwise (fun a b => ¬ b.1 < a.1) ∧ ComRow w' v (comI qs) ∧ Below B w w'
theorem Sort_any (v : Value) (ps : List (Nat × Nat)) (B : Nat) (w : World) (hown : w.ownsRow B 50 2 v ps.length (ccells ps)) (hlen : ps.length ≤ 1000000) (hB : B ≤ w.heap.size) :
    Calls Tryz.prog 58 #[v, .func (.func 59) #[] #[]] w (SoQ B v ps w) := by
  rcases hown.2 with ⟨rfl, h0⟩ | ⟨g, cap, cur, rfl, hBg, hg, _⟩
  · have hps : ps = [] := List.eq_nil_of_length_eq_zero h0
    subst hps
    refine (AnyF.slices_SortFunc_none (P := Tryz.prog) (ρ := Tryz.sortP_ren) { Tryz.sortP with } none 0 (.func (.func 59) #[] #[]) w).mono ?_
    rintro e w' ⟨rfl, rfl⟩
    exact ⟨rfl, [], List.Perm.refl _, List.Pairwise.nil, ⟨none, 0, rfl, fun h => absurd rfl h⟩, Below.refl _ _⟩
  · have hH := holds_own hown
    have hlt := (Array.getElem?_eq_some_iff.1 hg).1
    have hcon := AnyQ.slices_SortFunc Tryz.sortP 2 Tryz.isAgg50 Tryz.sizeOf50 encP (fun _ => rfl) (fun x v hv => by simp [encP] at hv; rcases hv with rfl | rfl <;> rfl) cmpP swoP 59 #[] g 0 cap ps.toArray w eg59 (cmpLaysP g 0 ps.toArray.size w) hH hlt (by simp; omega)
    have hsz : ps.toArray.size = ps.length := by simp
    rw [hsz] at hcon
    refine hcon.mono ?_
    rintro e w' ⟨rfl, d', n, os, ⟨hp1, _, hp3⟩, hso, rfl⟩
    rw [hsz] at hp1
    refine ⟨rfl, d'.toList, ?_, ?_, ?_, below_sort hBg hB⟩
    · have e1 : (d'.extract 0 ps.length).toList = d'.toList := by rw [← hp1, Array.extract_size]
      have e2 : (ps.toArray.extract 0 ps.length).toList = ps := by rw [show ps.length = ps.toArray.size from hsz.symm, Array.extract_size]
      rwa [e1, e2] at hp3
    · rw [List.pairwise_iff_getElem]
      intro i j hi hj hij
      have hi' : i < d'.size := by simpa using hi
      have hj' : j < d'.size := by simpa using hj
      have := hso i j (Nat.zero_le _) hij (by omega)
      rw [getElem!_pos d' j hj', getElem!_pos d' i hi', ltP] at this
      simpa using this
    · have hH2 := holdsK_sortWorldK_c encP 2 w g 0 ps.toArray d' n os hH hlt (by rw [hsz]; exact hp1)
      refine ⟨some ⟨g, 0, none⟩, cap, by simp [comI, hp1], fun _ => ⟨g, 0, rfl, ?_, ?_⟩⟩
      · exact Nat.lt_of_lt_of_le hlt (size_sortWorldK_c encP 2 w g 0 n d' os)
      · intro j hj i u hu
        have hj' : j < d'.size := by simpa [comI] using hj
        have hi : i < 2 := by
          have := (List.getElem?_eq_some_iff.1 hu).1
          simpa [comv] using this
        have hc := (Go.Sort.HoldsK.cell hH2 hj' hi).1
        have e : (comI d'.toList)[j]! = (((d'[j]!).1 : Int), ((d'[j]!).2 : Int)) := by simp [comI, hj', getElem!_pos]
        rw [e] at hu
        rw [hc]
        have hi' : i = 0 ∨ i = 1 := by omega
        rcases hi' with rfl | rfl
        · exact hu
        · exact hu
/-- Sorted by what differs, there is one order. -/
theorem perm_one {qs pc : List (Nat × Nat)} (h : qs.Perm pc) (h1 : qs.Pairwise (fun a b => ¬ b.1 < a.1)) (h2 : pc.Pairwise (fun a b => a.1 < b.1)) : qs = pc := by
  have hdist : ∀ a ∈ pc, ∀ b ∈ pc, a.1 = b.1 → a = b := by
    intro a ha b hb hab
    obtain ⟨i, hi, rfl⟩ := List.mem_iff_getElem.1 ha
    obtain ⟨j, hj, rfl⟩ := List.mem_iff_getElem.1 hb
    have hp := List.pairwise_iff_getElem.1 h2
    rcases Nat.lt_trichotomy i j with hij | rfl | hij
    · have := hp i j hi hj hij; omega
    · rfl
    · have := hp j i hj hi hij; omega
  refine List.Perm.eq_of_pairwise (le := fun a b => ¬ b.1 < a.1) ?_ h1 (h2.imp fun {a b} hab => by omega) h
  intro a b ha hb hab hba
  exact hdist a (h.subset ha) b hb (by omega)
/-- A slice's length is within its capacity. -/
def CapOk (v : Value) : Prop := ∃ (ao : Option Addr) (n cap : Nat), v = .slice ao n cap ∧ n ≤ cap
theorem Tokens_rowC (s : ByteArray) (hs : s.size ≤ 140737488351232) (w : World) (hml : ML w) : Calls Tryz.prog 19 #[.string s] w fun e w' =>
    ∃ lv, e = .returned (.tuple #[lv, .int .i64 (scanR s).at_, .int .i64 (scanR s).err]) ∧ TokRow w' lv ((outT s).map Tok.t3) ∧ CapOk lv ∧ Below w.heap.size w w' := by
  refine (Tokens_any s hs w hml).mono ?_
  rintro e w' ⟨lv, rfl, hown, hb⟩
  have hc : CapOk lv := by
    rcases hown.2 with ⟨rfl, h⟩ | ⟨g, cap, cur, rfl, _, _, h, _⟩
    · exact ⟨none, 0, 0, rfl, Nat.le_refl _⟩
    · exact ⟨_, _, _, rfl, h⟩
  refine ⟨lv, rfl, ?_, hc, hb⟩
  rw [rcells_tcells, ← List.length_map (f := Tok.t3)] at hown
  exact TokRow.of_own hown
/-- What pieces hands back. -/
def PcQ (s : ByteArray) (w : World) (e : Ending) (w' : World) : Prop :=
  ∃ lv pv, e = .returned (.tuple #[lv, pv, .bool true]) ∧ TokRow w' lv ((scanR s).toks.map Tok.t3) ∧ CapOk lv ∧ ComRow w' pv (comI (pcs 0 (parse s.data.toList).1)) ∧ Below w.heap.size w w'
set_option maxHeartbeats 4000000 in
set_option maxRecDepth 100000 in
theorem pieces_any (s : ByteArray) (hs : s.size ≤ 2000) (he : (scanR s).err = 0) (w : World) (hml : ML w) : Calls Tryz.prog 20 #[.string s] w (PcQ s w) := by
  have hs' : s.size ≤ 140737488351232 := by omega
  obtain ⟨htf, hcl⟩ := tokF_of s he
  have hat := scanR_at0 s he
  have htl := toks_le' s he
  obtain ⟨i0, hi0, hz0, hz1, hz2⟩ := info_parts infoPc
  have c1 : ∀ W, ML W → Calls Tryz.prog 19 #[.string s] W fun e w' => ∃ lv, e = .returned (.tuple #[lv, .int .i64 0, .int .i64 0]) ∧ TokRow w' lv ((scanR s).toks.map Tok.t3) ∧ CapOk lv ∧ Below W.heap.size W w' := by
    intro W h; have := Tokens_rowC s hs' W h; rw [he, hat, outT_ok he] at this; exact this
  have c2 : ∀ W, ML W → Calls Tryz.prog 31 #[.string s] W fun e w' => ∃ cv, e = .returned (.tuple #[cv, .int .i64 0, .int .i64 0]) ∧ ComRow w' cv (comI (scanR s).coms) ∧ Below W.heap.size W w' := by
    intro W h; have := Comments_row s hs' W h; rw [he, hat, outC_ok he] at this; exact this
  have hq : ∀ W e w', (∃ lv pv, e = .returned (.tuple #[lv, pv, .bool true]) ∧ TokRow w' lv ((scanR s).toks.map Tok.t3) ∧ CapOk lv ∧ ComRow w' pv (comI (pcs 0 (parse s.data.toList).1)) ∧ Below W.heap.size W w') → PcQ s W e w' := fun _ _ _ h => h
  have hperm := pieces_perm (parse s.data.toList).1 0 (items_ct (show parse s.data.toList = ((parse s.data.toList).1, (parse s.data.toList).2) from rfl))
  have hsort : (pcs 0 (parse s.data.toList).1).Pairwise (fun a b => a.1 < b.1) := by
    obtain ⟨h1, _⟩ := scanR_ok s he
    exact (pcs_chain s.data.toList _ 0 (by rw [List.drop_zero, ← h1]) (by rw [Nat.zero_add]; exact wid_all h1)).1
  have hco : (scanR s).coms = icoms 0 (parse s.data.toList).1 := by rw [(scanR_ok s he).2.2.2]
  rw [← hco] at hperm
  obtain ⟨ts, hts⟩ : ∃ ts, (scanR s).toks = ts := ⟨_, rfl⟩
  obtain ⟨cs, hcs⟩ : ∃ cs, (scanR s).coms = cs := ⟨_, rfl⟩
  obtain ⟨tp, htp⟩ : ∃ tp, tps 0 (parse s.data.toList).1 = tp := ⟨_, rfl⟩
  obtain ⟨te, hte⟩ : ∃ te, tes 0 (parse s.data.toList).1 = te := ⟨_, rfl⟩
  obtain ⟨pc, hpc⟩ : ∃ pc, pcs 0 (parse s.data.toList).1 = pc := ⟨_, rfl⟩
  rw [hts] at c1 htf htl hq
  rw [hcs] at c2 htf hcl hperm
  rw [htp] at htf hperm
  rw [hte] at htf
  rw [hpc] at hq hperm hsort
  obtain ⟨us, hus⟩ : ∃ us, ts.map Tok.t3 = us := ⟨_, rfl⟩
  have hul : us.length = ts.length := by rw [← hus, List.length_map]
  have huat : ∀ k, k < ts.length → us[k]!.at_ = ((tp[k]!).1 : Int) := by
    intro k hk
    rw [← htf.at_ k hk, ← hus, getElem!_pos _ k (by rw [List.length_map]; exact hk), getElem!_pos _ k hk, List.getElem_map]; rfl
  rw [hus] at c1 hq
  have C1 := Lib.hid c1
  have C2 := Lib.hid c2
  have TF := Lib.hid htf
  have HQ := Lib.hid hq
  have HP := Lib.hid hperm
  have HS := Lib.hid hsort
  have HUL := Lib.hid hul
  have HUA := Lib.hid huat
  clear c1 c2 htf hq hperm hsort hul huat hus hts hcs htp hte hpc hco hat he
  go_enter Tryz.func20, Tryz.ntmps20
  go_wp2_with fail
  refine (C1.out _ hml).mono ?_
  rintro e w1 ⟨lv, rfl, T1, hcap, b1⟩
  have hml1 := hml.below b1
  go_wp2_with fail
  refine (C2.out _ hml1).mono ?_
  rintro e w2 ⟨cv, rfl, R1, b2'⟩
  have b2 := b1.trans (b2'.mono b1.size)
  have T2 := T1.after b2'
  obtain ⟨ta, tcap, rfl, hT⟩ := T2
  have HCAP := Lib.hid hcap
  clear hcap
  obtain ⟨ca, ccap, rfl, hC⟩ := com_row2 R1
  rw [HUL.out] at hT ⊢
  have HT := Lib.hid hT
  have HC := Lib.hid hC
  clear hT hC T1 R1 b1 b2' hml1 hml C1 C2
  generalize hn : ts.length = n at HT HUL HUA htl ⊢
  have HN := Lib.hid hn
  clear hn
  have hp1 : 0 < 1 := by decide
  have hp2 : 0 < 2 := by decide
  go_wp2_with fail
  go_loopw [11, 39] (fun vo q wr => ∃ k : Nat, k ≤ cs.length ∧ q = .int .i64 k ∧ wr.ownsRow w2.heap.size 50 2 vo k (ccells (cs.take k)) ∧ Below w2.heap.size w2 wr) (fun _ q _ => cs.length - (intOf q).toNat)
  case atStart => exact ⟨0, Nat.zero_le _, rfl, World.ownsRow_nil _ _ _ _, Below.refl _ _⟩
  case round =>
    obtain ⟨k, hk, rfl, own, bel⟩ := hrel
    obtain ⟨vo', vcap, rfl⟩ := own_form own
    by_cases hlt : k < cs.length
    · have hltz : (k : Int) < (cs.length : Int) := by omega
      obtain ⟨cb, co, rfl, hcb, hcc⟩ := HC.out (by omega)
      obtain ⟨d0, d1⟩ := hcc k hlt
      have d0 := (bel.cell (p := ⟨cb, co + k * 2, none⟩) hcb).trans d0
      have d1 := (bel.cell (p := ⟨cb, co + k * 2 + 1, none⟩) hcb).trans d1
      clear hcc
      have hx1 : k + 1 ≤ maxLen := by unfold maxLen; omega
      have hx2 : (k + 1) * 16 ≤ 140737488355328 := by omega
      have hone : ∀ u ∈ [Value.int .i64 (cs[k].1 : Int), Value.int .i64 (cs[k].2 : Int)], u.oneCell' = true := by
        intro u hu; simp at hu; rcases hu with rfl | rfl <;> rfl
      have hcn : ccells (cs.take (k + 1)) = ccells (cs.take k) ++ [Value.int .i64 (cs[k].1 : Int), Value.int .i64 (cs[k].2 : Int)] := by
        rw [List.take_succ_eq_append_getElem hlt, ccells_app]; rfl
      have HCN := Lib.hid hcn
      clear hcn
      generalize (cs[k].1 : Int) = x1 at d0 d1 hone HCN ⊢
      generalize (cs[k].2 : Int) = x2 at d0 d1 hone HCN ⊢
      go_upto_region 9 with fail
      have n8 := heap_alloc_new wr (.cells #[.int .i64 x1, .int .i64 x2] 69)
      have b8 := bel.alloc bel.size (.cells #[.int .i64 x1, .int .i64 x2] 69)
      have own8 := own.alloc (.cells #[.int .i64 x1, .int .i64 x2] 69)
      generalize wr.alloc (.cells #[.int .i64 x1, .int .i64 x2] 69) = wx at n8 b8 own8 ⊢
      have k0 : wx.cell? ⟨wr.heap.size, 0, none⟩ = some (.int .i64 x1) := cell_of_row _ _ 0 _ _ _ n8
      have k1 : wx.cell? ⟨wr.heap.size, 1, none⟩ = some (.int .i64 x2) := cell_of_row _ _ 1 _ _ _ n8
      clear n8 d0 d1
      go_wp2_with (at_builtin; refine wpList_append_own _ rfl _ _ 46 rfl w2.heap.size 50 i0 (.agg #[.int .i64 0, .int .i64 0]) 2 16 undPcs hi0 hz0 hz1 hz2 rfl hp2 _ _ _ rfl (own8.alloc _) ⟨wx.heap.size, 0, none⟩ 1 1 [.int .i64 x1, .int .i64 x2] rfl rfl ?dd1 ?dd2 ?dd3 ?dd4 ?dd5 ?_)
      case dd1 => exact World.news_of_block (heap_alloc_new wx (.cells #[.int .i64 x1, .int .i64 x2] 50))
      case dd2 => exact hone
      case dd3 => exact hx1
      case dd4 => exact hx2
      case dd5 => have := b8.size; simp; omega
      intro v5 w5 own5 hgrow _
      have hb5 := (b8.alloc b8.size (.cells #[.int .i64 x1, .int .i64 x2] 50)).grown hgrow (by have := b8.size; simp; omega) (fun j hj => (own8.lt j hj).1)
      clear hgrow hone
      go_wp2_with fail
      go_roundw
      case rel =>
        refine ⟨k + 1, hlt, by go_num, ?_, hb5⟩
        rw [HCN.out]; exact own5
      case measure => simp [intOf]; omega
    · obtain rfl : k = cs.length := by omega
      rw [List.take_length] at own
      have hltz : ¬ (cs.length : Int) < (cs.length : Int) := by omega
      go_wp2_with fail
      go_loopw [11, 54] (fun vo q ws => ∃ k : Nat, k ≤ n ∧ q = .int .i64 k ∧ ws.ownsRow w2.heap.size 50 2 vo (cs.length + k) (ccells (cs ++ tp.take k)) ∧ Below w2.heap.size w2 ws) (fun _ q _ => n - (intOf q).toNat)
      case atStart => exact ⟨0, Nat.zero_le _, rfl, by simpa using own, bel⟩
      case round =>
        obtain ⟨k, hk, rfl, own2, bel2⟩ := hrel
        obtain ⟨vo2, vcap2, rfl⟩ := own_form own2
        clear own bel
        by_cases hlt2 : k < n
        · have hltz2 : (k : Int) < (n : Int) := by omega
          have hkt : k < ts.length := by rw [HN.out]; exact hlt2
          obtain ⟨tb, tof, rfl, htb, htc⟩ := HT.out (by intro e; have := HUL.out; rw [e] at this; simp at this; omega)
          have hkp : k < tp.length := by have := TF.out.l1; omega
          have htk : tp.take (k + 1) = tp.take k ++ [tp[k]!] := by rw [List.take_succ_eq_append_getElem hkp, getElem!_pos tp k hkp]
          have f1 := TF.out.fin k hkt
          have f2 := TF.out.lo k hkt
          have f3 := TF.out.trim k hkt
          have u3 : k + 1 < n → wr.cell? ⟨tb, tof + (k + 1) * 3 + 2, none⟩ = some (.int .i64 ((tp[k + 1]!).1 : Int)) := by
            intro h
            have := (tok_cells htc htb bel2 (k + 1) h).2.2
            rwa [HUA.out (k + 1) h] at this
          obtain ⟨u0, u1, u2⟩ := tok_cells htc htb bel2 k hlt2
          rw [HUA.out k hlt2] at u2
          rw [HN.out] at f1
          obtain ⟨E0, hE0⟩ : ∃ E0, E0 = (if k + 1 < n then (tp[k + 1]!).1 else s.size) := ⟨_, rfl⟩
          rw [← hE0] at f1
          generalize (us[k]!).kind = tk at u0
          generalize (us[k]!).text = tt at u1
          generalize tp[k]! = x at htk f1 f2 f3 u2
          obtain ⟨a, b⟩ := x
          generalize te[k]! = e at f1 f2 f3
          simp only at f1 f2 f3 u2
          obtain ⟨f2a, f2b, f2c, f2d⟩ := f2
          obtain ⟨tr, htr⟩ : ∃ tr : ByteArray, tr = ⟨(Lib.trimRightS (s.extract a e).data.toList [32, 10]).toArray⟩ := ⟨_, rfl⟩
          have htrs : a + tr.size = b := by
            have : tr.size = (Lib.trimRightS (s.extract a e).data.toList [32, 10]).length := by rw [htr]; rfl
            omega
          have hTR : ∀ W, Calls Tryz.prog 57 #[.string (s.extract a e), .string ⟨#[32, 10]⟩] W fun e' w' => e' = .returned (.string tr) ∧ Below W.heap.size W w' := by
            intro W; rw [htr]; exact TrimRight_any (s.extract a e) (by rw [ByteArray.size_extract]; omega) W
          have HTR := Lib.hid hTR
          have HTRS := Lib.hid htrs
          have HTK := Lib.hid htk
          have HF1 := Lib.hid f1
          clear hTR htr htrs htk f1 f3 htc
          go_upto_region 14 with fail
          have n8 := heap_alloc_new wr (.cells #[.int .i64 tk, .string tt, .int .i64 a] 24)
          have bx := bel2.alloc bel2.size (.cells #[.int .i64 tk, .string tt, .int .i64 a] 24)
          have own8 := own2.alloc (.cells #[.int .i64 tk, .string tt, .int .i64 a] 24)
          have u3 : k + 1 < n → (wr.alloc (.cells #[.int .i64 tk, .string tt, .int .i64 a] 24)).cell? ⟨tb, tof + (k + 1) * 3 + 2, none⟩ = some (.int .i64 ((tp[k + 1]!).1 : Int)) := fun h => ((below_box wr _).cell (p := ⟨tb, tof + (k + 1) * 3 + 2, none⟩) (Nat.lt_of_lt_of_le htb bel2.size)).trans (u3 h)
          generalize wr.alloc (.cells #[.int .i64 tk, .string tt, .int .i64 a] 24) = wx at n8 bx own8 u3 ⊢
          have hXlt : wr.heap.size < wx.heap.size := (Array.getElem?_eq_some_iff.1 n8).1
          have hXge : w2.heap.size ≤ wr.heap.size := bel2.size
          generalize wr.heap.size = X at n8 hXlt hXge ⊢
          clear u0 u1 u2 own2 bel2
          have k2 : wx.cell? ⟨X, 2, none⟩ = some (.int .i64 a) := cell_of_row _ _ 2 _ _ _ n8
          have hE : (k + 1 < n ∧ E0 = (tp[k + 1]!).1) ∨ (¬ k + 1 < n ∧ E0 = s.size) := by
            by_cases h : k + 1 < n
            · rw [if_pos h] at hE0; exact .inl ⟨h, hE0⟩
            · rw [if_neg h] at hE0; exact .inr ⟨h, hE0⟩
          have HE0 := Lib.hid hE0
          clear hE0
          rcases hE with ⟨hk1, hE⟩ | ⟨hk1, hE⟩
          all_goals
            have u4 : k + 1 < n → wx.cell? ⟨tb, tof + (k + 1) * 3 + 2, none⟩ = some (.int .i64 (E0 : Int)) := fun h => by rw [HE0.out, if_pos h]; exact u3 h
            have HE := Lib.hid hE
            clear hE u3
            first
            | (have u4 := u4 hk1
               have hk1z : (k : Int) + 1 < (n : Int) := by omega
               go_wp2_with fail)
            | (clear u4
               have hk1z : ¬ (k : Int) + 1 < (n : Int) := by omega
               go_wp2_with fail)
            go_loopw [16, 74] (fun v q wr => ∃ m : Nat, m ≤ cs.length ∧ q = .int .i64 m ∧ v = .int .i64 (endC a E0 (cs.take m) : Nat) ∧ Below wx.heap.size wx wr) (fun _ q _ => cs.length - (intOf q).toNat)
            case atStart => exact ⟨0, Nat.zero_le _, rfl, by first | rfl | (rw [HE.out]; rfl), Below.refl _ _⟩
            case round =>
              obtain ⟨m, hm, rfl, rfl, belt⟩ := hrel
              have k2t : wr.cell? ⟨X, 2, none⟩ = some (.int .i64 a) := (belt.cell (p := ⟨X, 2, none⟩) hXlt).trans k2
              by_cases hmlt : m < cs.length
              · have hmz : (m : Int) < (cs.length : Int) := by omega
                obtain ⟨cb, co, rfl, hcb, hcc⟩ := HC.out (by omega)
                obtain ⟨d0, d1⟩ := hcc m hmlt
                have BB : Below w2.heap.size w2 wr := bx.trans (belt.mono bx.size)
                have d0 := (BB.cell (p := ⟨cb, co + m * 2, none⟩) hcb).trans d0
                have d1 := (BB.cell (p := ⟨cb, co + m * 2 + 1, none⟩) hcb).trans d1
                have hst := endC_succ a E0 cs m hmlt
                generalize endC a E0 (cs.take m) = ee at hst ⊢
                generalize cs[m] = cm at hst d0 d1
                obtain ⟨x1, x2⟩ := cm
                simp only at hst d0 d1
                have HST := Lib.hid hst
                clear hst hcc
                go_upto_region 20 with fail
                have n9 := heap_alloc_new wr (.cells #[.int .i64 x1, .int .i64 x2] 69)
                have b9 := belt.alloc belt.size (.cells #[.int .i64 x1, .int .i64 x2] 69)
                have k2y : (wr.alloc (.cells #[.int .i64 x1, .int .i64 x2] 69)).cell? ⟨X, 2, none⟩ = some (.int .i64 a) := ((below_box wr _).cell (p := ⟨X, 2, none⟩) (Nat.lt_of_lt_of_le hXlt belt.size)).trans k2t
                generalize wr.alloc (.cells #[.int .i64 x1, .int .i64 x2] 69) = wy at n9 b9 k2y ⊢
                have y0 : wy.cell? ⟨wr.heap.size, 0, none⟩ = some (.int .i64 x1) := cell_of_row _ _ 0 _ _ _ n9
                clear n9 d0 d1 k2t BB
                have hc3 : (a ≤ x1 ∧ x1 < ee) ∨ (a ≤ x1 ∧ ¬ x1 < ee) ∨ ¬ a ≤ x1 := by omega
                rcases hc3 with ⟨g1, g2⟩ | ⟨g1, g2⟩ | g1
                · have g1z : (a : Int) ≤ (x1 : Int) := by omega
                  have g2z : (x1 : Int) < (ee : Int) := by omega
                  go_wp2_with fail
                  go_roundw
                  case rel => exact ⟨m + 1, hmlt, by go_num, by rw [HST.out, if_pos ⟨g1, g2⟩], b9⟩
                  case measure => simp [intOf]; omega
                · have g1z : (a : Int) ≤ (x1 : Int) := by omega
                  have g2z : ¬ (x1 : Int) < (ee : Int) := by omega
                  go_wp2_with fail
                  go_roundw
                  case rel => exact ⟨m + 1, hmlt, by go_num, by rw [HST.out, if_neg (fun h => g2 h.2)], b9⟩
                  case measure => simp [intOf]; omega
                · have g1z : ¬ (a : Int) ≤ (x1 : Int) := by omega
                  go_wp2_with fail
                  go_roundw
                  case rel => exact ⟨m + 1, hmlt, by go_num, by rw [HST.out, if_neg (fun h => g1 h.1)], b9⟩
                  case measure => simp [intOf]; omega
              · obtain rfl : m = cs.length := by omega
                rw [List.take_length, HF1.out]
                have hmz : ¬ (cs.length : Int) < (cs.length : Int) := by omega
                have z0 : (0 : Int) ≤ (a : Int) := by omega
                have z1 : (a : Int) < (e : Int) := by omega
                have z1' : (a : Int) ≤ (e : Int) := by omega
                have z2 : (e : Int) ≤ (s.size : Int) := by omega
                have hsum := HTRS.out
                have zb : b ≤ s.size := by omega
                have hwr : IntKind.i64.wrap ((a : Int) + (tr.size : Int)) = (a : Int) + (tr.size : Int) := IntWalk.i64_in _ (by omega)
                have own9 := own_below own8 belt
                have BB : Below w2.heap.size w2 wr := bx.trans (belt.mono bx.size)
                have hXt : X < wr.heap.size := Nat.lt_of_lt_of_le hXlt belt.size
                clear hsum
                have hXne : some X ≠ (Value.slice vo2 (cs.length + k) vcap2).ownBlock := fun h => own_ne own8 n8 (by decide : (24 : Nat) ≠ 50) h.symm
                have hone : ∀ u ∈ [Value.int .i64 (a : Int), Value.int .i64 ((a : Int) + (tr.size : Int))], u.oneCell' = true := by
                  intro u hu; simp at hu; rcases hu with rfl | rfl <;> rfl
                have hmax : cs.length + k + 1 ≤ maxLen := by unfold maxLen; omega
                have hby : (cs.length + k + 1) * 16 ≤ 140737488355328 := by omega
                go_upto_region 25 with fail
                go_region_held3 (fun w' => w'.cell? ⟨X, 2, none⟩ = some (.int .i64 a)) (first | go_keep | exact (hb4.cell (p := ⟨X, 2, none⟩) hXt).trans ‹_› | exact (hgrow.cell_far ⟨X, 2, none⟩ (Nat.lt_of_lt_of_le hXt (Nat.le_trans hB4.size (by simp))) hXne).trans ‹_›) (first | (go_at_call 57; refine (HTR.out _).mono ?_; rintro e' w4 ⟨rfl, hb4⟩; have hB4 : Below wr.heap.size wr w4 := (Below.refl _ wr).drew.trans hb4; have own4 := own_below own9 hB4; have BB4 := BB.trans (hB4.mono BB.size)) | (refine step_append_lies _ (by rfl) _ _ _ (by rfl) w2.heap.size 50 i0 (.agg #[.int .i64 0, .int .i64 0]) 2 16 undPcs hi0 hz0 hz1 hz2 (by rfl) hp2 _ _ _ (by rfl) (own4.alloc (.cells #[.int .i64 a, .int .i64 ((a : Int) + (tr.size : Int))] 50)) ⟨w4.heap.size, 0, none⟩ 1 1 [.int .i64 a, .int .i64 ((a : Int) + (tr.size : Int))] (by rfl) (by rfl) (World.news_of_block (heap_alloc_new w4 (.cells #[.int .i64 a, .int .i64 ((a : Int) + (tr.size : Int))] 50))) hone hp1 hmax hby (Nat.le_trans BB4.size (by simp)) _ (by rfl) ?_; intro g cap w5 own5 hgrow hlie hlt5))
                have bb5 := (BB4.alloc BB4.size (.cells #[.int .i64 a, .int .i64 ((a : Int) + (tr.size : Int))] 50)).grown hgrow (Nat.le_trans BB4.size (by simp)) (fun j hj => (own4.lt j hj).1)
                have hc5 : ccells (cs ++ tp.take (k + 1)) = ccells (cs ++ tp.take k) ++ [Value.int .i64 (a : Int), Value.int .i64 ((a : Int) + (tr.size : Int))] := by
                  have := HTRS.out
                  rw [HTK.out, ← List.append_assoc, ccells_app (cs ++ tp.take k)]
                  show _ ++ [Value.int .i64 (a : Int), Value.int .i64 (b : Int)] = _
                  rw [show (b : Int) = (a : Int) + (tr.size : Int) from by omega]
                have HC5 := Lib.hid hc5
                clear hc5 hgrow hone own4 BB4 hB4 hb4 hwr hXne
                go_wp2_with fail
                go_roundw
                case rel =>
                  refine ⟨k + 1, hlt2, by go_num, ?_, bb5⟩
                  rw [HC5.out]; exact own5
                case measure => simp [intOf]; omega
        · obtain rfl : k = n := by omega
          have htl2 : tp.take k = tp := List.take_of_length_le (by have := TF.out.l1; have := HN.out; omega)
          rw [htl2] at own2
          clear htl2
          have hltz2 : ¬ (k : Int) < (k : Int) := by omega
          go_wp2_with fail
          have hlen2 : (cs ++ tp).length = cs.length + k := by rw [List.length_append]; have := TF.out.l1; have := HN.out; omega
          have hso := Sort_any _ (cs ++ tp) w2.heap.size wr (by rw [hlen2]; exact own2) (by omega) bel2.size
          have hPC := HP.out
          have hSP := HS.out
          clear hltz2 own2
          refine hso.mono ?_
          rintro e' w6 ⟨rfl, qs, hq1, hq2, hrow, hb6⟩
          obtain rfl := perm_one (hq1.trans hPC) hq2 hSP
          have bb6 := b2.trans ((bel2.trans hb6).mono b2.size)
          have T6 : TokRow w6 (.slice ta k tcap) us := ⟨ta, tcap, by rw [HUL.out], fun hne => by
            obtain ⟨tb, tof, rfl, htb, htc⟩ := HT.out hne
            refine ⟨tb, tof, rfl, Nat.lt_of_lt_of_le htb (bel2.trans hb6).size, fun j hj i u hu => ?_⟩
            rw [HUL.out] at hj
            exact ((bel2.trans hb6).cell (p := ⟨tb, tof + j * 3 + i, none⟩) htb).trans (htc j hj i u hu)⟩
          have R6 := Lib.hid hrow
          have T6 := Lib.hid T6
          clear hrow hq1 hq2 hPC hSP hso hb6
          go_wp2_with fail
          refine bodyPost_ret (v := .tuple #[.slice ta k tcap, .slice vo2 (cs.length + k) vcap2, .bool true]) (by simp [results, Tryz.results20, go_sem]) rfl ?_
          exact HQ.out _ _ _ ⟨_, _, rfl, T6.out, by have := HCAP.out; rwa [HUL.out] at this, R6.out, bb6⟩
end Go.Proofs.YtafofcenphopbaaGreatDoor
