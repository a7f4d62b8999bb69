/- Walks: upper. -/
import Derived.Test.YtafofcenphopbaaGreatDoorA3
import Derived.Lib.ConvBytes
import Derived.Deep.RegionWith
namespace Go.Proofs.YtafofcenphopbaaGreatDoor
open Go.RowKit Lx

theorem undBs : Tryz.prog.underlying 73 = some (.slice 5) := by kernel_rfl
theorem undB : Tryz.prog.underlying 5 = some (.int .u8) := by kernel_rfl

theorem upC_low (c : UInt8) (h : ¬ (97 ≤ (c.toNat : Int) ∧ (c.toNat : Int) ≤ 122)) : upC c = c := by
  unfold upC; rw [if_neg (by omega)]
theorem upC_hit (c : UInt8) (h1 : 97 ≤ (c.toNat : Int)) (h2 : (c.toNat : Int) ≤ 122) : ((upC c).toNat : Int) = (c.toNat : Int) - 97 + 65 := by
  unfold upC; rw [if_pos (by omega), UInt8.toNat_ofNat']; omega
theorem getD_lt {α : Type} (l : List α) (i : Nat) (d : α) (h : i < l.length) : l.getD i d = l[i] := by
  rw [List.getD_eq_getElem?_getD, List.getElem?_eq_getElem h]; rfl
theorem getD_data (s : ByteArray) (k : Nat) (h : k < s.size) : s.data.toList.getD k 0 = s.data[k]'(by exact h) := by
  have h' : k < s.data.toList.length := h
  rw [getD_lt _ _ _ h']; simp

set_option maxHeartbeats 400000 in
set_option maxRecDepth 100000 in
theorem upper_any (s : ByteArray) (hs : s.size ≤ 140737488351232) (w : World) :
    Calls Tryz.prog 69 #[.string s] w fun e w' => e = .returned (.string (upS s)) ∧ Below w.heap.size w w' := by
  obtain ⟨c1, w1, hrun, hcell, hfr, hbel⟩ : ∃ c1 w1, (convert 9 73 (.string s)).run Tryz.prog w = .ok (.slice (some ⟨w.heap.size, 0, none⟩) s.size c1) w1 ∧ (∀ j, j < s.size → w1.cell? ⟨w.heap.size, j, none⟩ = some (.int .u8 (s.data.toList.getD j 0).toNat)) ∧
      (∀ j, j < s.size → w1.frozen? ⟨w.heap.size, j, none⟩ = false) ∧ Below w.heap.size w w1 := by
    refine ⟨_, _, Lib.run_convert_string_bytes w _ _ _ s undS undBs undB, fun j hj => Lib.bytesWorld_cell w _ s j hj, fun j hj => ?_, ?_⟩
    · have hsz : s.size ≤ (Lib.bytesCells w 5 s).size := by simp [Lib.bytesCells]
      simp [World.frozen?, Lib.bytesWorld_at_new]; omega
    · exact ⟨rfl, rfl, rfl, by rw [Lib.bytesWorld_size]; omega, fun k hk => Lib.bytesWorld_at_old w _ s k hk⟩
  go_enter Tryz.func69, Tryz.ntmps69
  go_wp2_with fail
  clear hrun
  go_loopw [10] (fun i wr => ∃ k : Nat, k ≤ s.size ∧ i = .int .i64 k ∧ (∀ j, j < s.size → wr.cell? ⟨w.heap.size, j, none⟩ = some (.int .u8 (if j < k then (upC (s.data.toList.getD j 0)).toNat else (s.data.toList.getD j 0).toNat : Nat))) ∧ (∀ j, j < s.size → wr.frozen? ⟨w.heap.size, j, none⟩ = false) ∧ Below w.heap.size w wr) (fun i _ => s.size - (intOf i).toNat)
  case atStart => exact ⟨0, Nat.zero_le _, rfl, fun j hj => by rw [hcell j hj]; simp, hfr, hbel⟩
  case round =>
    obtain ⟨k, hk, rfl, hc, hf, hb⟩ := hrel
    by_cases hlt : k < s.size
    · have hck := hc k hlt
      rw [if_neg (by omega)] at hck
      have hfk := hf k hlt
      have HC := Lib.hid hc
      have HF := Lib.hid hf
      clear hc hf hcell hfr
      go_wp2_with fail
      · have h1 : 97 ≤ ((s.data[k]'hlt).toNat : Int) := by assumption
        have h2 : ((s.data[k]'hlt).toNat : Int) ≤ 122 := by assumption
        have hu := upC_hit _ h1 h2
        have hg := getD_data s k hlt
        go_roundw
        case rel =>
          refine ⟨k + 1, by omega, by go_num, fun j hj => ?_, fun j hj => ?_, hb.setCell (p := ⟨w.heap.size, k, none⟩) (Nat.le_refl _) _⟩
          · by_cases hjk : j = k
            · subst hjk
              rw [if_pos (by omega), hg]
              rw [World.cell?_setCell_same _ _ _ hck, ← hu]
            · rw [World.cell?_setCell_other _ _ _ _ (by intro e; injection e with _ e2; exact hjk e2.symm), HC.out j hj]
              by_cases hjk2 : j < k
              · rw [if_pos hjk2, if_pos (by omega)]
              · rw [if_neg hjk2, if_neg (by omega)]
          · rw [World.frozen?_setCell]; exact HF.out j hj
        case measure => simp [intOf]; omega
      all_goals
        have hlow : upC (s.data[k]'hlt) = s.data[k]'hlt := upC_low _ (by omega)
        have hg := getD_data s k hlt
        go_roundw
        case rel =>
          refine ⟨k + 1, by omega, by go_num, fun j hj => ?_, HF.out, hb⟩
          rw [HC.out j hj]
          by_cases hjk : j = k
          · subst hjk
            rw [if_neg (Nat.lt_irrefl _), if_pos (Nat.lt_succ_self _), hg, hlow]
          · by_cases hjk2 : j < k
            · rw [if_pos hjk2, if_pos (by omega)]
            · rw [if_neg hjk2, if_neg (by omega)]
        case measure => simp [intOf]; omega
    · obtain rfl : k = s.size := by omega
      have hconv := run_convert_bytes_arg (P := Tryz.prog) wr 73 5 undBs undB w.heap.size 0 s.size c1 (s.data.toList.map fun c => ((upC c).toNat : Int)) (by simp) (fun i hi => by
        have h1 := hc i hi
        rw [if_pos hi] at h1
        rw [Nat.zero_add, h1]
        have h2 := getD_data s i hi
        rw [h2, getD_lt _ i 0 (by simp; exact hi)]
        simp) 9 undS
      have hup : strOfNums (s.data.toList.map fun c => ((upC c).toNat : Int)) = upS s := by
        unfold strOfNums upS
        simp
      rw [hup] at hconv
      clear hc hf hup hcell hfr
      go_wp2_with fail
      go_ret
      exact ⟨rfl, hb⟩

theorem beq_toList (a b : ByteArray) : (a.toList == b.toList) = decide (a = b) := by
  rw [toList_data, toList_data, Bool.eq_iff_iff, beq_iff_eq, decide_eq_true_iff]
  exact ⟨fun h => by obtain ⟨⟨x⟩⟩ := a; obtain ⟨⟨y⟩⟩ := b; simpa using h, fun h => by rw [h]⟩
theorem isNameI_eq (s : ByteArray) : isNameI s = (nameI s && decide (upS s = s)) := rfl

set_option maxHeartbeats 400000 in
theorem IsName_any (s : ByteArray) (hs : s.size ≤ 140737488351232) (w : World) :
    Calls Tryz.prog 34 #[.string s] w fun e w' => e = .returned (.bool (isNameI s)) ∧ Below w.heap.size w w' := by
  by_cases hn : nameI s = true
  · go_enter Tryz.func34, Tryz.ntmps34
    go_wp2_with fail
    refine (isName_any s w).mono ?_
    rintro e w' ⟨rfl, n, rfl⟩
    go_wp2_with fail
    refine (upper_any s hs _).mono ?_
    rintro e w' ⟨rfl, hb⟩
    go_wp2
    go_ret; exact ⟨ret_bool (by rw [isNameI_eq, hn, beq_toList]; rfl), (below_drewN (Below.refl _ _) _).trans hb⟩
  · have hn' : nameI s = false := by simpa using hn
    go_enter Tryz.func34, Tryz.ntmps34
    go_wp2_with fail
    refine (isName_any s w).mono ?_
    rintro e w' ⟨rfl, n, rfl⟩
    go_wp2
    go_ret; exact ⟨ret_bool (by rw [isNameI_eq, hn']; rfl), below_drewN (Below.refl _ _) _⟩
set_option maxHeartbeats 400000 in
theorem Name_any (s : ByteArray) (hs : s.size ≤ 140737488351232) (w : World) :
    Calls Tryz.prog 29 #[.string s] w fun e w' => e = .returned (.tuple #[.string (if nameI s then upS s else ⟨#[]⟩), .int .i64 (if nameI s then 0 else 50)]) ∧ Below w.heap.size w w' := by
  by_cases hn : nameI s = true
  · go_enter Tryz.func29, Tryz.ntmps29
    go_wp2_with fail
    refine (isName_any s w).mono ?_
    rintro e w' ⟨rfl, n, rfl⟩
    go_wp2_with fail
    refine (upper_any s hs _).mono ?_
    rintro e w' ⟨rfl, hb⟩
    go_wp2
    go_ret2
    exact ⟨by simp, (below_drewN (Below.refl _ _) _).trans hb⟩
  · have hn' : nameI s = false := by simpa using hn
    go_enter Tryz.func29, Tryz.ntmps29
    go_wp2_with fail
    refine (isName_any s w).mono ?_
    rintro e w' ⟨rfl, n, rfl⟩
    go_wp2
    go_ret2; exact ⟨by simp, below_drewN (Below.refl _ _) _⟩

theorem below_box (w : World) (o : Obj) : Below w.heap.size w (w.alloc o) := (Below.refl _ _).alloc (Nat.le_refl _) _
theorem below_box_then (w w' : World) (o : Obj) (h : Below (w.alloc o).heap.size (w.alloc o) w') : Below w.heap.size w w' :=
  (below_box w o).trans (h.mono (by simp))
theorem cell_box (w : World) (cs : Array Value) (T : TypeId) (j : Nat) : (w.alloc (.cells cs T)).cell? ⟨w.heap.size, j, none⟩ = cs[j]? :=
  cell_of_row _ _ _ cs T (0, 0) (heap_alloc_new w _)
theorem cell_after_box {w w' : World} {cs : Array Value} {T : TypeId} {j : Nat} {u : Value} (hb : Below (w.alloc (.cells cs T)).heap.size (w.alloc (.cells cs T)) w') (hu : cs[j]? = some u) :
    w'.cell? ⟨w.heap.size, j, none⟩ = some u :=
  (hb.cell (p := ⟨w.heap.size, j, none⟩) (by simp)).trans ((cell_box w cs T j).trans hu)
theorem cell_drew {w w' : World} {p : Addr} {u : Value} (hb : Below w.drew.heap.size w.drew w') (hp : p.block < w.heap.size) (h : w.cell? p = some u) : w'.cell? p = some u :=
  (hb.cell (p := p) hp).trans h
theorem ret_err {b c : Bool} (h : b = c) : Ending.returned (.int .i64 (errIf b)) = .returned (.int .i64 (errIf c)) := by rw [h]

theorem number_any' (s : ByteArray) (hs : s.size ≤ 140737488351232) (w : World) :
    Calls Tryz.prog 48 #[.string s] w fun e w' => e = .returned (.tuple #[.int .i64 (numR s).1, .int .i64 (numR s).2.1, .bool (numR s).2.2]) ∧ w' = w := number_any s hs w

set_option maxHeartbeats 1000000 in
set_option maxRecDepth 100000 in
theorem Check_any (k : Int) (t : ByteArray) (a : Int) (hs : t.size ≤ 140737488351232) (w : World) :
    Calls Tryz.prog 35 #[.agg #[.int .i64 k, .string t, .int .i64 a]] w fun e w' => e = .returned (.int .i64 (errIf (checkI k t))) ∧ Below w.heap.size w w' := by
  by_cases h1 : k = 1
  · subst h1
    go_enter Tryz.func35, Tryz.ntmps35
    go_wp2_with (go_at_call 34; refine (IsName_any _ hs _).mono ?_; rintro e w' ⟨rfl, hb⟩)
    all_goals
      go_ret
      exact ⟨by unfold checkI; simp_all [errIf], below_box_then _ _ _ (by simpa using hb)⟩
  by_cases h2 : k = 2
  · subst h2
    go_enter Tryz.func35, Tryz.ntmps35
    go_wp2_with (go_at_call 48; refine (number_any' _ hs _).mono ?_; rintro e w' ⟨rfl, rfl⟩)
    all_goals
      go_ret
      exact ⟨by unfold checkI; simp_all [errIf], below_box _ _⟩
  by_cases h3 : k = 3
  · subst h3
    go_enter Tryz.func35, Tryz.ntmps35
    go_wp2_with (go_at_call 72; refine (all_bit _ hs _).mono ?_; rintro e w' ⟨rfl, rfl⟩)
    all_goals
      go_ret
      exact ⟨by unfold checkI; simp_all [errIf] <;> omega, below_box _ _⟩
  by_cases h4 : k = 4
  · subst h4
    go_enter Tryz.func35, Tryz.ntmps35
    go_wp2_with (go_at_call 72; refine (all_shown _ hs _).mono ?_; rintro e w' ⟨rfl, rfl⟩)
    all_goals
      go_ret
      exact ⟨by unfold checkI; simp_all [errIf] <;> omega, below_box _ _⟩
  by_cases h5 : k = 5
  · subst h5
    go_enter Tryz.func35, Tryz.ntmps35
    go_wp2_with (go_at_call 72; refine (all_bit _ hs _).mono ?_; rintro e w' ⟨rfl, rfl⟩)
    all_goals
      go_ret
      exact ⟨by unfold checkI; simp_all [errIf] <;> omega, below_box _ _⟩
  by_cases h6 : k = 6
  · subst h6
    go_enter Tryz.func35, Tryz.ntmps35
    go_wp2_with fail
    have b1 := below_box w (.cells #[.int .i64 6, .string t, .int .i64 a] 24)
    have c1 := cell_box w #[.int .i64 6, .string t, .int .i64 a] 24 1
    have z1 : w.heap.size < (w.alloc (.cells #[.int .i64 6, .string t, .int .i64 a] 24)).heap.size := by simp
    generalize w.alloc (.cells #[.int .i64 6, .string t, .int .i64 a] 24) = w1 at b1 c1 z1 ⊢
    have c2 : w1.cell? ⟨w.heap.size, 1, none⟩ = some (.string t) := c1
    clear c1
    go_region_with (first | (go_at_call 75; refine (signs_any _).mono ?_; rintro e w' ⟨rfl, hm, hb⟩; have hcell := cell_drew hb z1 c2; have hl : (Instr.lookup 110 (.map (some w1.heap.size)) (.string t) false).run Tryz.prog w' = .ok (.bool (memB t signList)) w' := run_lookup_sign w' _ _ _ undT undS zeroB _ _ hm t))
    all_goals
      have bb : Below w.heap.size w w' := b1.drew.trans (hb.mono (Nat.le_of_lt z1))
      clear hb hm hl hcell
      go_wp2
    all_goals
      go_ret
      exact ⟨by unfold checkI; simp_all [errIf], bb⟩
  · have e1 : (k == 1) = false := by simpa using h1
    have e2 : (k == 2) = false := by simpa using h2
    have e3 : (k == 3) = false := by simpa using h3
    have e4 : (k == 4) = false := by simpa using h4
    have e5 : (k == 5) = false := by simpa using h5
    have e6 : (k == 6) = false := by simpa using h6
    have hf : errIf (checkI k t) = 50 := by unfold checkI; simp [*]; rfl
    have HF := Lib.hid hf
    clear hf h1 h2 h3 h4 h5 h6
    go_enter Tryz.func35, Tryz.ntmps35
    go_wp2
    go_ret
    exact ⟨ret_int HF.out.symm, below_box _ _⟩
end Go.Proofs.YtafofcenphopbaaGreatDoor
