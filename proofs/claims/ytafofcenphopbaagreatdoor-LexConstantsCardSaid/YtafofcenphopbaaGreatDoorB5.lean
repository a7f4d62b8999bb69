/- The reference: IsName, Name, Number. -/
import Derived.Test.YtafofcenphopbaaGreatDoorB2
import Derived.Test.YtafofcenphopbaaGreatDoorA7
import Derived.Test.YtafofcenphopbaaGreatDoorA5
namespace Go.Proofs.YtafofcenphopbaaGreatDoor
open Go.RowKit Lx

theorem bcells_take (s : ByteArray) (k : Nat) (h : k < s.size) : bcells ((s.data.toList.take (k + 1)).map upC) = bcells ((s.data.toList.take k).map upC) ++ [.int .u8 (upC s[k]).toNat] := by
  rw [take_snoc s k h, List.map_append, List.map_cons, List.map_nil, bcells_snoc]
set_option maxHeartbeats 1000000 in
set_option maxRecDepth 100000 in
theorem capitals_any (s : ByteArray) (hs : s.size ≤ 1000000) (w : World) : Calls Tryz.prog 104 #[.string s] w fun e w' => e = .returned (.string (upS s)) ∧ Below w.heap.size w w' := by
  obtain ⟨i0, hi0, hz0, hz1, hz2⟩ := info_parts infoB
  have hmk := run_makeSlice (P := Tryz.prog) w 73 5 i0 (.int .u8 0) undBs hi0 hz0 .i64 .i64 (0 : Int) (s.size : Int) (by omega) (by omega) (by rw [hz1]; omega) (by rw [hz2]; omega) (by omega)
  rw [Int.toNat_natCast] at hmk
  obtain ⟨U, hU⟩ : ∃ U, s.data.toList.map upC = U := ⟨_, rfl⟩
  have hul : U.length = s.size := by rw [← hU, List.length_map, size_list]
  have htk : ∀ k (h : k < s.size), bcells (U.take (k + 1)) = bcells (U.take k) ++ [.int .u8 (upC s[k]).toNat] := by
    intro k h
    rw [← hU, ← List.map_take, ← List.map_take]
    exact bcells_take s k h
  have HUE := Lib.hid hU
  have HUL := Lib.hid hul
  have HTK := Lib.hid htk
  clear hU hul htk
  go_enter Tryz.func104, Tryz.ntmps104
  go_wp2_with fail
  have n1 := heap_alloc_new w (.cells (madeCells #[.int .u8 0] s.size) 5)
  have b1 := below_box w (.cells (madeCells #[.int .u8 0] s.size) 5)
  have own1 : (w.alloc (.cells (madeCells #[.int .u8 0] s.size) 5)).ownsRow w.heap.size 5 1 (.slice (some ⟨w.heap.size, 0, none⟩) 0 s.size) 0 (bcells []) :=
    ⟨rfl, .inr ⟨w.heap.size, s.size, madeCells #[.int .u8 0] s.size, rfl, Nat.le_refl _, n1, Nat.zero_le _, by unfold maxLen; omega, by rw [← Array.length_toList, toList_madeCells_one]; simp, rfl⟩⟩
  clear hmk n1
  generalize w.alloc (.cells (madeCells #[.int .u8 0] s.size) 5) = w1 at own1 b1 ⊢
  go_loopw [3, 4] (fun bv q wr => ∃ k : Nat, k ≤ s.size ∧ q = .int .i64 k ∧ wr.ownsRow w.heap.size 5 1 bv k (bcells (U.take k)) ∧ Below w.heap.size w wr) (fun _ q _ => s.size - (intOf q).toNat)
  case atStart => exact ⟨0, Nat.zero_le _, rfl, own1, b1⟩
  case round =>
    obtain ⟨k, hk, rfl, hown, bel⟩ := hrel
    by_cases hlt : k < s.size
    · have hsn := Lib.hid (HTK.out k hlt)
      have hcap := fun W => rcapital_any (s[k]'hlt) W
      have HC := Lib.hid hcap
      clear hcap own1
      go_wp2_with (first | (go_at_call 128; refine (HC.out _).mono ?_; rintro e w' ⟨rfl, hw⟩; rw [hw]; clear hw) | (at_builtin; refine wpList_append_own _ rfl _ _ 73 rfl w.heap.size 5 i0 (.int .u8 0) 1 1 undBs hi0 hz0 hz1 hz2 rfl (by decide) _ _ _ rfl (hown.alloc _) ⟨wr.heap.size, 0, none⟩ 1 1 [.int .u8 (upC s[k]).toNat] rfl rfl ?c1 ?c2 ?c3 ?c4 ?c5 ?_))
      case c1 =>
        intro jj u hj
        match jj, hj with
        | 0, hj => simp at hj; subst hj; simp [Addr.add]
      case c2 => intro u hu; simp at hu; subst hu; rfl
      case c3 => unfold maxLen; omega
      case c4 => omega
      case c5 => have := bel.size; simp; omega
      intro v' w2 hown' hgrow _
      have hb2 : Below w.heap.size w w2 := (bel.alloc bel.size _).grown hgrow (by have := bel.size; simp; omega) (fun k hk => (hown.lt k hk).1)
      rw [← hsn.out] at hown'
      have HO := Lib.hid hown'
      clear hown' hown bel
      go_wp2_with fail
      go_roundw
      case rel => exact ⟨k + 1, hlt, by go_num, HO.out, hb2⟩
      case measure => simp [intOf]; omega
    · have hke : U.take k = U := List.take_of_length_le (by rw [HUL.out]; omega)
      have hkl : k = U.length := by rw [HUL.out]; omega
      rw [hke, hkl] at hown
      have hcv := run_conv_own wr _ _ _ hown
      have hup : upS s = ⟨U.toArray⟩ := by rw [← HUE.out]; rfl
      have HU := Lib.hid hup
      clear hke own1 hup
      have HOWN := Lib.hid hown
      clear hown
      go_wp2_with fail
      go_ret
      exact ⟨by rw [HU.out]; rfl, bel⟩
set_option maxHeartbeats 1000000 in
set_option maxRecDepth 100000 in
theorem rname_any (s : ByteArray) (hs : s.size ≤ 1000000) (w : World) : Calls Tryz.prog 103 #[.string s] w fun e w' => e = .returned (.bool (nameI s)) ∧ w' = w := by
  by_cases h1 : s.size < 1
  · have hn : nameI s = false := by unfold nameI; rw [decide_eq_false (by omega)]; rfl
    have h1' : (s.size : Int) < 1 := by omega
    have HN := Lib.hid hn
    clear hn
    go_enter Tryz.func103, Tryz.ntmps103
    go_wp2_with fail
    go_ret
    exact ⟨by rw [HN.out]; rfl, rfl⟩
  have h1' : ¬ (s.size : Int) < 1 := by omega
  by_cases h2 : 31 < s.size
  · have hn : nameI s = false := by unfold nameI; rw [decide_eq_false (show ¬ s.size ≤ 31 by omega)]; simp
    have h2' : (31 : Int) < (s.size : Int) := by omega
    have HN := Lib.hid hn
    clear hn
    go_enter Tryz.func103, Tryz.ntmps103
    go_wp2_with fail
    go_ret
    exact ⟨by rw [HN.out]; rfl, rfl⟩
  have h2' : ¬ (31 : Int) < (s.size : Int) := by omega
  have h0 : 0 < s.size := by omega
  have hr := byte_range s 0 h0
  have hat : atI s 0 = ((s[0]'h0).toNat : Int) := by have := atI_get s 0 h0; simpa using this
  obtain ⟨r1, r2⟩ := hr
  have hbg := fun W => rbegins_any ((s[0]'h0).toNat : Int) r1 r2 W
  have HBG := Lib.hid hbg
  clear hbg
  cases hb : begI ((s[0]'h0).toNat : Int) with
  | false =>
    rw [hb] at HBG
    have hn : nameI s = false := by unfold nameI; rw [hat, hb]; simp
    have HN := Lib.hid hn
    clear hn hat hb h1 h2
    go_enter Tryz.func103, Tryz.ntmps103
    go_wp2_with (go_at_call 126; refine (HBG.out _).mono ?_; rintro e w' ⟨rfl, hw⟩; rw [hw]; clear hw)
    go_ret
    exact ⟨by rw [HN.out]; rfl, rfl⟩
  | true =>
    rw [hb] at HBG
    have hn : nameI s = allI partI s := by unfold nameI; rw [hat, hb, decide_eq_true (show 1 ≤ s.size by omega), decide_eq_true (show s.size ≤ 31 by omega)]; simp
    have HN := Lib.hid hn
    clear hn hat hb h1 h2
    go_enter Tryz.func103, Tryz.ntmps103
    go_wp2_with (go_at_call 126; refine (HBG.out _).mono ?_; rintro e w' ⟨rfl, hw⟩; rw [hw]; clear hw)
    go_loop [3] (fun i => ∃ k : Nat, k ≤ s.size ∧ i = .int .i64 k ∧ (s.data.toList.take k).all (fun c => partI (c.toNat : Int)) = true) (fun i => s.size - (intOf i).toNat)
    case atStart => exact ⟨0, Nat.zero_le _, rfl, rfl⟩
    case round =>
      obtain ⟨k, hk, rfl, hall⟩ := hrel
      have HALL := Lib.hid hall
      clear hall
      by_cases hlt : k < s.size
      · have hrk := byte_range s k hlt
        obtain ⟨q1, q2⟩ := hrk
        have hnm := fun W => rnamed_any ((s[k]'hlt).toNat : Int) q1 q2 W
        have HNM := Lib.hid hnm
        clear hnm
        cases hp : partI ((s[k]'hlt).toNat : Int) with
        | false =>
          rw [hp] at HNM
          have hf := Lib.hid (allI_false partI s k hlt hp)
          clear hp
          go_wp2_with (go_at_call 127; refine (HNM.out _).mono ?_; rintro e w' ⟨rfl, hw⟩; rw [hw]; clear hw)
          go_ret
          exact ⟨by rw [HN.out, hf.out]; rfl, rfl⟩
        | true =>
          rw [hp] at HNM
          have hf := Lib.hid (all_take_succ partI s k hlt HALL.out hp)
          clear hp
          go_wp2_with (go_at_call 127; refine (HNM.out _).mono ?_; rintro e w' ⟨rfl, hw⟩; rw [hw]; clear hw)
          go_round
          case rel => exact ⟨k + 1, by omega, by go_num, hf.out⟩
          case measure => simp [intOf]; omega
      · have hfin := Lib.hid (allI_take partI s k (by omega) HALL.out)
        go_wp2_with fail
        go_ret
        exact ⟨by rw [HN.out, hfin.out]; rfl, rfl⟩
set_option maxHeartbeats 1000000 in
set_option maxRecDepth 100000 in
theorem of_any (s : ByteArray) (lo hi : Int) (_h0 : 0 ≤ lo) (_h1 : hi ≤ 255) (hs : s.size ≤ 140737488351232) (w : World) : Calls Tryz.prog 79 #[.string s, .int .u8 lo, .int .u8 hi] w fun e w' => e = .returned (.bool (allI (fun c => decide (lo ≤ c) && decide (c ≤ hi)) s)) ∧ w' = w := by
  go_enter Tryz.func79, Tryz.ntmps79
  go_wp2_with fail
  go_loop [7] (fun i => ∃ k : Nat, k ≤ s.size ∧ i = .int .i64 k ∧ (s.data.toList.take k).all (fun c => decide (lo ≤ (c.toNat : Int)) && decide ((c.toNat : Int) ≤ hi)) = true) (fun i => s.size - (intOf i).toNat)
  case atStart => exact ⟨0, Nat.zero_le _, rfl, rfl⟩
  case round =>
    obtain ⟨k, hk, rfl, hall⟩ := hrel
    have HALL := Lib.hid hall
    clear hall
    by_cases hlt : k < s.size
    · have hpf := fun h => allI_false (fun c => decide (lo ≤ c) && decide (c ≤ hi)) s k hlt h
      have hpt := fun h => all_take_succ (fun c => decide (lo ≤ c) && decide (c ≤ hi)) s k hlt HALL.out h
      have HPF := Lib.hid hpf
      have HPT := Lib.hid hpt
      clear hpf hpt
      by_cases ha : ((s[k]'hlt).toNat : Int) < lo
      · go_wp2_with fail
        go_ret
        exact ⟨by rw [HPF.out (by simp; omega)]; rfl, rfl⟩
      · by_cases hb : hi < ((s[k]'hlt).toNat : Int)
        · go_wp2_with fail
          go_ret
          exact ⟨by rw [HPF.out (by simp; omega)]; rfl, rfl⟩
        · go_wp2_with fail
          go_round
          case rel => exact ⟨k + 1, by omega, by go_num, HPT.out (by simp; omega)⟩
          case measure => simp [intOf]; omega
    · have hfin := Lib.hid (allI_take (fun c => decide (lo ≤ c) && decide (c ≤ hi)) s k (by omega) HALL.out)
      go_wp2_with fail
      go_ret
      exact ⟨by rw [hfin.out]; rfl, rfl⟩
end Go.Proofs.YtafofcenphopbaaGreatDoor
namespace Go.Proofs.YtafofcenphopbaaGreatDoor
open Go.RowKit Lx

set_option maxHeartbeats 1000000 in
theorem rIsName_any (s : ByteArray) (hs : s.size ≤ 1000000) (w : World) : Calls Tryz.prog 78 #[.string s] w fun e w' => e = .returned (.bool (isNameI s)) ∧ Below w.heap.size w w' := by
  have hq := fun W => rname_any s hs W
  have HQ := Lib.hid hq
  have hd := Lib.hid (isNameI_eq s)
  clear hq
  cases hn : nameI s with
  | true =>
    rw [hn] at HQ
    have hd2 : isNameI s = decide (upS s = s) := by rw [hd.out, hn]; rfl
    have HD := Lib.hid hd2
    clear hn hd hd2
    go_enter Tryz.func78, Tryz.ntmps78
    go_wp2_with (go_at_call 103; refine (HQ.out _).mono ?_; rintro e w' ⟨rfl, hw⟩; rw [hw]; clear hw)
    refine (capitals_any s hs _).mono ?_
    rintro e w' ⟨rfl, hb⟩
    go_wp2_with fail
    go_ret
    exact ⟨ret_bool (by rw [HD.out, beq_toList]), hb⟩
  | false =>
    rw [hn] at HQ
    have hd2 : isNameI s = false := by rw [hd.out, hn]; rfl
    have HD := Lib.hid hd2
    clear hn hd hd2
    go_enter Tryz.func78, Tryz.ntmps78
    go_wp2_with (go_at_call 103; refine (HQ.out _).mono ?_; rintro e w' ⟨rfl, hw⟩; rw [hw]; clear hw)
    go_ret
    exact ⟨ret_bool (by rw [HD.out]), Below.refl _ _⟩
/-- Behind a point that has something behind it. -/
theorem numGo_dot (s : ByteArray) (k d b : Nat) (h : k < s.size) (he : ((s[k]'h).toNat : Int) = 46) (hn : k + 1 < s.size) : numGo (s.data.toList.drop k) d b false = numGo (s.data.toList.drop (k + 1)) d b true := by
  have hat := atI_get s k h
  have hd : digI (atI s (k : Int)) = false := by rw [hat, he]; rfl
  by_cases hq : digI (atI s ((k : Int) + 1)) = true
  · exact numGo_point s k d b h hd (by rw [hat, he]) hq
  · rw [numGo_bad s k d b false h hd (fun hh => hq hh.2.2)]
    have e : (k : Int) + 1 = ((k + 1 : Nat) : Int) := by omega
    rw [e] at hq
    rw [numGo_bad s (k + 1) d b true hn (by simpa using hq) (fun hh => by cases hh.2.1)]
theorem numGo_no (s : ByteArray) (k d b : Nat) (p : Bool) (h : k < s.size) (hd : digI ((s[k]'h).toNat : Int) = false) (hn : ¬ (((s[k]'h).toNat : Int) = 46 ∧ p = false ∧ k + 1 < s.size)) : numGo (s.data.toList.drop k) d b p = none := by
  have hat := atI_get s k h
  refine numGo_bad s k d b p h (by rw [hat]; exact hd) fun hh => hn ⟨by rw [← hat]; exact hh.1, hh.2.1, ?_⟩
  rcases Nat.lt_or_ge (k + 1) s.size with hlt | hge
  · exact hlt
  · have := hh.2.2
    rw [atI_out s _ (by omega)] at this
    exact absurd this (by decide)
theorem numGo_yes (s : ByteArray) (k d b : Nat) (pt : Bool) (h : k < s.size) (h1 : digI ((s[k]'h).toNat : Int) = true) : numGo (s.data.toList.drop k) d b pt = numGo (s.data.toList.drop (k + 1)) (d + 1) (if pt then b + 1 else b) pt :=
  numGo_digit s k d b pt h (by rw [atI_get s k h]; exact h1)
set_option maxHeartbeats 1000000 in
set_option maxRecDepth 100000 in
theorem rNumber_any (s : ByteArray) (hs : s.size ≤ 1000000) (w : World) : Calls Tryz.prog 50 #[.string s] w fun e w' => e = .returned (numV (numR s)) ∧ w' = w := by
  go_enter Tryz.func50, Tryz.ntmps50
  go_wp2_with fail
  go_loop [5, 6, 7, 8] (fun d b pt i => ∃ k d' b' : Nat, ∃ p : Bool, k ≤ s.size ∧ d' ≤ k ∧ b' ≤ k ∧ i = .int .i64 k ∧ d = .int .i64 d' ∧ b = .int .i64 b' ∧ pt = .bool p ∧ numGo s.data.toList 0 0 false = numGo (s.data.toList.drop k) d' b' p) (fun _ _ _ i => s.size - (intOf i).toNat)
  case atStart => exact ⟨0, 0, 0, false, Nat.zero_le _, Nat.le_refl _, Nat.le_refl _, rfl, rfl, rfl, rfl, rfl⟩
  case round =>
    obtain ⟨k, d', b', p, hk, hd', hb', rfl, rfl, rfl, rfl, hgo⟩ := hrel
    have HGO := Lib.hid hgo
    clear hgo
    by_cases hlt : k < s.size
    · obtain ⟨r1, r2⟩ := byte_range s k hlt
      have hdg := fun W => rdigit_any ((s[k]'hlt).toNat : Int) r1 r2 W
      have HDG := Lib.hid hdg
      clear hdg
      cases hd : digI ((s[k]'hlt).toNat : Int) with
      | true =>
        rw [hd] at HDG
        have hstep := Lib.hid (numGo_yes s k d' b' p hlt hd)
        have h46 : (((s[k]'hlt).toNat : Int) == 46) = false := by
          rw [beq_eq_false_iff_ne]; intro h; rw [h] at hd; exact absurd hd (by decide)
        clear hd
        cases p with
        | false =>
          go_wp2_with (go_at_call 88; refine (HDG.out _).mono ?_; rintro e w' ⟨rfl, hw⟩; rw [hw]; clear hw)
          go_round
          case rel => exact ⟨k + 1, d' + 1, b', false, by omega, by omega, by omega, by go_num, by go_num, rfl, rfl, by rw [HGO.out, hstep.out]; rfl⟩
          case measure => simp [intOf]; omega
        | true =>
          go_wp2_with (go_at_call 88; refine (HDG.out _).mono ?_; rintro e w' ⟨rfl, hw⟩; rw [hw]; clear hw)
          go_round
          case rel => exact ⟨k + 1, d' + 1, b' + 1, true, by omega, by omega, by omega, by go_num, by go_num, by go_num, rfl, by rw [HGO.out, hstep.out]; rfl⟩
          case measure => simp [intOf]; omega
      | false =>
        rw [hd] at HDG
        by_cases hpt : ((s[k]'hlt).toNat : Int) = 46 ∧ p = false ∧ k + 1 < s.size
        · obtain ⟨he, rfl, hn⟩ := hpt
          have hstep := Lib.hid (numGo_dot s k d' b' hlt he hn)
          have h46 : (((s[k]'hlt).toNat : Int) == 46) = true := by rw [he]; rfl
          have hnz : (k : Int) + 1 < (s.size : Int) := by omega
          clear hd he
          go_wp2_with fail
          go_round
          case rel => exact ⟨k + 1, d', b', true, by omega, by omega, by omega, by go_num, rfl, rfl, rfl, by rw [HGO.out, hstep.out]⟩
          case measure => simp [intOf]; omega
        · have hnone := Lib.hid (numR_none s (by rw [HGO.out, numGo_no s k d' b' p hlt hd hpt]))
          have hcs : (((s[k]'hlt).toNat : Int) == 46) = false ∨ ((((s[k]'hlt).toNat : Int) == 46) = true ∧ p = true) ∨ ((((s[k]'hlt).toNat : Int) == 46) = true ∧ p = false ∧ ¬ (k : Int) + 1 < (s.size : Int)) := by
            by_cases he : ((s[k]'hlt).toNat : Int) = 46
            · cases p
              · exact .inr (.inr ⟨by rw [he]; rfl, rfl, fun h => hpt ⟨he, rfl, by omega⟩⟩)
              · exact .inr (.inl ⟨by rw [he]; rfl, rfl⟩)
            · exact .inl (by simpa using he)
          clear hd hpt
          rcases hcs with h46 | ⟨h46, rfl⟩ | ⟨h46, rfl, hnz⟩
          all_goals (
            go_wp2_with (go_at_call 88; refine (HDG.out _).mono ?_; rintro e w' ⟨rfl, hw⟩; rw [hw]; clear hw)
            go_ret3
            exact ⟨by rw [hnone.out]; rfl, rfl⟩)
    · have hgo := HGO.out
      rw [List.drop_of_length_le (by rw [size_list]; omega)] at hgo
      have hfin := Lib.hid (numR_some s d' b' (by rw [hgo]; rfl))
      clear hgo
      go_wp2
      all_goals (go_ret3; refine ⟨?_, rfl⟩; rw [hfin.out]; exact numV_ret (by rw [Bool.eq_iff_iff]; simp <;> omega))
def opList : List ByteArray := [⟨#[94, 61]⟩, ⟨#[60, 61]⟩, ⟨#[62, 61]⟩, ⟨#[94, 60]⟩, ⟨#[94, 62]⟩, ⟨#[124, 124]⟩, ⟨#[45, 62]⟩, ⟨#[43]⟩, ⟨#[45]⟩, ⟨#[42]⟩, ⟨#[47]⟩, ⟨#[61]⟩, ⟨#[60]⟩, ⟨#[62]⟩, ⟨#[38]⟩, ⟨#[124]⟩, ⟨#[94]⟩, ⟨#[40]⟩, ⟨#[41]⟩, ⟨#[44]⟩, ⟨#[59]⟩, ⟨#[58]⟩, ⟨#[46]⟩, ⟨#[37]⟩]
theorem memB_ops (t : ByteArray) : memB t opList = memB t signList := by
  have h1 : (opList.all fun x => memB x signList) = true := by decide +kernel
  have h2 : (signList.all fun x => memB x opList) = true := by decide +kernel
  rw [Bool.eq_iff_iff]
  constructor
  · intro h; exact List.all_eq_true.1 h1 t ((memB_iff t _).1 h)
  · intro h; exact List.all_eq_true.1 h2 t ((memB_iff t _).1 h)
set_option maxHeartbeats 1000000 in
theorem roperators_any (w : World) : Calls Tryz.prog 80 #[] w fun e w' => e = .returned (.slice (some ⟨w.heap.size, 0, none⟩) 24 24) ∧ w' = w.alloc (.cells (opList.map Value.string).toArray 9) := by
  go_enter Tryz.func80, Tryz.ntmps80
  go_wp2_with fail
  go_ret
  exact ⟨rfl, rfl⟩
end Go.Proofs.YtafofcenphopbaaGreatDoor
