/- Walks: the scanner's constants in quotes. -/
import Derived.Test.YtafofcenphopbaaGreatDoorA6
namespace Go.Proofs.YtafofcenphopbaaGreatDoor
open Go.RowKit Lx

theorem infoB : (Tryz.prog.info? 5).map (fun i => (i.zero, i.size, i.bytes)) = some (some (.int .u8 0), 1, 1) := by kernel_rfl
/-- The cells of bytes. -/
def bcells (l : Bs) : List Value := l.map fun c => .int .u8 c.toNat
theorem bcells_snoc (l : Bs) (c : UInt8) : bcells (l ++ [c]) = bcells l ++ [.int .u8 c.toNat] := by simp [bcells]
theorem bcells_len (l : Bs) : (bcells l).length = l.length := by simp [bcells]

/-- string(b) of a row of the call's own. -/
theorem run_conv_own (W : World) (B : Nat) (bv : Value) (t : Bs) (hown : W.ownsRow B 5 1 bv t.length (bcells t)) :
    (convert 73 9 bv).run Tryz.prog W = .ok (.string ⟨t.toArray⟩) W := by
  rcases hown.2 with ⟨rfl, h0⟩ | ⟨g, cap, cur, rfl, hB, hg, hnc, hcm, hcs, htake⟩
  · have : t = [] := List.eq_nil_of_length_eq_zero h0
    subst this
    exact run_convert_bytes_nil W _ _ undBs undB _ _ _ undS
  · have h := run_convert_bytes_arg (P := Tryz.prog) W 73 5 undBs undB g 0 t.length cap (t.map fun c => ((c.toNat : Nat) : Int)) (by simp) (fun i hi => by
      have hc := hown.cells (g := g) rfl i (.int .u8 ((t[i]'hi).toNat : Nat)) (by simp [bcells, hi])
      have ha : (⟨g, 0, none⟩ : Addr).add i = ⟨g, 0 + i, none⟩ := by unfold Addr.add; split <;> simp_all
      rw [ha] at hc
      rw [hc, getD_lt _ i 0 (by simpa using hi)]; simp) 9 undS
    refine h.trans ?_
    rw [show strOfNums (t.map fun c => ((c.toNat : Nat) : Int)) = ⟨t.toArray⟩ from ba_ext (by simp [strOfNums, Function.comp_def])]

set_option maxHeartbeats 2000000 in
set_option maxRecDepth 100000 in
theorem scanQuoted_any (b r : Nat) (s : ByteArray) (i : Nat) (v : Value) (hi : i < s.size) (hs : s.size ≤ 2147483647) (w : World) (hsc : Scn w b s i r v) :
    Calls Tryz.prog 110 #[.pointer (some ⟨b, 0, none⟩)] w fun e w' => e = .returned (gotV (quoTok (s.data.toList.drop i)) i) ∧ Below w.heap.size w w' := by
  obtain ⟨i0, hi0, hz0, hz1, hz2⟩ := info_parts infoB
  have hblt := hsc.lt
  obtain ⟨k0, k1, k2, k3⟩ := hsc.cell
  go_enter Tryz.func110, Tryz.ntmps110
  go_upto_block 0 with fail
  have b1 := below_box w (.cells #[.int .i64 0, .string ⟨#[]⟩, .int .i64 0] 24)
  have n1 := heap_alloc_new w (.cells #[.int .i64 0, .string ⟨#[]⟩, .int .i64 0] 24)
  generalize w.alloc (.cells #[.int .i64 0, .string ⟨#[]⟩, .int .i64 0] 24) = w1 at b1 n1 ⊢
  have sc1 := hsc.below b1
  have N1 := Lib.hid n1
  clear n1 k0 k1 k2 k3
  have hBlt := (Array.getElem?_eq_some_iff.1 N1.out).1
  go_cut [5, 6] (fun bv q wx => ∃ (t : Bs) (n : Nat), quo (s.data.toList.drop (i + 1)) = some (t, n) ∧ q = .int .i64 (i + 1 + n : Nat) ∧ wx.ownsRow w1.heap.size 5 1 bv t.length (bcells t) ∧ Below w1.heap.size w1 wx)
  case first =>
    go_wp2_with fail
    go_loopw [5, 6] (fun bv q wr => ∃ (j : Nat) (acc : Bs), i + 1 ≤ j ∧ j ≤ s.size ∧ q = .int .i64 j ∧ quo (s.data.toList.drop (i + 1)) = (quo (s.data.toList.drop j)).map (fun x => (acc ++ x.1, x.2 + (j - (i + 1)))) ∧ acc.length ≤ j - (i + 1) ∧
      wr.ownsRow w1.heap.size 5 1 bv acc.length (bcells acc) ∧ Below w1.heap.size w1 wr) (fun _ q _ => s.size - (intOf q).toNat)
    case atStart => exact ⟨i + 1, [], Nat.le_refl _, by omega, by go_num, by simp, by simp, World.ownsRow_nil _ _ _ _, Below.refl _ _⟩
    case round =>
      obtain ⟨j, acc, hij, hj, rfl, hq, hal, hown, hbr⟩ := hrel
      have HQ := Lib.hid hq
      clear hq
      have scr : Scn wr b s i r v := (hbr.block b sc1.lt).trans sc1
      obtain ⟨k0, k1, k2, k3⟩ := scr.cell
      have hra := atI_range s (j : Int)
      by_cases hsh : shownI (atI s (j : Int)) = true
      · obtain ⟨lo, hi2⟩ := shown_pos hsh
        have hlt := atI_lt s j (by omega)
        have d1 : decide (atI s (j : Int) < 32) = false := by simp; omega
        have d2 : decide (126 < atI s (j : Int)) = false := by simp; omega
        have hby : (atI s (j : Int)) = ((s[j]'hlt).toNat : Int) := atI_get s j hlt
        by_cases h39 : atI s (j : Int) = 39
        · have e39 : (atI s (j : Int) == 39) = true := by rw [h39]; rfl
          by_cases h2 : atI s ((j : Int) + 1) = 39
          · have n39 : (atI s ((j : Int) + 1) != 39) = false := by rw [h2]; rfl
            have hst := Lib.hid (quo_two s j h39 h2)
            have hlt2 : j + 1 < s.size := atI_lt s (j + 1) (by rw [show ((j + 1 : Nat) : Int) = (j : Int) + 1 from by omega]; omega)
            have H39 := Lib.hid h39
            have HBY := Lib.hid hby
            clear h39 h2 hby
            go_wp2_with (first | (go_at_call 86; refine (at_any _ _ _).mono ?_; rintro e w' ⟨rfl, hw⟩; rw [hw]; clear hw) | (at_builtin; refine wpList_append_own _ rfl _ _ 73 rfl w1.heap.size 5 i0 (.int .u8 0) 1 1 undBs hi0 hz0 hz1 hz2 rfl (by decide) _ _ _ rfl (hown.alloc _) ⟨wr.heap.size, 0, none⟩ 1 1 [.int .u8 (atI s (j : Int))] rfl rfl ?c1 ?c2 ?c3 ?c4 ?c5 ?_))
            case c1 =>
              intro jj u hj
              match jj, hj with
              | 0, hj => simp at hj; subst hj; simp [Addr.add]
            case c2 => intro u hu; simp at hu; subst hu; rfl
            case c3 => unfold maxLen; omega
            case c4 => omega
            case c5 => have := hbr.size; simp; omega
            intro v' w2 hown' hgrow _
            have hb2 : Below w1.heap.size w1 w2 := (hbr.alloc hbr.size _).grown hgrow (by have := hbr.size; simp; omega) (fun k hk => (hown.lt k hk).1)
            have hx : bcells acc ++ [.int .u8 (atI s (j : Int))] = bcells (acc ++ [39]) := by rw [bcells_snoc, H39.out]; rfl
            rw [hx] at hown'
            clear hx
            go_wp2_with fail
            go_roundw
            case rel => exact ⟨j + 2, acc ++ [39], by omega, by omega, by go_num, by rw [HQ.out, hst.out, map_two, show j - (i + 1) + 2 = j + 2 - (i + 1) from by omega], by rw [List.length_append]; show acc.length + 1 ≤ _; omega, by simpa using hown', hb2⟩
            case measure => simp [intOf]; omega
          · have n39 : (atI s ((j : Int) + 1) != 39) = true := by rw [bne_iff_ne]; exact h2
            have hend : quo (s.data.toList.drop (i + 1)) = some (acc, j - i) := by rw [HQ.out, quo_end s j h39 h2]; simp; omega
            have HE := Lib.hid hend
            clear h39 h2 hby hend
            go_wp2_with (go_at_call 86; refine (at_any _ _ _).mono ?_; rintro e w' ⟨rfl, hw⟩; rw [hw]; clear hw)
            go_meet
            case rel => exact ⟨acc, j - i, HE.out, by go_num, hown, hbr⟩
        · have e39 : (atI s (j : Int) == 39) = false := by rw [beq_eq_false_iff_ne]; exact h39
          have hst := Lib.hid (quo_plain s j hlt hsh h39)
          have HBY := Lib.hid hby
          clear h39 hby
          go_wp2_with (first | (go_at_call 86; refine (at_any _ _ _).mono ?_; rintro e w' ⟨rfl, hw⟩; rw [hw]; clear hw) | (at_builtin; refine wpList_append_own _ rfl _ _ 73 rfl w1.heap.size 5 i0 (.int .u8 0) 1 1 undBs hi0 hz0 hz1 hz2 rfl (by decide) _ _ _ rfl (hown.alloc _) ⟨wr.heap.size, 0, none⟩ 1 1 [.int .u8 (atI s (j : Int))] rfl rfl ?c1 ?c2 ?c3 ?c4 ?c5 ?_))
          case c1 =>
            intro jj u hj
            match jj, hj with
            | 0, hj => simp at hj; subst hj; simp [Addr.add]
          case c2 => intro u hu; simp at hu; subst hu; rfl
          case c3 => unfold maxLen; omega
          case c4 => omega
          case c5 => have := hbr.size; simp; omega
          intro v' w2 hown' hgrow _
          have hb2 : Below w1.heap.size w1 w2 := (hbr.alloc hbr.size _).grown hgrow (by have := hbr.size; simp; omega) (fun k hk => (hown.lt k hk).1)
          have hx : bcells acc ++ [.int .u8 (atI s (j : Int))] = bcells (acc ++ [s[j]]) := by rw [bcells_snoc, HBY.out]
          rw [hx] at hown'
          clear hx
          go_wp2_with fail
          go_roundw
          case rel => exact ⟨j + 1, acc ++ [s[j]], by omega, by omega, by go_num, by rw [HQ.out, hst.out, map_two, show j - (i + 1) + 1 = j + 1 - (i + 1) from by omega], by rw [List.length_append]; show acc.length + 1 ≤ _; omega, by simpa using hown', hb2⟩
          case measure => simp [intOf]; omega
      · have hsh0 : shownI (atI s (j : Int)) = false := by simpa using hsh
        have hnone : quo (s.data.toList.drop (i + 1)) = none := by rw [HQ.out, quo_bad s j hsh0]; rfl
        have HT := Lib.hid (quoTok_none s i hnone)
        have r1 : wr.heap[w.heap.size]? = _ := (hbr.block _ hBlt).trans N1.out
        have q0 := cell_of_row _ _ 0 _ _ _ r1
        have q1 := cell_of_row _ _ 1 _ _ _ r1
        have q2 := cell_of_row _ _ 2 _ _ _ r1
        have f0 := Lib.frozen_of_heap r1 0
        have f1 := Lib.frozen_of_heap r1 1
        have f2 := Lib.frozen_of_heap r1 2
        have HB := Lib.hid hbr
        clear hnone HQ hbr hown
        have hc : decide (atI s (j : Int) < 32) = true ∨ (decide (atI s (j : Int) < 32) = false ∧ decide (126 < atI s (j : Int)) = true) := by
          unfold shownI at hsh0
          by_cases h : atI s (j : Int) < 32
          · left; simpa using h
          · right; simp at hsh0 ⊢; omega
        clear hsh hsh0
        rcases hc with hc | ⟨hc, hc2⟩
        all_goals
          go_wp2_with (go_at_call 86; refine (at_any _ _ _).mono ?_; rintro e w' ⟨rfl, hw⟩; rw [hw]; clear hw)
          refine bodyPost_ret (v := .tuple #[.agg #[.int .i64 0, .string ⟨#[]⟩, .int .i64 0], .int .i64 0, .bool false]) (by simp [results, Tryz.results110, go_sem, q0, q1, q2]) rfl ⟨by rw [HT.out]; rfl, below_far3 (b1.trans (HB.out.mono b1.size)) _ _ _⟩
  case rest =>
    rename World => wd
    obtain ⟨t, n, hq, rfl, hown, hbc⟩ := hcut
    have hlen := quo_len _ _ _ hq
    have hn : n ≤ 2147483647 := by
      have := hlen.1; simp at this
      have h2 : s.data.size = s.size := rfl
      omega
    have HT := Lib.hid (quoTok_some s i t n hq)
    have scc : Scn wd b s i r v := (hbc.block b sc1.lt).trans sc1
    obtain ⟨k0, k1, k2, k3⟩ := scc.cell
    have a0 : ∀ o, (wd.alloc o).cell? ⟨b, 0, none⟩ = some (.string s) := fun o => (scc.below (below_box wd o)).cell.1
    have a1 : ∀ o, (wd.alloc o).cell? ⟨b, 1, none⟩ = some (.int .i64 i) := fun o => (scc.below (below_box wd o)).cell.2.1
    have r0 : wd.heap[w.heap.size]? = _ := (hbc.block _ hBlt).trans N1.out
    have hBlt2 := (Array.getElem?_eq_some_iff.1 r0).1
    have R0 := Lib.hid r0
    have c1 := run_conv_own wd.drew _ _ t hown
    have c2 := run_conv_own (wd.alloc (.cells #[.int .i64 0, .string ⟨#[]⟩, .int .i64 0] 24)).drew _ _ t (hown.alloc _)
    have HBC := Lib.hid hbc
    clear hq hlen r0 hbc
    go_upto_region 11 with fail
    go_cut [8] (fun p8 wx => p8 = .pointer (some ⟨wd.heap.size, 0, none⟩) ∧ wx.heap[wd.heap.size]? = some (.cells #[.int .i64 4, .string ⟨t.toArray⟩, .int .i64 i] 24 (0, 0)) ∧ Below wd.heap.size wd wx)
    case first =>
      go_region
      all_goals
        go_wp2_with fail
        go_meet
        case rel => exact ⟨rfl, heap_alloc_new wd (.cells #[.int .i64 4, .string ⟨t.toArray⟩, .int .i64 i] 24), (below_box wd (.cells #[.int .i64 4, .string ⟨t.toArray⟩, .int .i64 i] 24)).drew⟩
    case rest =>
    rename World => w2
    obtain ⟨rfl, n2, b2⟩ := hcut
    clear a0 a1 c1 c2 k0 k1 k2 k3
    have hbc := HBC.out
    have r0 := R0.out
    have sc2 := scc.below b2
    obtain ⟨k0, k1, k2, k3⟩ := sc2.cell
    have t0 : w2.cell? ⟨wd.heap.size, 0, none⟩ = some (.int .i64 4) := cell_of_row w2 wd.heap.size 0 _ _ _ n2
    have f0 := Lib.frozen_of_heap n2 0
    have N2 := Lib.hid n2
    clear n2
    obtain ⟨q, hqe⟩ : ∃ q : Int, q = (i : Int) + 1 + n := ⟨_, rfl⟩
    have eq1 : ((i + 1 + n : Nat) : Int) = q := by omega
    have eq2 : ((i + 1 + n + 1 : Nat) : Int) = q + 1 := by omega
    rw [eq1, eq2] at HT
    have hq0 : 0 ≤ q ∧ q ≤ 4294967299 := by omega
    have HQE := Lib.hid hqe
    first | simp only [eq1] | simp only [← hqe]
    clear hqe eq1 eq2
    go_upto_region 13 with (go_at_call 86; refine (at_any _ _ _).mono ?_; rintro e w' ⟨rfl, hw⟩; rw [hw]; clear hw)
    go_cut [64] (fun c wx => w2 = wx ∧ c = .bool (isB (atI s q)))
    case first =>
      have h2 : ((atI s q == 66) = true ∧ isB (atI s q) = true) ∨ ((atI s q == 66) = false ∧ (atI s q == 98) = true ∧ isB (atI s q) = true) ∨ ((atI s q == 66) = false ∧ (atI s q == 98) = false ∧ isB (atI s q) = false) := by
        unfold isB
        cases (atI s q == 66) <;> cases (atI s q == 98) <;> simp
      rcases h2 with ⟨h2, h3⟩ | ⟨h2, h3, h4⟩ | ⟨h2, h3, h4⟩
      all_goals
        go_wp2_with fail
        go_meet
        case rel => exact ⟨rfl, by simp [*]⟩
    case rest =>
      obtain ⟨rfl, rfl⟩ := hcut
      have F1 := far3 (B := w.heap.size) (b := b) (by have := hblt; omega)
      have F2 := far3 (B := w.heap.size) (b := wd.heap.size) (by omega)
      clear k0 k1 k2 k3
      obtain ⟨c, hc⟩ : ∃ c, c = isB (atI s q) := ⟨_, rfl⟩
      have HIS := Lib.hid hc.symm
      simp only [← hc]
      clear hc
      cases c
      · go_upto_region 16 with fail
        have hr := atI_range s q
        have b3 := b2
        have n3 := N2.out
        have r1 : w2.heap[w.heap.size]? = _ := (b3.block _ hBlt2).trans r0
        have sc3 : Scn w2 b s i r v := (b3.block b scc.lt).trans scc
        obtain ⟨k0, k1, k2, k3⟩ := sc3.cell
        have t0 : w2.cell? ⟨wd.heap.size, 0, none⟩ = some (.int .i64 4) := cell_of_row _ _ 0 _ _ _ n3
        have t1 : w2.cell? ⟨wd.heap.size, 1, none⟩ = some (.string ⟨t.toArray⟩) := cell_of_row _ _ 1 _ _ _ n3
        have t2 : w2.cell? ⟨wd.heap.size, 2, none⟩ = some (.int .i64 i) := cell_of_row _ _ 2 _ _ _ n3
        have q0 : w2.cell? ⟨w.heap.size, 0, none⟩ = some (.int .i64 0) := cell_of_row _ _ 0 _ _ _ r1
        have q1 : w2.cell? ⟨w.heap.size, 1, none⟩ = some (.string ⟨#[]⟩) := cell_of_row _ _ 1 _ _ _ r1
        have q2 : w2.cell? ⟨w.heap.size, 2, none⟩ = some (.int .i64 0) := cell_of_row _ _ 2 _ _ _ r1
        have f0 := Lib.frozen_of_heap r1 0
        have f1 := Lib.frozen_of_heap r1 1
        have f2 := Lib.frozen_of_heap r1 2
        have B3 := Lib.hid b3
        clear r1 n3 b3 sc3
        go_region_held3 (fun w' => w'.cell? ⟨b, 0, none⟩ = some (.string s) ∧ w'.cell? ⟨wd.heap.size, 0, none⟩ = some (.int .i64 4) ∧ w'.cell? ⟨wd.heap.size, 1, none⟩ = some (.string ⟨t.toArray⟩) ∧ w'.cell? ⟨wd.heap.size, 2, none⟩ = some (.int .i64 i)) (go_keep) (first | (go_at_call 86; refine (at_any _ _ _).mono ?_; rintro e w' ⟨rfl, hw⟩; rw [hw]; clear hw) | (go_at_call 100; refine (part_any _ hr.1 hr.2 _).mono ?_; rintro e w' ⟨rfl, n, rfl⟩))
        go_wp2_with fail
        refine bodyPost_ret (v := .tuple #[.agg #[.int .i64 4, .string ⟨t.toArray⟩, .int .i64 i], .int .i64 q, .bool (!partI (atI s q))]) (by simp [results, Tryz.results110, go_sem, q0, q1, q2]) rfl ⟨?_, ?_⟩
        · rw [HT.out, HIS.out]; exact gotV_ret rfl (by have := HQE.out; omega) (by have := HQE.out; rfl)
        · exact below_far3 (below_drewN (b1.trans ((hbc.trans (B3.out.mono hbc.size)).mono b1.size)) _) _ _ _
      · go_upto_region 16 with fail
        have hr := atI_range s (q + 1)
        have b3 := b2.setCell (p := ⟨wd.heap.size, 0, none⟩) (Nat.le_refl _) (.int .i64 5)
        have n3 : (w2.setCell ⟨wd.heap.size, 0, none⟩ (.int .i64 5)).heap[wd.heap.size]? = some (.cells #[.int .i64 5, .string ⟨t.toArray⟩, .int .i64 i] 24 (0, 0)) := by
          simp [World.setCell, Array.getElem?_modify, N2.out]
        generalize w2.setCell ⟨wd.heap.size, 0, none⟩ (.int .i64 5) = w3 at b3 n3 ⊢
        have r1 : w3.heap[w.heap.size]? = _ := (b3.block _ hBlt2).trans r0
        have sc3 : Scn w3 b s i r v := (b3.block b scc.lt).trans scc
        obtain ⟨k0, k1, k2, k3⟩ := sc3.cell
        have t0 : w3.cell? ⟨wd.heap.size, 0, none⟩ = some (.int .i64 5) := cell_of_row _ _ 0 _ _ _ n3
        have t1 : w3.cell? ⟨wd.heap.size, 1, none⟩ = some (.string ⟨t.toArray⟩) := cell_of_row _ _ 1 _ _ _ n3
        have t2 : w3.cell? ⟨wd.heap.size, 2, none⟩ = some (.int .i64 i) := cell_of_row _ _ 2 _ _ _ n3
        have q0 : w3.cell? ⟨w.heap.size, 0, none⟩ = some (.int .i64 0) := cell_of_row _ _ 0 _ _ _ r1
        have q1 : w3.cell? ⟨w.heap.size, 1, none⟩ = some (.string ⟨#[]⟩) := cell_of_row _ _ 1 _ _ _ r1
        have q2 : w3.cell? ⟨w.heap.size, 2, none⟩ = some (.int .i64 0) := cell_of_row _ _ 2 _ _ _ r1
        have f0 := Lib.frozen_of_heap r1 0
        have f1 := Lib.frozen_of_heap r1 1
        have f2 := Lib.frozen_of_heap r1 2
        have B3 := Lib.hid b3
        clear r1 n3 b3 sc3
        go_region_held3 (fun w' => w'.cell? ⟨b, 0, none⟩ = some (.string s) ∧ w'.cell? ⟨wd.heap.size, 0, none⟩ = some (.int .i64 5) ∧ w'.cell? ⟨wd.heap.size, 1, none⟩ = some (.string ⟨t.toArray⟩) ∧ w'.cell? ⟨wd.heap.size, 2, none⟩ = some (.int .i64 i)) (go_keep) (first | (go_at_call 86; refine (at_any _ _ _).mono ?_; rintro e w' ⟨rfl, hw⟩; rw [hw]; clear hw) | (go_at_call 100; refine (part_any _ hr.1 hr.2 _).mono ?_; rintro e w' ⟨rfl, n, rfl⟩))
        go_wp2_with fail
        refine bodyPost_ret (v := .tuple #[.agg #[.int .i64 5, .string ⟨t.toArray⟩, .int .i64 i], .int .i64 (q + 1), .bool (!partI (atI s (q + 1)))]) (by simp [results, Tryz.results110, go_sem, q0, q1, q2]) rfl ⟨?_, ?_⟩
        · rw [HT.out, HIS.out]; exact gotV_ret rfl (by have := HQE.out; omega) (by have := HQE.out; rfl)
        · exact below_far3 (below_drewN (b1.trans ((hbc.trans (B3.out.mono hbc.size)).mono b1.size)) _) _ _ _
end Go.Proofs.YtafofcenphopbaaGreatDoor
