/- Walks: the scanner's number. -/
import Derived.Test.YtafofcenphopbaaGreatDoorA5
import Derived.Test.YtafofcenphopbaaGreatDoorP3
import Derived.BigRegion
import Derived.StillTailTactics
import Derived.Deep.RegionHeld3
import Derived.Deep.RegionWith
import Derived.Deep.DeepCutAuto
import Derived.Deep.CutBlock
namespace Go.Proofs.YtafofcenphopbaaGreatDoor
open Go.RowKit Lx

/-- The scanner's four cells in block b. -/
def Scn (w : World) (b : Nat) (s : ByteArray) (i : Nat) (r : Nat) (v : Value) : Prop :=
  w.heap[b]? = some (.cells #[.string s, .int .i64 i, .map (some r), v] 123 (0, 0))
theorem Scn.cell {w : World} {b : Nat} {s : ByteArray} {i r : Nat} {v : Value} (h : Scn w b s i r v) : w.cell? ⟨b, 0, none⟩ = some (.string s) ∧ w.cell? ⟨b, 1, none⟩ = some (.int .i64 i) ∧ w.cell? ⟨b, 2, none⟩ = some (.map (some r)) ∧ w.cell? ⟨b, 3, none⟩ = some v := by
  unfold Scn at h
  exact ⟨cell_of_row _ _ _ _ _ _ h, cell_of_row _ _ _ _ _ _ h, cell_of_row _ _ _ _ _ _ h, cell_of_row _ _ _ _ _ _ h⟩
theorem Scn.lt {w : World} {b : Nat} {s : ByteArray} {i r : Nat} {v : Value} (h : Scn w b s i r v) : b < w.heap.size := (Array.getElem?_eq_some_iff.1 h).1
theorem Scn.below {w w' : World} {b : Nat} {s : ByteArray} {i r : Nat} {v : Value} (h : Scn w b s i r v) (hb : Below w.heap.size w w') : Scn w' b s i r v :=
  (hb.block b h.lt).trans h

def tokV (k : Int) (t : ByteArray) (i : Int) : Value := .agg #[.int .i64 k, .string t, .int .i64 i]
def gotV (g : Option Got) (i : Nat) : Value :=
  match g with
  | some g => .tuple #[tokV g.kind ⟨g.text.toArray⟩ i, .int .i64 (i + g.len : Nat), .bool g.ok]
  | none => .tuple #[tokV 0 ⟨#[]⟩ 0, .int .i64 0, .bool false]

theorem far3 {B b : Nat} (h : B ≠ b) (w : World) (j : Nat) (x y z : Value) :
    (((w.setCell ⟨B, 0, none⟩ x).setCell ⟨B, 1, none⟩ y).setCell ⟨B, 2, none⟩ z).cell? ⟨b, j, none⟩ = w.cell? ⟨b, j, none⟩ := by
  rw [World.cell?_setCell_far _ _ _ _ h, World.cell?_setCell_far _ _ _ _ h, World.cell?_setCell_far _ _ _ _ h]
theorem below_far3 {B : Nat} {w0 w : World} (hb : Below B w0 w) (x y z : Value) :
    Below B w0 (((w.setCell ⟨B, 0, none⟩ x).setCell ⟨B, 1, none⟩ y).setCell ⟨B, 2, none⟩ z) :=
  ((hb.setCell (p := ⟨B, 0, none⟩) (Nat.le_refl _) _).setCell (p := ⟨B, 1, none⟩) (Nat.le_refl _) _).setCell (p := ⟨B, 2, none⟩) (Nat.le_refl _) _

theorem extract_take (s : ByteArray) (i j : Nat) (_h : i ≤ j) (_hj : j ≤ s.size) : s.extract i j = ⟨((s.data.toList.drop i).take (j - i)).toArray⟩ := by
  apply ba_ext
  simp [ByteArray.data_extract, List.take_drop]
theorem gotV_ret {kk : Int} {t : ByteArray} {l : Bs} {i n : Nat} {m : Int} {x y : Bool} (h1 : t = ⟨l.toArray⟩) (h2 : m = ((i + n : Nat) : Int)) (h3 : x = y) :
    Ending.returned (.tuple #[.agg #[.int .i64 kk, .string t, .int .i64 i], .int .i64 m, .bool x]) = .returned (gotV (some ⟨kk, l, n, y⟩) i) := by rw [h1, h2, h3]; rfl

set_option maxHeartbeats 1000000 in
set_option maxRecDepth 100000 in
theorem scanNumber_any (b r : Nat) (s : ByteArray) (i : Nat) (v : Value) (hi : i < s.size) (hs : s.size ≤ 2147483647) (w : World) (hsc : Scn w b s i r v) :
    Calls Tryz.prog 111 #[.pointer (some ⟨b, 0, none⟩)] w fun e w' => e = .returned (gotV (some (numTok (s.data.toList.drop i))) i) ∧ Below w.heap.size w w' := by
  obtain ⟨k0, k1, k2, k3⟩ := hsc.cell
  have hblt := hsc.lt
  go_enter Tryz.func111, Tryz.ntmps111
  go_upto_block 0 with fail
  have b1 := below_box w (.cells #[.int .i64 0, .string ⟨#[]⟩, .int .i64 0] 24)
  have n1 := heap_alloc_new w (.cells #[.int .i64 0, .string ⟨#[]⟩, .int .i64 0] 24)
  generalize w.alloc (.cells #[.int .i64 0, .string ⟨#[]⟩, .int .i64 0] 24) = w1 at b1 n1 ⊢
  have sc1 := hsc.below b1
  obtain ⟨k0, k1, k2, k3⟩ := sc1.cell
  have N1 := Lib.hid n1
  clear n1
  go_cut [5, 6] (fun q pt wx => w1 = wx ∧ ∃ (j : Nat) (p : Bool), i ≤ j ∧ j ≤ s.size ∧ q = .int .i64 j ∧ pt = .bool p ∧ numScan (s.data.toList.drop i) false = (j - i, p))
  case first =>
    go_wp2_with fail
    go_loop [5, 6] (fun q pt => ∃ (j : Nat) (p : Bool), i ≤ j ∧ j ≤ s.size ∧ q = .int .i64 j ∧ pt = .bool p ∧ numScan (s.data.toList.drop i) false = ((numScan (s.data.toList.drop j) p).1 + (j - i), (numScan (s.data.toList.drop j) p).2)) (fun q _ => s.size - (intOf q).toNat)
    case atStart => exact ⟨i, false, Nat.le_refl _, by omega, rfl, rfl, by simp⟩
    case round =>
      obtain ⟨j, p, hij, hj, rfl, rfl, hq⟩ := hrel
      have HQ := Lib.hid hq
      clear hq
      have hjs : digI (atI s (j : Int)) = true → j < s.size := by
        intro h
        rcases Nat.lt_or_ge j s.size with h' | h'
        · exact h'
        · rw [atI_out s j (by omega)] at h; cases h
      by_cases hd : digI (atI s (j : Int)) = true
      · have hlt := hjs hd
        have h46 : (atI s (j : Int) == 46) = false := by
          rw [beq_eq_false_iff_ne]; intro h; rw [h] at hd; cases hd
        have hst := Lib.hid (numScan_digit s j p hd)
        clear hjs
        go_wp2_with (first | (go_at_call 86; refine (at_any _ _ _).mono ?_; rintro e w' ⟨rfl, hw⟩; rw [hw]; clear hw) | (go_at_call 87; refine (digit_any _ _).mono ?_; rintro e w' ⟨rfl, hw⟩; rw [hw]; clear hw))
        go_round
        case rel => exact ⟨j + 1, p, by omega, by omega, by go_num, rfl, by rw [HQ.out, hst.out]; simp; omega⟩
        case measure => simp [intOf]; omega
      · have hd0 : digI (atI s (j : Int)) = false := by simpa using hd
        clear hd hjs
        by_cases hpt : atI s (j : Int) = 46 ∧ p = false ∧ digI (atI s ((j : Int) + 1)) = true
        · obtain ⟨h46, rfl, hn⟩ := hpt
          have hlt : j < s.size := by
            rcases Nat.lt_or_ge j s.size with h' | h'
            · exact h'
            · rw [atI_out s j (by omega)] at h46; cases h46
          have hst := Lib.hid (numScan_point s j h46 hn)
          have hq46 : (atI s (j : Int) == 46) = true := by rw [h46]; rfl
          clear h46
          go_wp2_with (first | (go_at_call 86; refine (at_any _ _ _).mono ?_; rintro e w' ⟨rfl, hw⟩; rw [hw]; clear hw) | (go_at_call 87; refine (digit_any _ _).mono ?_; rintro e w' ⟨rfl, hw⟩; rw [hw]; clear hw))
          go_round
          case rel => exact ⟨j + 1, true, by omega, by omega, by go_num, rfl, by rw [HQ.out, hst.out]; simp; omega⟩
          case measure => simp [intOf]; omega
        · have hst := Lib.hid (numScan_end s j p hd0 hpt)
          have hn : (numScan (s.data.toList.drop i) false) = (j - i, p) := by rw [HQ.out, hst.out]; simp
          have HN := Lib.hid hn
          have HP := Lib.hid hpt
          clear hn HQ hst hpt
          go_wp2_with (first | (go_at_call 86; refine (at_any _ _ _).mono ?_; rintro e w' ⟨rfl, hw⟩; rw [hw]; clear hw) | (go_at_call 87; refine (digit_any _ _).mono ?_; rintro e w' ⟨rfl, hw⟩; rw [hw]; clear hw))
          all_goals try
            (exfalso; exact HP.out ⟨by assumption, by have hp : ¬ p = true := by assumption
                                                      simpa using hp, by assumption⟩)
          all_goals
            go_meet
            case rel =>
              first
                | exact ⟨rfl, j, p, hij, hj, rfl, rfl, HN.out⟩
                | (have hp : p = true := by assumption
                   exact ⟨rfl, j, true, hij, hj, rfl, rfl, by rw [HN.out, hp]⟩)
                | (have hp : ¬ p = true := by assumption
                   exact ⟨rfl, j, false, hij, hj, rfl, rfl, by rw [HN.out]; simpa using hp⟩)
  case rest =>
    obtain ⟨rfl, j, p, hij, hj, rfl, rfl, hn⟩ := hcut
    have HN := Lib.hid hn
    clear hn
    have hx : (i : Int) ≤ j := by omega
    have hx2 : (j : Int) ≤ s.size := by omega
    have a0 : ∀ o, (w1.alloc o).cell? ⟨b, 0, none⟩ = some (.string s) := fun o => (sc1.below (below_box w1 o)).cell.1
    have a1 : ∀ o, (w1.alloc o).cell? ⟨b, 1, none⟩ = some (.int .i64 i) := fun o => (sc1.below (below_box w1 o)).cell.2.1
    go_wp2_with fail
    go_region
    clear a0 a1 k0 k1 k2 k3
    have b2 := (below_box w1 (.cells #[.int .i64 2, .string (s.extract i j), .int .i64 i] 24)).drew
    have n2 : (w1.alloc (.cells #[.int .i64 2, .string (s.extract i j), .int .i64 i] 24)).drew.heap[w1.heap.size]? = _ := heap_alloc_new w1 (.cells #[.int .i64 2, .string (s.extract i j), .int .i64 i] 24)
    generalize (w1.alloc (.cells #[.int .i64 2, .string (s.extract i j), .int .i64 i] 24)).drew = w2 at b2 n2 ⊢
    have sc2 := sc1.below b2
    obtain ⟨k0, k1, k2, k3⟩ := sc2.cell
    have t0 : w2.cell? ⟨w1.heap.size, 0, none⟩ = some (.int .i64 2) := cell_of_row w2 w1.heap.size 0 _ _ _ n2
    have f0 := Lib.frozen_of_heap n2 0
    have N2 := Lib.hid n2
    clear n2
    go_upto_region 9 with (go_at_call 86; refine (at_any _ _ _).mono ?_; rintro e w' ⟨rfl, hw⟩; rw [hw]; clear hw)
    go_cut [71] (fun c wx => w2 = wx ∧ c = .bool (isB (atI s (j : Int)) && !p))
    case first =>
      have h2 : ((atI s (j : Int) == 66) = true ∧ isB (atI s (j : Int)) = true) ∨ ((atI s (j : Int) == 66) = false ∧ (atI s (j : Int) == 98) = true ∧ isB (atI s (j : Int)) = true) ∨ ((atI s (j : Int) == 66) = false ∧ (atI s (j : Int) == 98) = false ∧ isB (atI s (j : Int)) = false) := by
        unfold isB
        cases (atI s (j : Int) == 66) <;> cases (atI s (j : Int) == 98) <;> simp
      rcases h2 with ⟨h2, h3⟩ | ⟨h2, h3, h4⟩ | ⟨h2, h3, h4⟩
      all_goals
        cases p
        all_goals
          go_wp2_with fail
          go_meet
          case rel => exact ⟨rfl, by simp [*]⟩
    case rest =>
      obtain ⟨rfl, rfl⟩ := hcut
      have hat := atI_nat s j
      obtain ⟨kk, e, hbb, hnt, hie, hej⟩ : ∃ (kk : Int) (e : Nat), ((isB (atI s (j : Int)) && !p) = true ∧ kk = 3 ∧ e = j + 1 ∧ j < s.size ∨ (isB (atI s (j : Int)) && !p) = false ∧ kk = 2 ∧ j = e) ∧
          numTok (s.data.toList.drop i) = ⟨kk, (s.data.toList.drop i).take (j - i), e - i, !partI (atI s (e : Int))⟩ ∧ i ≤ e ∧ e ≤ j + 1 := by
        by_cases hB : isB (atI s (j : Int)) = true ∧ p = false
        · obtain ⟨h1, rfl⟩ := hB
          have hlt : j < s.size := by
            rcases Nat.lt_or_ge j s.size with h' | h'
            · exact h'
            · rw [atI_out s j (by omega)] at h1; cases h1
          refine ⟨3, j + 1, .inl ⟨by rw [h1]; rfl, rfl, rfl, hlt⟩, ?_, by omega, by omega⟩
          unfold numTok
          rw [HN.out]
          simp only [List.drop_drop]
          rw [show i + (j - i) = j from by omega, ← hat, if_pos ⟨h1, trivial⟩, show i + (j - i + 1) = j + 1 from by omega, atI_nat s (j + 1), show j - i + 1 = j + 1 - i from by omega]
        · refine ⟨2, j, .inr ⟨?_, rfl, rfl⟩, ?_, by omega, by omega⟩
          · cases p
            · have h3 : isB (atI s (j : Int)) = false := by
                rw [Bool.eq_false_iff]; exact fun h => hB ⟨h, rfl⟩
              rw [h3]; rfl
            · simp
          · unfold numTok
            rw [HN.out]
            simp only [List.drop_drop]
            rw [show i + (j - i) = j from by omega, ← hat, if_neg hB]
      have HNT := Lib.hid hnt
      clear hnt hat HN
      generalize (isB (atI s (j : Int)) && !p) = c at hbb ⊢
      have hr := atI_range s (e : Int)
      have hBlt := (Array.getElem?_eq_some_iff.1 N1.out).1
      have F1 := far3 (B := w.heap.size) (b := b) (by have := hblt; omega)
      have F2 := far3 (B := w.heap.size) (b := w1.heap.size) (by omega)
      clear k0 k1 k2 k3
      rcases hbb with ⟨rfl, rfl, rfl, hlt⟩ | ⟨rfl, rfl, rfl⟩
      · go_upto_region 12 with fail
        have b3 := b2.setCell (p := ⟨w1.heap.size, 0, none⟩) (Nat.le_refl _) (.int .i64 3)
        have n3 : (w2.setCell ⟨w1.heap.size, 0, none⟩ (.int .i64 3)).heap[w1.heap.size]? = some (.cells #[.int .i64 3, .string (s.extract i j), .int .i64 i] 24 (0, 0)) := by
          simp [World.setCell, Array.getElem?_modify, N2.out]
        generalize w2.setCell ⟨w1.heap.size, 0, none⟩ (.int .i64 3) = w3 at b3 n3 ⊢
        have r1 : w3.heap[w.heap.size]? = _ := (b3.block _ hBlt).trans N1.out
        have sc3 : Scn w3 b s i r v := (b3.block b sc1.lt).trans sc1
        obtain ⟨k0, k1, k2, k3⟩ := sc3.cell
        have t0 : w3.cell? ⟨w1.heap.size, 0, none⟩ = some (.int .i64 3) := cell_of_row _ _ 0 _ _ _ n3
        have t1 : w3.cell? ⟨w1.heap.size, 1, none⟩ = some (.string (s.extract i j)) := cell_of_row _ _ 1 _ _ _ n3
        have t2 : w3.cell? ⟨w1.heap.size, 2, none⟩ = some (.int .i64 i) := cell_of_row _ _ 2 _ _ _ n3
        have q0 : w3.cell? ⟨w.heap.size, 0, none⟩ = some (.int .i64 0) := cell_of_row _ _ 0 _ _ _ r1
        have q1 : w3.cell? ⟨w.heap.size, 1, none⟩ = some (.string ⟨#[]⟩) := cell_of_row _ _ 1 _ _ _ r1
        have q2 : w3.cell? ⟨w.heap.size, 2, none⟩ = some (.int .i64 0) := cell_of_row _ _ 2 _ _ _ r1
        have f0 := Lib.frozen_of_heap r1 0
        have f1 := Lib.frozen_of_heap r1 1
        have f2 := Lib.frozen_of_heap r1 2
        have B3 := Lib.hid b3
        clear r1 n3 b3 sc3
        go_region_held3 (fun w' => w'.cell? ⟨b, 0, none⟩ = some (.string s) ∧ w'.cell? ⟨w1.heap.size, 0, none⟩ = some (.int .i64 3) ∧ w'.cell? ⟨w1.heap.size, 1, none⟩ = some (.string (s.extract i j)) ∧ w'.cell? ⟨w1.heap.size, 2, none⟩ = some (.int .i64 i)) (go_keep) (first | (go_at_call 86; refine (at_any _ _ _).mono ?_; rintro e w' ⟨rfl, hw⟩; rw [hw]; clear hw) | (go_at_call 100; refine (part_any _ hr.1 hr.2 _).mono ?_; rintro e w' ⟨rfl, n, rfl⟩))
        go_wp2_with fail
        refine bodyPost_ret (v := .tuple #[.agg #[.int .i64 3, .string (s.extract i j), .int .i64 i], .int .i64 ((j : Int) + 1), .bool (!partI (atI s ((j : Int) + 1)))]) (by simp [results, Tryz.results111, go_sem, q0, q1, q2]) rfl ⟨?_, ?_⟩
        · rw [HNT.out]; exact gotV_ret (by rw [extract_take s i j hij hj]) (by omega) rfl
        · exact below_far3 (below_drewN (b1.trans (B3.out.mono b1.size)) _) _ _ _
      · go_upto_region 12 with fail
        have b3 := b2
        have n3 := N2.out
        have r1 : w2.heap[w.heap.size]? = _ := (b3.block _ hBlt).trans N1.out
        have sc3 : Scn w2 b s i r v := (b3.block b sc1.lt).trans sc1
        obtain ⟨k0, k1, k2, k3⟩ := sc3.cell
        have t0 : w2.cell? ⟨w1.heap.size, 0, none⟩ = some (.int .i64 2) := cell_of_row _ _ 0 _ _ _ n3
        have t1 : w2.cell? ⟨w1.heap.size, 1, none⟩ = some (.string (s.extract i j)) := cell_of_row _ _ 1 _ _ _ n3
        have t2 : w2.cell? ⟨w1.heap.size, 2, none⟩ = some (.int .i64 i) := cell_of_row _ _ 2 _ _ _ n3
        have q0 : w2.cell? ⟨w.heap.size, 0, none⟩ = some (.int .i64 0) := cell_of_row _ _ 0 _ _ _ r1
        have q1 : w2.cell? ⟨w.heap.size, 1, none⟩ = some (.string ⟨#[]⟩) := cell_of_row _ _ 1 _ _ _ r1
        have q2 : w2.cell? ⟨w.heap.size, 2, none⟩ = some (.int .i64 0) := cell_of_row _ _ 2 _ _ _ r1
        have f0 := Lib.frozen_of_heap r1 0
        have f1 := Lib.frozen_of_heap r1 1
        have f2 := Lib.frozen_of_heap r1 2
        have B3 := Lib.hid b3
        clear r1 n3 b3 sc3
        go_region_held3 (fun w' => w'.cell? ⟨b, 0, none⟩ = some (.string s) ∧ w'.cell? ⟨w1.heap.size, 0, none⟩ = some (.int .i64 2) ∧ w'.cell? ⟨w1.heap.size, 1, none⟩ = some (.string (s.extract i j)) ∧ w'.cell? ⟨w1.heap.size, 2, none⟩ = some (.int .i64 i)) (go_keep) (first | (go_at_call 86; refine (at_any _ _ _).mono ?_; rintro e w' ⟨rfl, hw⟩; rw [hw]; clear hw) | (go_at_call 100; refine (part_any _ hr.1 hr.2 _).mono ?_; rintro e w' ⟨rfl, n, rfl⟩))
        go_wp2_with fail
        refine bodyPost_ret (v := .tuple #[.agg #[.int .i64 2, .string (s.extract i j), .int .i64 i], .int .i64 (j : Int), .bool (!partI (atI s (j : Int)))]) (by simp [results, Tryz.results111, go_sem, q0, q1, q2]) rfl ⟨?_, ?_⟩
        · rw [HNT.out]; exact gotV_ret (by rw [extract_take s i j hij hj]) (by omega) rfl
        · exact below_far3 (below_drewN (b1.trans (B3.out.mono b1.size)) _) _ _ _
end Go.Proofs.YtafofcenphopbaaGreatDoor
