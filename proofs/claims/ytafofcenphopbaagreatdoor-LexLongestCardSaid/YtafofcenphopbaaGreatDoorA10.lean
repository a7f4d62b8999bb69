/- Walks: the scanner's space. -/
import Derived.Test.YtafofcenphopbaaGreatDoorA6
import Derived.Lib.OthersKept
import Derived.Deep.AppendLies
import Derived.Deep.RegionHeldLaw
import Derived.Deep.LoopGhost
namespace Go.Proofs.YtafofcenphopbaaGreatDoor
open Go.RowKit Lx

/-- The cells of comments. -/
def ccells (cs : List (Nat × Nat)) : List Value := cs.flatMap fun c => [.int .i64 c.1, .int .i64 c.2]
theorem ccells_app (a b : List (Nat × Nat)) : ccells (a ++ b) = ccells a ++ ccells b := by simp [ccells]
theorem infoP : (Tryz.prog.info? 69).map (fun i => (i.zero, i.size, i.bytes)) = some (some (.agg #[.int .i64 0, .int .i64 0]), 2, 16) := by kernel_rfl
theorem undPs : Tryz.prog.underlying 63 = some (.slice 69) := by kernel_rfl
/-- The place that the scanner has come to. -/
def atOf (w : World) (b : Nat) : Nat := match w.cell? ⟨b, 1, none⟩ with
  | some (.int _ n) => n.toNat
  | _ => 0
theorem Scn.atOf {w : World} {b : Nat} {s : ByteArray} {i r : Nat} {v : Value} (h : Scn w b s i r v) : atOf w b = i := by
  unfold Go.Proofs.YtafofcenphopbaaGreatDoor.atOf; rw [h.cell.2.1]; simp
theorem Scn.set_at {w : World} {b : Nat} {s : ByteArray} {i r : Nat} {v : Value} (h : Scn w b s i r v) (j : Nat) : Scn (w.setCell ⟨b, 1, none⟩ (.int .i64 j)) b s j r v := by
  unfold Scn at *; simp [World.setCell, Array.getElem?_modify, h]
theorem Scn.set_com {w : World} {b : Nat} {s : ByteArray} {i r : Nat} {v : Value} (h : Scn w b s i r v) (u : Value) : Scn (w.setCell ⟨b, 3, none⟩ u) b s i r u := by
  unfold Scn at *; simp [World.setCell, Array.getElem?_modify, h]
/-- What a step of the scanner leaves: below B0 all; else all but its own block and rows of pairs. -/
structure Left (B0 b : Nat) (w w' : World) : Prop where
  below : Below B0 w w'
  others : Lib.OthersKept 69 (some b) w w'
theorem Left.refl (B0 b : Nat) (w : World) : Left B0 b w w := ⟨Below.refl _ _, Lib.OthersKept.refl _ _ _⟩
theorem Left.trans {B0 b : Nat} {a c d : World} (h : Left B0 b a c) (k : Left B0 b c d) : Left B0 b a d := ⟨h.below.trans k.below, h.others.trans k.others⟩
theorem Left.drewN {B0 b : Nat} {a c : World} (h : Left B0 b a c) (n : Nat) : Left B0 b a (c.drewN n) := ⟨below_drewN h.below n, h.others⟩
theorem Left.setCell {B0 b : Nat} {a c : World} (h : Left B0 b a c) (hB : B0 ≤ b) (j : Nat) (u : Value) : Left B0 b a (c.setCell ⟨b, j, none⟩ u) :=
  ⟨h.below.setCell (p := ⟨b, j, none⟩) hB u, h.others.setCell ⟨b, j, none⟩ rfl u⟩

theorem own_ne {w : World} {B0 b n size : Nat} {e T : TypeId} {v : Value} {xs : List Value} {cs : Array Value} {fr : Nat × Nat} (hown : w.ownsRow B0 e size v n xs) (hb : w.heap[b]? = some (.cells cs T fr)) (hne : T ≠ e) : v.ownBlock ≠ some b := by
  rcases hown.2 with ⟨rfl, _⟩ | ⟨g, cap, cur, rfl, _, hg, _⟩
  · simp [Value.ownBlock]
  · intro h
    simp only [Value.ownBlock, Option.some.injEq] at h
    subst h
    rw [hg] at hb
    simp only [Option.some.injEq, Obj.cells.injEq] at hb
    exact hne hb.2.1.symm
theorem own_set {w : World} {B0 b n : Nat} {v v2 : Value} {xs : List Value} {s : ByteArray} {i r : Nat} (hown : w.ownsRow B0 69 2 v n xs) (hsc : Scn w b s i r v2) (j : Nat) (u : Value) :
    (w.setCell ⟨b, j, none⟩ u).ownsRow B0 69 2 v n xs :=
  hown.kept (row := some b) ⟨rfl, rfl, rfl, by simp [World.setCell], fun k _ hk => Below.heap_setCell _ _ _ _ (fun e => hk (by simp [e]))⟩ (Or.inr (own_ne hown hsc (by decide)))

theorem own_row {w : World} {B0 n : Nat} {v : Value} {xs : List Value} (h : w.ownsRow B0 69 2 v n xs) : ∀ g, v.ownBlock = some g → ∃ c fz, w.heap[g]? = some (.cells c 69 fz) := by
  intro g hg
  rcases h.2 with ⟨rfl, _⟩ | ⟨g', cap, cur, rfl, _, hh, _⟩
  · simp [Value.ownBlock] at hg
  · simp only [Value.ownBlock, Option.some.injEq] at hg
    subst hg
    exact ⟨_, _, hh⟩
theorem left_grown {B0 b : Nat} {w wo w1 : World} {v : Value} {n : Nat} {xs : List Value} (hl : Left B0 b w wo) (hg : wo.grownBy w1 v.ownBlock) (hB : B0 ≤ wo.heap.size) (hown : wo.ownsRow B0 69 2 v n xs) : Left B0 b w w1 :=
  ⟨hl.below.grown hg hB (fun k hk => (hown.lt k hk).1), hl.others.grown hg (own_row hown)⟩

/-- What space makes of the scanner. -/
def SpaceQ (B0 b r : Nat) (s : ByteArray) (i : Nat) (cs : List (Nat × Nat)) (w : World) (e : Ending) (w' : World) : Prop :=
  e = .returned (.bool (spc s i).1) ∧ ∃ v', Scn w' b s (spc s i).2.1 r v' ∧ w'.ownsRow B0 69 2 v' (cs ++ (spc s i).2.2).length (ccells (cs ++ (spc s i).2.2)) ∧ Left B0 b w w'

theorem spaceQ_mk {B0 b r : Nat} {s : ByteArray} {i : Nat} {cs : List (Nat × Nat)} {w w' : World} {ok : Bool} {j : Nat} {cs' : List (Nat × Nat)} {v' : Value} (h : spc s i = (ok, j, cs')) (hsc : Scn w' b s j r v')
    (hown : w'.ownsRow B0 69 2 v' (cs ++ cs').length (ccells (cs ++ cs'))) (hl : Left B0 b w w') : SpaceQ B0 b r s i cs w (.returned (.bool ok)) w' := by
  unfold SpaceQ; rw [h]; exact ⟨rfl, v', hsc, hown, hl⟩

set_option maxHeartbeats 2000000 in
set_option maxRecDepth 100000 in
theorem space_any (B0 b r : Nat) (s : ByteArray) (i : Nat) (v : Value) (cs : List (Nat × Nat)) (hi : i ≤ s.size) (hs : s.size ≤ 1000000) (hcs : cs.length ≤ i) (hB : B0 ≤ b) (w : World) (hsc : Scn w b s i r v)
    (hown : w.ownsRow B0 69 2 v cs.length (ccells cs)) (hml : ML w) (hBw : B0 ≤ w.heap.size) (hMb : 3 < B0) :
    Calls Tryz.prog 90 #[.pointer (some ⟨b, 0, none⟩)] w (SpaceQ B0 b r s i cs w) := by
  obtain ⟨i0, hi0, hz0, hz1, hz2⟩ := info_parts infoP
  go_enter Tryz.func90, Tryz.ntmps90
  go_wp2_with fail
  go_step3
  go_wp2_with fail
  go_step3
  go_wp2_with fail
  go_loopg [3] (s.size - i) (fun g _ wr => ∃ (j : Nat) (v' : Value) (cs' : List (Nat × Nat)), i ≤ j ∧ j ≤ s.size ∧ g = s.size - j ∧ cs'.length ≤ j - i ∧ spc s i = ((spc s j).1, (spc s j).2.1, cs' ++ (spc s j).2.2) ∧
    Scn wr b s j r v' ∧ wr.ownsRow B0 69 2 v' (cs ++ cs').length (ccells (cs ++ cs')) ∧ Left B0 b w wr)
  case atStart => exact ⟨i, v, [], Nat.le_refl _, hi, rfl, by simp, by simp, hsc, by simpa using hown, Left.refl _ _ _⟩
  case round =>
    obtain ⟨j, v', cs', hij, hj, hg, hcl, hq, sc, own, hleft⟩ := hrel
    have HQ := Lib.hid hq
    have HG := Lib.hid hg
    clear hq hown hsc hg
    obtain ⟨m, hmc⟩ : ∃ m : Int, wr.cell? ⟨3, 0, none⟩ = some (.int .i64 m) := by
      obtain ⟨_, m, h⟩ := hml
      exact ⟨m, (hleft.below.cell (p := ⟨_, 0, none⟩) hMb).trans h⟩
    obtain ⟨k0, k1, k2, k3⟩ := sc.cell
    have f1 : wr.frozen? ⟨b, 1, none⟩ = false := Lib.frozen_of_heap sc 1
    have f3 : wr.frozen? ⟨b, 3, none⟩ = false := Lib.frozen_of_heap sc 3
    by_cases hbl : atI s (j : Int) = 32 ∨ atI s (j : Int) = 10
    · have hst := Lib.hid (spc_blank s j hbl)
      have hlt := atI_lt s j (by omega)
      have hb1 : (atI s (j : Int) == 32) = true ∨ ((atI s (j : Int) == 32) = false ∧ (atI s (j : Int) == 10) = true) := by
        rcases hbl with h | h
        · left; rw [h]; rfl
        · right; rw [h]; exact ⟨rfl, rfl⟩
      clear hbl
      rcases hb1 with c1 | ⟨c1, c2⟩
      all_goals
        go_wp2_with fail
        go_quiet ((go_at_call 86; exact Calls.quiet_of_same (at_any _ _ _)))
        go_wp2_with fail
        go_roundg (s.size - (j + 1))
        case rel => exact ⟨j + 1, v', cs', by omega, by omega, rfl, by omega, by rw [HQ.out, hst.out], (show Scn ((wr.drewN nq).setCell _ (.int .i64 ((j + 1 : Nat) : Int))) b s (j + 1) r v' from Scn.set_at (w := wr.drewN nq) sc _), own_set (w := wr.drewN nq) own sc _ _, (hleft.drewN _).setCell hB _ _⟩
        case measure => rw [HG.out]; omega
    · have n32 : (atI s (j : Int) == 32) = false := by rw [beq_eq_false_iff_ne]; omega
      have n10 : (atI s (j : Int) == 10) = false := by rw [beq_eq_false_iff_ne]; omega
      by_cases hco : atI s (j : Int) = 47 ∧ atI s ((j : Int) + 1) = 42
      · have e47 : (atI s (j : Int) == 47) = true := by rw [hco.1]; rfl
        have e42 : (atI s ((j : Int) + 1) == 42) = true := by rw [hco.2]; rfl
        have hlt := atI_lt s j (by omega)
        have hlt2 := atI_lt s (j + 1) (by rw [show ((j + 1 : Nat) : Int) = (j : Int) + 1 from by omega]; omega)
        have x1 : (j : Int) + 2 ≤ (s.size : Int) := by omega
        obtain ⟨K, hK⟩ : ∃ K : Int, K = Lib.index (s.extract (j + 2) s.size).data.toList [42, 47] := ⟨_, rfl⟩
        have hidx : ∀ n, Calls Tryz.prog 109 #[.string (s.extract (j + 2) s.size), .string ⟨#[42, 47]⟩] (wr.drewN n) fun e w' => e = .returned (.int .i64 K) ∧ w' = wr.drewN n := by
          intro n; rw [hK]
          exact Tryz.strings_Index (s.extract (j + 2) s.size) ⟨#[42, 47]⟩ m (wr.drewN n) (by rw [ByteArray.size_extract]; omega) hmc
        have HIDX := Lib.hid hidx
        by_cases hneg : K < 0
        · have hst := Lib.hid (spc_none s j hco.1 hco.2 (cmt_noend s j (by rw [← hK]; exact hneg)))
          have HKE := Lib.hid hK
          have HCO := Lib.hid hco
          clear hco hK hidx hbl
          go_wp2_with fail
          go_quiet ((go_at_call 86; exact Calls.quiet_of_same (at_any _ _ _)))
          go_wp2_with fail
          go_quiet ((go_at_call 86; exact quiet_add_same (at_any _ _ _)))
          go_wp2_with fail
          go_quiet ((go_at_call 109; exact quiet_add_same (HIDX.out _)))
          go_wp2_with fail
          rw [Exit.noGoto_ret]
          go_wp2_with fail
          go_ret
          exact spaceQ_mk (by rw [HQ.out, hst.out, List.append_nil]) sc own (hleft.drewN _)
        · obtain ⟨k, rfl⟩ := Int.eq_ofNat_of_zero_le (by omega : 0 ≤ K)
          obtain ⟨hend, hcm⟩ := cmt_end s j k (by rw [← hK])
          have HKE := Lib.hid hK
          have HCO := Lib.hid hco
          have HCM := Lib.hid hcm
          clear hco hK hidx hbl hcm
          go_wp2_with fail
          go_quiet ((go_at_call 86; exact Calls.quiet_of_same (at_any _ _ _)))
          rename Nat => n1
          go_wp2_with fail
          go_quiet ((go_at_call 86; exact quiet_add_same (at_any _ _ _)))
          rename Nat => n2
          go_wp2_with fail
          go_quiet ((go_at_call 109; exact quiet_add_same (HIDX.out _)))
          rename Nat => n3
          go_upto_region 8 with fail
          have scq : Scn (wr.drewN (n1 + n2 + n3)) b s j r v' := sc
          have ownq : (wr.drewN (n1 + n2 + n3)).ownsRow B0 69 2 v' (cs ++ cs').length (ccells (cs ++ cs')) := own
          have leftq := hleft.drewN (n1 + n2 + n3)
          have hBq : B0 ≤ (wr.drewN (n1 + n2 + n3)).heap.size := Nat.le_trans hBw leftq.below.size
          generalize wr.drewN (n1 + n2 + n3) = wo at scq ownq leftq hBq ⊢
          clear k0 k1 k2 k3 f1 f3 sc own hleft hmc HIDX
          obtain ⟨k0, k1, k2, k3⟩ := scq.cell
          have f1 : wo.frozen? ⟨b, 1, none⟩ = false := Lib.frozen_of_heap scq 1
          have f3 : wo.frozen? ⟨b, 3, none⟩ = false := Lib.frozen_of_heap scq 3
          have k64 : (k : Int) + ((j : Int) + 4) = ((j + k + 4 : Nat) : Int) := by omega
          go_upto_block 3 with fail
          go_cut [5] (fun _ wx => wo = wx ∧ ((s.data.toList.drop j).take (k + 4)).all (fun c => shownI (c.toNat : Int) || c == 10) = true)
          case first =>
            go_wp2_with fail
            go_loop [5] (fun q => ∃ p : Nat, p ≤ k + 4 ∧ q = .int .i64 (j + p : Nat) ∧ ((s.data.toList.drop j).take p).all (fun c => shownI (c.toNat : Int) || c == 10) = true) (fun q => s.size - (intOf q).toNat)
            case atStart => exact ⟨0, by omega, rfl, rfl⟩
            case round =>
              obtain ⟨p, hp, rfl, hall⟩ := hrel
              have HALL := Lib.hid hall
              clear hall
              by_cases hlt3 : p < k + 4
              · have hx : j + p < s.size := by omega
                have y1 : ((j + p : Nat) : Int) < (k : Int) + ((j : Int) + 4) := by omega
                by_cases hok : (shownI ((s[j + p]'hx).toNat : Int) || s[j + p]'hx == 10) = true
                · have hok2 : shownI ((s[j + p]'hx).toNat : Int) = true ∨ (shownI ((s[j + p]'hx).toNat : Int) = false ∧ (((s[j + p]'hx).toNat : Int) != 10) = false) := by
                    cases h : shownI ((s[j + p]'hx).toNat : Int)
                    · right; rw [h] at hok; refine ⟨rfl, ?_⟩
                      have : s[j + p]'hx = 10 := by simpa using hok
                      rw [this]; rfl
                    · left; rfl
                  have HOK := Lib.hid hok
                  clear hok
                  rcases hok2 with h1 | ⟨h1, h2⟩
                  all_goals
                    go_wp2_with (go_at_call 74; refine (shown_any _ _).mono ?_; rintro e w' ⟨rfl, hw⟩; rw [hw]; clear hw)
                    go_round
                    case rel => exact ⟨p + 1, by omega, by go_num, all_drop_succ _ s j p hx HALL.out HOK.out⟩
                    case measure => simp [intOf]; omega
                · have hbad : ((s.data.toList.drop j).take (k + 4)).all (fun c => shownI (c.toNat : Int) || c == 10) = false := all_drop_bad _ s j p (k + 4) hx hlt3 (by simpa using hok)
                  have hcmn : cmt (s.data.toList.drop j) = none := by rw [HCM.out, hbad]; rfl
                  have hst := Lib.hid (spc_none s j HCO.out.1 HCO.out.2 hcmn)
                  have h1 : shownI ((s[j + p]'hx).toNat : Int) = false := by simp at hok; exact hok.1
                  have h2 : (((s[j + p]'hx).toNat : Int) != 10) = true := by
                    simp at hok; rw [bne_iff_ne]; intro h; exact hok.2 ((byte_eq _ 10 (by decide)).2 h)
                  clear hok hbad hcmn
                  go_wp2_with (go_at_call 74; refine (shown_any _ _).mono ?_; rintro e w' ⟨rfl, hw⟩; rw [hw]; clear hw)
                  rw [Exit.noGoto_ret]
                  go_wp2_with fail
                  go_ret
                  exact spaceQ_mk (by rw [HQ.out, hst.out, List.append_nil]) scq ownq leftq
              · obtain rfl : p = k + 4 := by omega
                have y1 : ¬ ((j + (k + 4) : Nat) : Int) < (k : Int) + ((j : Int) + 4) := by omega
                go_wp2_with fail
                go_meet
                case rel => exact ⟨rfl, HALL.out⟩
          case rest =>
            obtain ⟨rfl, hall⟩ := hcut
            have hcm2 : cmt (s.data.toList.drop j) = some (k + 4) := by rw [HCM.out, hall]; rfl
            have hst := Lib.hid (spc_com s j (k + 4) HCO.out.1 HCO.out.2 hcm2)
            have hlen : (cs ++ cs').length ≤ 1000000 := by rw [List.length_append]; omega
            have hmax : (cs ++ cs').length + 1 ≤ maxLen := by unfold maxLen; omega
            have hby : ((cs ++ cs').length + 1) * 16 ≤ 140737488355328 := by omega
            have hone : ∀ u ∈ [Value.int .i64 (j : Int), Value.int .i64 ((j : Int) + (k : Int) + 4)], u.oneCell' = true := by
              intro u hu; simp at hu; rcases hu with rfl | rfl <;> rfl
            have hne := own_ne ownq scq (by decide : (123 : Nat) ≠ 69)
            have hblt := scq.lt
            have hBs : ∀ o, B0 ≤ (wo.alloc o).heap.size := fun o => by simp; omega
            have hbs : ∀ o, b < (wo.alloc o).heap.size := fun o => by simp; omega
            have hnews : ∀ jj u, [Value.int .i64 (j : Int), Value.int .i64 ((j : Int) + (k : Int) + 4)][jj]? = some u → (wo.alloc (.cells #[.int .i64 j, .int .i64 ((j : Int) + (k : Int) + 4)] 69)).drew.cell? ((⟨wo.heap.size, 0, none⟩ : Addr).add jj) = some u := World.news_of_block (heap_alloc_new wo (.cells #[.int .i64 j, .int .i64 ((j : Int) + (k : Int) + 4)] 69))
            have hown2 : (wo.alloc (.cells #[.int .i64 j, .int .i64 ((j : Int) + (k : Int) + 4)] 69)).drew.ownsRow B0 69 2 v' (cs ++ cs').length (ccells (cs ++ cs')) := ownq.alloc (.cells #[.int .i64 j, .int .i64 ((j : Int) + (k : Int) + 4)] 69)
            have hB2 : B0 ≤ (wo.alloc (.cells #[.int .i64 j, .int .i64 ((j : Int) + (k : Int) + 4)] 69)).drew.heap.size := hBs (.cells #[.int .i64 j, .int .i64 ((j : Int) + (k : Int) + 4)] 69)
            have hb2 : b < (wo.alloc (.cells #[.int .i64 j, .int .i64 ((j : Int) + (k : Int) + 4)] 69)).drew.heap.size := hbs (.cells #[.int .i64 j, .int .i64 ((j : Int) + (k : Int) + 4)] 69)
            have hsc2 : (wo.alloc (.cells #[.int .i64 j, .int .i64 ((j : Int) + (k : Int) + 4)] 69)).drew.heap[b]? = some (.cells #[.string s, .int .i64 j, .map (some r), v'] 123 (0, 0)) := (Below.heap_alloc wo (.cells #[.int .i64 j, .int .i64 ((j : Int) + (k : Int) + 4)] 69) b hblt).trans scq
            have hne2 : some b ≠ v'.ownBlock := fun e => hne e.symm
            have leftL : Left B0 b w (wo.alloc (.cells #[.int .i64 j, .int .i64 ((j : Int) + (k : Int) + 4)] 69)).drew := ⟨(leftq.below.alloc hBq (.cells #[.int .i64 j, .int .i64 ((j : Int) + (k : Int) + 4)] 69)).drew, leftq.others.alloc (.cells #[.int .i64 j, .int .i64 ((j : Int) + (k : Int) + 4)] 69)⟩
            have hp2 : 0 < 2 := by decide
            have hp1 : 0 < 1 := by decide
            clear hall hcm2
            go_upto_region 14 with fail
            go_cut [2] (fun _ wx => ∃ v2, Scn wx b s j r v2 ∧ wx.ownsRow B0 69 2 v2 ((cs ++ cs').length + 1) (ccells (cs ++ cs') ++ [.int .i64 j, .int .i64 ((j : Int) + (k : Int) + 4)]) ∧ Left B0 b w wx)
            case first =>
              go_region_law (first | (refine step_append_lies _ rfl _ _ _ rfl B0 69 i0 (.agg #[.int .i64 0, .int .i64 0]) 2 16 undPs hi0 hz0 hz1 hz2 rfl hp2 _ _ _ rfl hown2 ⟨wo.heap.size, 0, none⟩ 1 1 [.int .i64 j, .int .i64 ((j : Int) + (k : Int) + 4)] rfl rfl hnews hone hp1 hmax hby hB2 _ rfl ?_; intro g cap w1 hown1 hgrow hlie hlt; have g1 := (hgrow.block b hb2 hne2).trans hsc2; have g3 : w1.cell? ⟨b, 3, none⟩ = some v' := cell_of_row w1 b 3 _ _ _ g1; have g4 := Lib.frozen_of_heap g1 3))
              all_goals
                go_wp2_with fail
                go_meet
                case rel =>
                  rw [List.length_append] at hown1
                  exact ⟨_, Scn.set_com (w := w1) g1 _, by rw [List.length_append]; exact own_set hown1 g1 3 _, (left_grown leftL hgrow hB2 hown2).setCell hB 3 _⟩
            case rest =>
              rename World => w5
              obtain ⟨v2, sc5, own5, left5⟩ := hcut
              clear k0 k1 k2 k3 f1 f3
              obtain ⟨k0, k1, k2, k3⟩ := sc5.cell
              have f1 : w5.frozen? ⟨b, 1, none⟩ = false := Lib.frozen_of_heap sc5 1
              have eE : ((j : Int) + (k : Int) + 4) = ((j + (k + 4) : Nat) : Int) := by omega
              have own6 : w5.ownsRow B0 69 2 v2 (cs ++ (cs' ++ [(j, j + (k + 4))])).length (ccells (cs ++ (cs' ++ [(j, j + (k + 4))]))) := by
                rw [eE] at own5
                rw [← List.append_assoc, List.length_append, ccells_app (cs ++ cs')]
                exact own5
              have HEE := Lib.hid eE
              clear eE own5
              go_wp2_with fail
              go_roundg (s.size - (j + (k + 4)))
              case rel =>
                refine ⟨j + (k + 4), v2, cs' ++ [(j, j + (k + 4))], by omega, by omega, rfl, ?_, ?_, ?_, own_set own6 sc5 1 _, left5.setCell hB 1 _⟩
                · rw [List.length_append]; show cs'.length + 1 ≤ _; omega
                · rw [HQ.out, hst.out]; simp
                · rw [HEE.out]; exact Scn.set_at sc5 _
              case measure => rw [HG.out]; omega
      · have hst := Lib.hid (spc_stop s j hbl hco)
        have hc2 : (atI s (j : Int) == 47) = false ∨ ((atI s (j : Int) == 47) = true ∧ (atI s ((j : Int) + 1) == 42) = false) := by
          by_cases h : atI s (j : Int) = 47
          · right; exact ⟨by rw [h]; rfl, by rw [beq_eq_false_iff_ne]; exact fun h' => hco ⟨h, h'⟩⟩
          · left; rw [beq_eq_false_iff_ne]; exact h
        clear hbl hco
        rcases hc2 with c1 | ⟨c1, c2⟩
        · go_wp2_with fail
          go_quiet ((go_at_call 86; exact Calls.quiet_of_same (at_any _ _ _)))
          go_wp2_with fail
          go_quiet ((go_at_call 86; exact quiet_add_same (at_any _ _ _)))
          go_wp2_with fail
          rw [Exit.noGoto_ret]
          go_ret
          exact spaceQ_mk (by rw [HQ.out, hst.out, List.append_nil]) sc own ((hleft.drewN _).drewN _)
        · go_wp2_with fail
          go_quiet ((go_at_call 86; exact Calls.quiet_of_same (at_any _ _ _)))
          go_wp2_with fail
          go_quiet ((go_at_call 86; exact quiet_add_same (at_any _ _ _)))
          go_wp2_with fail
          rw [Exit.noGoto_ret]
          go_ret
          exact spaceQ_mk (by rw [HQ.out, hst.out, List.append_nil]) sc own ((hleft.drewN _).drewN _)
end Go.Proofs.YtafofcenphopbaaGreatDoor
