/- ParseWhole, part 4: what it stands on. -/
import Derived.Test.YtfdlmcgcckkkdaaGreatDoorV03
import Derived.BigRegion
import Derived.StillTailTactics
import Derived.Deep.RegionHeld3
import Derived.Deep.RegionWith
import Derived.Deep.DeepCutAuto
import Derived.Deep.CutBlock
import Derived.Lib.OthersKept
import Derived.Deep.AppendLies
import Derived.Deep.RegionHeldLaw
import Derived.Deep.LoopGhost
set_option linter.all false
set_option maxHeartbeats 40000000
set_option maxRecDepth 100000
namespace Go.Proofs.YtfdlmcgcckkkdaaGreatDoor
section
open Go.RowKit Lx
def Scn(w:World)(b:Nat)(s:ByteArray)(i:Nat)(r:Nat)(v:Value):Prop:=
 w.heap[b]?=some (.cells #[.string s,.int .i64 i,.map (some r),v] 169 (0,0))
theorem Scn.cell{w:World}{b:Nat}{s:ByteArray}{i r:Nat}{v:Value}(h:Scn w b s i r v):w.cell? ⟨b,0,none⟩=some (.string s)∧w.cell? ⟨b,1,none⟩=some (.int .i64 i)∧w.cell? ⟨b,2,none⟩=some (.map (some r))∧w.cell? ⟨b,3,none⟩=some v:=by
 unfold Scn at h;exact⟨cell_of_row _ _ _ _ _ _ h,cell_of_row _ _ _ _ _ _ h,cell_of_row _ _ _ _ _ _ h,cell_of_row _ _ _ _ _ _ h⟩
theorem Scn.lt{w:World}{b:Nat}{s:ByteArray}{i r:Nat}{v:Value}(h:Scn w b s i r v):b<w.heap.size:=(Array.getElem?_eq_some_iff.1 h).1
theorem Scn.below{w w':World}{b:Nat}{s:ByteArray}{i r:Nat}{v:Value}(h:Scn w b s i r v)(hb:Below w.heap.size w w'):Scn w' b s i r v:=
 (hb.block b h.lt).trans h
def Rm(k:Int)(t:ByteArray)(i:Int):Value:=.agg #[.int .i64 k,.string t,.int .i64 i]
def Ke(g:Option Got)(i:Nat):Value:=
 match g with
 | some g=>.tuple #[Rm g.kind ⟨g.text.toArray⟩ i,.int .i64 (i+g.len:Nat),.bool g.ok]
 | none=>.tuple #[Rm 0 ⟨#[]⟩ 0,.int .i64 0,.bool false]
theorem Hr{B b:Nat}(h:B≠b)(w:World)(j:Nat)(x y z:Value):(((w.setCell ⟨B,0,none⟩ x).setCell ⟨B,1,none⟩ y).setCell ⟨B,2,none⟩ z).cell? ⟨b,j,none⟩=w.cell? ⟨b,j,none⟩:=by
 rw[World.cell?_setCell_far _ _ _ _ h,World.cell?_setCell_far _ _ _ _ h,World.cell?_setCell_far _ _ _ _ h]
theorem cO{B:Nat}{w0 w:World}(hb:Below B w0 w)(x y z:Value):Below B w0 (((w.setCell ⟨B,0,none⟩ x).setCell ⟨B,1,none⟩ y).setCell ⟨B,2,none⟩ z):=
 ((hb.setCell (p:=⟨B,0,none⟩) (Nat.le_refl _) _).setCell (p:=⟨B,1,none⟩) (Nat.le_refl _) _).setCell (p:=⟨B,2,none⟩) (Nat.le_refl _) _
theorem eP(s:ByteArray)(i j:Nat)(_h:i≤j)(_hj:j≤s.size):s.extract i j=⟨((s.data.toList.drop i).take (j - i)).toArray⟩:=by
 apply tR
 simp[ByteArray.data_extract,List.take_drop]
theorem jZ{kk:Int}{t:ByteArray}{l:Bs}{i n:Nat}{m:Int}{x y:Bool}(h1:t=⟨l.toArray⟩)(h2:m=((i+n:Nat):Int))(h3:x=y) :
 Ending.returned (.tuple #[.agg #[.int .i64 kk,.string t,.int .i64 i],.int .i64 m,.bool x])=.returned (Ke (some ⟨kk,l,n,y⟩) i):=by rw[h1,h2,h3];rfl
theorem pJ (b r : Nat) (s : ByteArray) (i : Nat) (v : Value) (hi : i < s.size) (hs : s.size ≤ 2147483647) (w : World) (hsc : Scn w b s i r v) : Calls Tryz.prog 154 #[.pointer (some ⟨b, 0, none⟩)] w fun e w' => e = .returned (Ke (some (mQ (s.data.toList.drop i))) i) ∧ Below w.heap.size w w' := by
  obtain ⟨k0, k1, k2, k3⟩ := hsc.cell
  have hblt := hsc.lt
  go_enter Tryz.func154, Tryz.ntmps154
  go_upto_block 0 with fail
  have b1 := aC w (.cells #[.int .i64 0, .string ⟨#[]⟩, .int .i64 0] 43)
  have n1 := heap_alloc_new w (.cells #[.int .i64 0, .string ⟨#[]⟩, .int .i64 0] 43)
  generalize w.alloc (.cells #[.int .i64 0, .string ⟨#[]⟩, .int .i64 0] 43) = w1 at b1 n1 ⊢
  have sc1 := hsc.below b1
  obtain ⟨k0, k1, k2, k3⟩ := sc1.cell
  have N1 := Lib.hid n1
  clear n1
  go_cut [5, 6] (fun q pt wx => w1 = wx ∧ ∃ (j : Nat) (p : Bool), i ≤ j ∧ j ≤ s.size ∧ q = .int .i64 j ∧ pt = .bool p ∧ cV (s.data.toList.drop i) false = (j - i, p))
  case first =>
    go_wp2_with fail
    go_loop [5, 6] (fun q pt => ∃ (j : Nat) (p : Bool), i ≤ j ∧ j ≤ s.size ∧ q = .int .i64 j ∧ pt = .bool p ∧ cV (s.data.toList.drop i) false = ((cV (s.data.toList.drop j) p).1 + (j - i), (cV (s.data.toList.drop j) p).2)) (fun q _ => s.size - (intOf q).toNat)
    case atStart => exact ⟨i, false, Nat.le_refl _, by omega, rfl, rfl, by simp⟩
    case round =>
      obtain ⟨j, p, hij, hj, rfl, rfl, hq⟩ := hrel
      have HQ := Lib.hid hq
      clear hq
      have hjs : iP (atI s (j : Int)) = true → j < s.size := by
        intro h
        rcases Nat.lt_or_ge j s.size with h' | h'
        · exact h'
        · rw [lP s j (by omega)] at h; cases h
      by_cases hd : iP (atI s (j : Int)) = true
      · have hlt := hjs hd
        have h46 : (atI s (j : Int) == 46) = false := by
          rw [beq_eq_false_iff_ne]; intro h; rw [h] at hd; cases hd
        have hst := Lib.hid (Ap s j p hd)
        clear hjs
        go_wp2_with (first | (go_at_call 101; refine (bU _ _ _).mono ?_; rintro e w' ⟨rfl, hw⟩; rw [hw]; clear hw) | (go_at_call 102; refine (dE _ _).mono ?_; rintro e w' ⟨rfl, hw⟩; rw [hw]; clear hw))
        go_round
        case rel => exact ⟨j + 1, p, by omega, by omega, by go_num, rfl, by rw [HQ.out, hst.out]; simp; omega⟩
        case measure => simp [intOf]; omega
      · have hd0 : iP (atI s (j : Int)) = false := by simpa using hd
        clear hd hjs
        by_cases hpt : atI s (j : Int) = 46 ∧ p = false ∧ iP (atI s ((j : Int) + 1)) = true
        · obtain ⟨h46, rfl, hn⟩ := hpt
          have hlt : j < s.size := by
            rcases Nat.lt_or_ge j s.size with h' | h'
            · exact h'
            · rw [lP s j (by omega)] at h46; cases h46
          have hst := Lib.hid (AP s j h46 hn)
          have hq46 : (atI s (j : Int) == 46) = true := by rw [h46]; rfl
          clear h46
          go_wp2_with (first | (go_at_call 101; refine (bU _ _ _).mono ?_; rintro e w' ⟨rfl, hw⟩; rw [hw]; clear hw) | (go_at_call 102; refine (dE _ _).mono ?_; rintro e w' ⟨rfl, hw⟩; rw [hw]; clear hw))
          go_round
          case rel => exact ⟨j + 1, true, by omega, by omega, by go_num, rfl, by rw [HQ.out, hst.out]; simp; omega⟩
          case measure => simp [intOf]; omega
        · have hst := Lib.hid (DR s j p hd0 hpt)
          have hn : (cV (s.data.toList.drop i) false) = (j - i, p) := by rw [HQ.out, hst.out]; simp
          have HN := Lib.hid hn
          have HP := Lib.hid hpt
          clear hn HQ hst hpt
          go_wp2_with (first | (go_at_call 101; refine (bU _ _ _).mono ?_; rintro e w' ⟨rfl, hw⟩; rw [hw]; clear hw) | (go_at_call 102; refine (dE _ _).mono ?_; rintro e w' ⟨rfl, hw⟩; rw [hw]; clear hw))
          all_goals try
            (exfalso; exact HP.out ⟨by assumption, by have hp : ¬ p = true := by assumption
                                                      simpa using hp, by assumption⟩)
          all_goals
            go_meet
            case rel =>
              first
                | exact ⟨rfl, j, p, hij, hj, rfl, rfl, HN.out⟩
                | (have hp : p = true := by assumption
                   exact ⟨rfl, j, true, hij, hj, rfl, rfl, by rw [HN.out, hp]⟩)
                | (have hp : ¬ p = true := by assumption
                   exact ⟨rfl, j, false, hij, hj, rfl, rfl, by rw [HN.out]; simpa using hp⟩)
  case rest =>
    obtain ⟨rfl, j, p, hij, hj, rfl, rfl, hn⟩ := hcut
    have HN := Lib.hid hn
    clear hn
    have hx : (i : Int) ≤ j := by omega
    have hx2 : (j : Int) ≤ s.size := by omega
    have a0 : ∀ o, (w1.alloc o).cell? ⟨b, 0, none⟩ = some (.string s) := fun o => (sc1.below (aC w1 o)).cell.1
    have a1 : ∀ o, (w1.alloc o).cell? ⟨b, 1, none⟩ = some (.int .i64 i) := fun o => (sc1.below (aC w1 o)).cell.2.1
    go_wp2_with fail
    go_region
    clear a0 a1 k0 k1 k2 k3
    have b2 := (aC w1 (.cells #[.int .i64 2, .string (s.extract i j), .int .i64 i] 43)).drew
    have n2 : (w1.alloc (.cells #[.int .i64 2, .string (s.extract i j), .int .i64 i] 43)).drew.heap[w1.heap.size]? = _ := heap_alloc_new w1 (.cells #[.int .i64 2, .string (s.extract i j), .int .i64 i] 43)
    generalize (w1.alloc (.cells #[.int .i64 2, .string (s.extract i j), .int .i64 i] 43)).drew = w2 at b2 n2 ⊢
    have sc2 := sc1.below b2
    obtain ⟨k0, k1, k2, k3⟩ := sc2.cell
    have t0 : w2.cell? ⟨w1.heap.size, 0, none⟩ = some (.int .i64 2) := cell_of_row w2 w1.heap.size 0 _ _ _ n2
    have f0 := Lib.frozen_of_heap n2 0
    have N2 := Lib.hid n2
    clear n2
    go_upto_region 9 with (go_at_call 101; refine (bU _ _ _).mono ?_; rintro e w' ⟨rfl, hw⟩; rw [hw]; clear hw)
    go_cut [71] (fun c wx => w2 = wx ∧ c = .bool (isB (atI s (j : Int)) && !p))
    case first =>
      have h2 : ((atI s (j : Int) == 66) = true ∧ isB (atI s (j : Int)) = true) ∨ ((atI s (j : Int) == 66) = false ∧ (atI s (j : Int) == 98) = true ∧ isB (atI s (j : Int)) = true) ∨ ((atI s (j : Int) == 66) = false ∧ (atI s (j : Int) == 98) = false ∧ isB (atI s (j : Int)) = false) := by
        unfold isB
        cases (atI s (j : Int) == 66) <;> cases (atI s (j : Int) == 98) <;> simp
      rcases h2 with ⟨h2, h3⟩ | ⟨h2, h3, h4⟩ | ⟨h2, h3, h4⟩
      all_goals
        cases p
        all_goals
          go_wp2_with fail
          go_meet
          case rel => exact ⟨rfl, by simp [*]⟩
    case rest =>
      obtain ⟨rfl, rfl⟩ := hcut
      have hat := dO s j
      obtain ⟨kk, e, hbb, hnt, hie, hej⟩ : ∃ (kk : Int) (e : Nat), ((isB (atI s (j : Int)) && !p) = true ∧ kk = 3 ∧ e = j + 1 ∧ j < s.size ∨ (isB (atI s (j : Int)) && !p) = false ∧ kk = 2 ∧ j = e) ∧
          mQ (s.data.toList.drop i) = ⟨kk, (s.data.toList.drop i).take (j - i), e - i, !fW (atI s (e : Int))⟩ ∧ i ≤ e ∧ e ≤ j + 1 := by
        by_cases hB : isB (atI s (j : Int)) = true ∧ p = false
        · obtain ⟨h1, rfl⟩ := hB
          have hlt : j < s.size := by
            rcases Nat.lt_or_ge j s.size with h' | h'
            · exact h'
            · rw [lP s j (by omega)] at h1; cases h1
          refine ⟨3, j + 1, .inl ⟨by rw [h1]; rfl, rfl, rfl, hlt⟩, ?_, by omega, by omega⟩
          unfold mQ
          rw [HN.out]
          simp only [List.drop_drop]
          rw [show i + (j - i) = j from by omega, ← hat, if_pos ⟨h1, trivial⟩, show i + (j - i + 1) = j + 1 from by omega, dO s (j + 1), show j - i + 1 = j + 1 - i from by omega]
        · refine ⟨2, j, .inr ⟨?_, rfl, rfl⟩, ?_, by omega, by omega⟩
          · cases p
            · have h3 : isB (atI s (j : Int)) = false := by
                rw [Bool.eq_false_iff]; exact fun h => hB ⟨h, rfl⟩
              rw [h3]; rfl
            · simp
          · unfold mQ
            rw [HN.out]
            simp only [List.drop_drop]
            rw [show i + (j - i) = j from by omega, ← hat, if_neg hB]
      have HNT := Lib.hid hnt
      clear hnt hat HN
      generalize (isB (atI s (j : Int)) && !p) = c at hbb ⊢
      have hr := eV s (e : Int)
      have hBlt := (Array.getElem?_eq_some_iff.1 N1.out).1
      have F1 := Hr (B := w.heap.size) (b := b) (by have := hblt; omega)
      have F2 := Hr (B := w.heap.size) (b := w1.heap.size) (by omega)
      clear k0 k1 k2 k3
      rcases hbb with ⟨rfl, rfl, rfl, hlt⟩ | ⟨rfl, rfl, rfl⟩
      · go_upto_region 12 with fail
        have b3 := b2.setCell (p := ⟨w1.heap.size, 0, none⟩) (Nat.le_refl _) (.int .i64 3)
        have n3 : (w2.setCell ⟨w1.heap.size, 0, none⟩ (.int .i64 3)).heap[w1.heap.size]? = some (.cells #[.int .i64 3, .string (s.extract i j), .int .i64 i] 43 (0, 0)) := by
          simp [World.setCell, Array.getElem?_modify, N2.out]
        generalize w2.setCell ⟨w1.heap.size, 0, none⟩ (.int .i64 3) = w3 at b3 n3 ⊢
        have r1 : w3.heap[w.heap.size]? = _ := (b3.block _ hBlt).trans N1.out
        have sc3 : Scn w3 b s i r v := (b3.block b sc1.lt).trans sc1
        obtain ⟨k0, k1, k2, k3⟩ := sc3.cell
        have t0 : w3.cell? ⟨w1.heap.size, 0, none⟩ = some (.int .i64 3) := cell_of_row _ _ 0 _ _ _ n3
        have t1 : w3.cell? ⟨w1.heap.size, 1, none⟩ = some (.string (s.extract i j)) := cell_of_row _ _ 1 _ _ _ n3
        have t2 : w3.cell? ⟨w1.heap.size, 2, none⟩ = some (.int .i64 i) := cell_of_row _ _ 2 _ _ _ n3
        have q0 : w3.cell? ⟨w.heap.size, 0, none⟩ = some (.int .i64 0) := cell_of_row _ _ 0 _ _ _ r1
        have q1 : w3.cell? ⟨w.heap.size, 1, none⟩ = some (.string ⟨#[]⟩) := cell_of_row _ _ 1 _ _ _ r1
        have q2 : w3.cell? ⟨w.heap.size, 2, none⟩ = some (.int .i64 0) := cell_of_row _ _ 2 _ _ _ r1
        have f0 := Lib.frozen_of_heap r1 0
        have f1 := Lib.frozen_of_heap r1 1
        have f2 := Lib.frozen_of_heap r1 2
        have B3 := Lib.hid b3
        clear r1 n3 b3 sc3
        go_region_held3 (fun w' => w'.cell? ⟨b, 0, none⟩ = some (.string s) ∧ w'.cell? ⟨w1.heap.size, 0, none⟩ = some (.int .i64 3) ∧ w'.cell? ⟨w1.heap.size, 1, none⟩ = some (.string (s.extract i j)) ∧ w'.cell? ⟨w1.heap.size, 2, none⟩ = some (.int .i64 i)) (go_keep) (first | (go_at_call 101; refine (bU _ _ _).mono ?_; rintro e w' ⟨rfl, hw⟩; rw [hw]; clear hw) | (go_at_call 105; refine (kG _ hr.1 hr.2 _).mono ?_; rintro e w' ⟨rfl, n, rfl⟩))
        go_wp2_with fail
        refine bodyPost_ret (v := .tuple #[.agg #[.int .i64 3, .string (s.extract i j), .int .i64 i], .int .i64 ((j : Int) + 1), .bool (!fW (atI s ((j : Int) + 1)))]) (by simp [results, Tryz.results154, go_sem, q0, q1, q2]) rfl ⟨?_, ?_⟩
        · rw [HNT.out]; exact jZ (by rw [eP s i j hij hj]) (by omega) rfl
        · exact cO (below_drewN (b1.trans (B3.out.mono b1.size)) _) _ _ _
      · go_upto_region 12 with fail
        have b3 := b2
        have n3 := N2.out
        have r1 : w2.heap[w.heap.size]? = _ := (b3.block _ hBlt).trans N1.out
        have sc3 : Scn w2 b s i r v := (b3.block b sc1.lt).trans sc1
        obtain ⟨k0, k1, k2, k3⟩ := sc3.cell
        have t0 : w2.cell? ⟨w1.heap.size, 0, none⟩ = some (.int .i64 2) := cell_of_row _ _ 0 _ _ _ n3
        have t1 : w2.cell? ⟨w1.heap.size, 1, none⟩ = some (.string (s.extract i j)) := cell_of_row _ _ 1 _ _ _ n3
        have t2 : w2.cell? ⟨w1.heap.size, 2, none⟩ = some (.int .i64 i) := cell_of_row _ _ 2 _ _ _ n3
        have q0 : w2.cell? ⟨w.heap.size, 0, none⟩ = some (.int .i64 0) := cell_of_row _ _ 0 _ _ _ r1
        have q1 : w2.cell? ⟨w.heap.size, 1, none⟩ = some (.string ⟨#[]⟩) := cell_of_row _ _ 1 _ _ _ r1
        have q2 : w2.cell? ⟨w.heap.size, 2, none⟩ = some (.int .i64 0) := cell_of_row _ _ 2 _ _ _ r1
        have f0 := Lib.frozen_of_heap r1 0
        have f1 := Lib.frozen_of_heap r1 1
        have f2 := Lib.frozen_of_heap r1 2
        have B3 := Lib.hid b3
        clear r1 n3 b3 sc3
        go_region_held3 (fun w' => w'.cell? ⟨b, 0, none⟩ = some (.string s) ∧ w'.cell? ⟨w1.heap.size, 0, none⟩ = some (.int .i64 2) ∧ w'.cell? ⟨w1.heap.size, 1, none⟩ = some (.string (s.extract i j)) ∧ w'.cell? ⟨w1.heap.size, 2, none⟩ = some (.int .i64 i)) (go_keep) (first | (go_at_call 101; refine (bU _ _ _).mono ?_; rintro e w' ⟨rfl, hw⟩; rw [hw]; clear hw) | (go_at_call 105; refine (kG _ hr.1 hr.2 _).mono ?_; rintro e w' ⟨rfl, n, rfl⟩))
        go_wp2_with fail
        refine bodyPost_ret (v := .tuple #[.agg #[.int .i64 2, .string (s.extract i j), .int .i64 i], .int .i64 (j : Int), .bool (!fW (atI s (j : Int)))]) (by simp [results, Tryz.results154, go_sem, q0, q1, q2]) rfl ⟨?_, ?_⟩
        · rw [HNT.out]; exact jZ (by rw [eP s i j hij hj]) (by omega) rfl
        · exact cO (below_drewN (b1.trans (B3.out.mono b1.size)) _) _ _ _
def iW(cs:List (Nat×Nat)):List Value:=cs.flatMap fun c=>[.int .i64 c.1,.int .i64 c.2]
theorem FG(a b:List (Nat×Nat)):iW (a++b)=iW a++iW b:=by simp[iW]
theorem Qp: (Tryz.prog.info? 180).map (fun i=>(i.zero,i.size,i.bytes))=some (some (.agg #[.int .i64 0,.int .i64 0]),2,16):=by kernel_rfl
theorem QE: Tryz.prog.underlying 136=some (.slice 180):=by kernel_rfl
theorem Scn.IA{w:World}{b:Nat}{s:ByteArray}{i r:Nat}{v:Value}(h:Scn w b s i r v)(j:Nat):Scn (w.setCell ⟨b,1,none⟩ (.int .i64 j)) b s j r v:=by
 unfold Scn at *; simp[World.setCell,Array.getElem?_modify,h]
theorem Scn.NC{w:World}{b:Nat}{s:ByteArray}{i r:Nat}{v:Value}(h:Scn w b s i r v)(u:Value):Scn (w.setCell ⟨b,3,none⟩ u) b s i r u:=by
 unfold Scn at *; simp[World.setCell,Array.getElem?_modify,h]
structure Left (B0 b:Nat) (w w':World):Prop where
 below:Below B0 w w'
 others:Lib.OthersKept 180 (some b) w w'
theorem Left.refl(B0 b:Nat)(w:World):Left B0 b w w:=⟨Below.refl _ _,Lib.OthersKept.refl _ _ _⟩
theorem Left.drewN{B0 b:Nat}{a c:World}(h:Left B0 b a c)(n:Nat):Left B0 b a (c.drewN n):=⟨below_drewN h.below n,h.others⟩
theorem Left.setCell{B0 b:Nat}{a c:World}(h:Left B0 b a c)(hB:B0≤b)(j:Nat)(u:Value):Left B0 b a (c.setCell ⟨b,j,none⟩ u):=
 ⟨h.below.setCell (p:=⟨b,j,none⟩) hB u,h.others.setCell ⟨b,j,none⟩ rfl u⟩
theorem Es{w:World}{B0 b n size:Nat}{e T:TypeId}{v:Value}{xs:List Value}{cs:Array Value}{fr:Nat×Nat}(hown:w.ownsRow B0 e size v n xs)(hb:w.heap[b]?=some (.cells cs T fr))(hne:T≠e):v.ownBlock≠some b:=by
 rcases hown.2 with ⟨rfl,_⟩|⟨g,cap,cur,rfl,_,hg,_⟩
 ·simp[Value.ownBlock]
 ·intro h;simp only[Value.ownBlock,Option.some.injEq]at h
  subst h;rw[hg]at hb;simp only[Option.some.injEq,Obj.cells.injEq]at hb
  exact hne hb.2.1.symm
theorem Ag{w:World}{B0 b n:Nat}{v v2:Value}{xs:List Value}{s:ByteArray}{i r:Nat}(hown:w.ownsRow B0 180 2 v n xs)(hsc:Scn w b s i r v2)(j:Nat)(u:Value):(w.setCell ⟨b,j,none⟩ u).ownsRow B0 180 2 v n xs:=
 hown.kept (row:=some b) ⟨rfl,rfl,rfl,by simp[World.setCell],fun k _ hk=>Below.heap_setCell _ _ _ _ (fun e=>hk (by simp[e]))⟩ (Or.inr (Es hown hsc (by decide)))
theorem MW{w:World}{B0 n:Nat}{v:Value}{xs:List Value}(h:w.ownsRow B0 180 2 v n xs):∀ g,v.ownBlock=some g→∃ c fz,w.heap[g]?=some (.cells c 180 fz):=by
 intro g hg
 rcases h.2 with ⟨rfl,_⟩|⟨g',cap,cur,rfl,_,hh,_⟩
 ·simp[Value.ownBlock]at hg
 ·simp only[Value.ownBlock,Option.some.injEq]at hg
  subst hg;exact⟨_,_,hh⟩
theorem FI{B0 b:Nat}{w wo w1:World}{v:Value}{n:Nat}{xs:List Value}(hl:Left B0 b w wo)(hg:wo.grownBy w1 v.ownBlock)(hB:B0≤wo.heap.size)(hown:wo.ownsRow B0 180 2 v n xs):Left B0 b w w1:=
 ⟨hl.below.grown hg hB (fun k hk=>(hown.lt k hk).1),hl.others.grown hg (MW hown)⟩
def EH(B0 b r:Nat)(s:ByteArray)(i:Nat)(cs:List (Nat×Nat))(w:World)(e:Ending)(w':World):Prop:=
 e=.returned (.bool (spc s i).1)∧∃ v',Scn w' b s (spc s i).2.1 r v'∧w'.ownsRow B0 180 2 v' (cs++(spc s i).2.2).length (iW (cs++(spc s i).2.2))∧Left B0 b w w'
theorem rO{B0 b r:Nat}{s:ByteArray}{i:Nat}{cs:List (Nat×Nat)}{w w':World}{ok:Bool}{j:Nat}{cs':List (Nat×Nat)}{v':Value}(h:spc s i=(ok,j,cs'))(hsc:Scn w' b s j r v')(hown:w'.ownsRow B0 180 2 v' (cs++cs').length (iW (cs++cs')))(hl:Left B0 b w w'):EH B0 b r s i cs w (.returned (.bool ok)) w':=by
 unfold EH;rw[h];exact⟨rfl,v',hsc,hown,hl⟩
theorem Jr(B0 b r:Nat)(s:ByteArray)(i:Nat)(v:Value)(cs:List (Nat×Nat))(hi:i≤s.size)(hs:s.size≤1000000)(hcs:cs.length≤i)(hB:B0≤b)(w:World)(hsc:Scn w b s i r v)(hown:w.ownsRow B0 180 2 v cs.length (iW cs))(hml:ML w)(hBw:B0≤w.heap.size)(hMb:0<B0):Calls Tryz.prog 133 #[.pointer (some ⟨b,0,none⟩)] w (EH B0 b r s i cs w):=by
 obtain⟨i0,hi0,hz0,hz1,hz2⟩:=info_parts Qp;go_enter Tryz.func133,Tryz.ntmps133;go_wp2_with fail
 go_step3
 go_wp2_with fail
 go_step3
 go_wp2_with fail
 go_loopg [3] (s.size - i) (fun g _ wr => ∃ (j : Nat) (v' : Value) (cs' : List (Nat × Nat)), i ≤ j ∧ j ≤ s.size ∧ g = s.size - j ∧ cs'.length ≤ j - i ∧ spc s i = ((spc s j).1, (spc s j).2.1, cs' ++ (spc s j).2.2) ∧
   Scn wr b s j r v' ∧ wr.ownsRow B0 180 2 v' (cs ++ cs').length (iW (cs ++ cs')) ∧ Left B0 b w wr)
 case atStart=>exact⟨i,v,[],Nat.le_refl _,hi,rfl,by simp,by simp,hsc,by simpa using hown,Left.refl _ _ _⟩
 case round=>
  obtain⟨j,v',cs',hij,hj,hg,hcl,hq,sc,own,hleft⟩:=hrel;have HQ:=Lib.hid hq;have HG:=Lib.hid hg;clear hq hown hsc hg;obtain⟨m,hmc⟩:∃ m:Int,wr.cell? ⟨0,0,none⟩=some (.int .i64 m):=by
   obtain⟨_,m,h⟩:=hml;exact⟨m,(hleft.below.cell (p:=⟨_,0,none⟩) hMb).trans h⟩
  obtain⟨k0,k1,k2,k3⟩:=sc.cell;have f1:wr.frozen? ⟨b,1,none⟩=false:=Lib.frozen_of_heap sc 1;have f3:wr.frozen? ⟨b,3,none⟩=false:=Lib.frozen_of_heap sc 3
  by_cases hbl:atI s (j:Int)=32∨atI s (j:Int)=10
  ·have hst:=Lib.hid (Bz s j hbl);have hlt:=kU s j (by omega);have hb1:(atI s (j:Int)==32)=true∨((atI s (j:Int)==32)=false∧(atI s (j:Int)==10)=true):=by
    rcases hbl with h|h
    ·left;rw[h];rfl
    ·right;rw[h];exact⟨rfl,rfl⟩
   clear hbl
   rcases hb1 with c1|⟨c1,c2⟩
   all_goals
    go_wp2_with fail
    go_quiet ((go_at_call 101;exact Calls.quiet_of_same (bU _ _ _)))
    go_wp2_with fail
    go_roundg (s.size - (j+1))
    case rel=>exact⟨j+1,v',cs',by omega,by omega,rfl,by omega,by rw[HQ.out,hst.out],(show Scn ((wr.drewN nq).setCell _ (.int .i64 ((j+1:Nat):Int))) b s (j+1) r v' from Scn.IA (w:=wr.drewN nq) sc _),Ag (w:=wr.drewN nq) own sc _ _,(hleft.drewN _).setCell hB _ _⟩
    case measure=>rw[HG.out];omega
  ·have n32:(atI s (j:Int)==32)=false:=by rw[beq_eq_false_iff_ne];omega
   have n10:(atI s (j:Int)==10)=false:=by rw[beq_eq_false_iff_ne];omega
   by_cases hco:atI s (j:Int)=47∧atI s ((j:Int)+1)=42
   ·have e47:(atI s (j:Int)==47)=true:=by rw[hco.1];rfl
    have e42:(atI s ((j:Int)+1)==42)=true:=by rw[hco.2];rfl
    have hlt:=kU s j (by omega);have hlt2:=kU s (j+1) (by rw[show ((j+1:Nat):Int)=(j:Int)+1 from by omega];omega);have x1:(j:Int)+2≤(s.size:Int):=by omega
    obtain⟨K,hK⟩:∃ K:Int,K=Lib.index (s.extract (j+2) s.size).data.toList [42,47]:=⟨_,rfl⟩
    have hidx:∀ n,Calls Tryz.prog 152 #[.string (s.extract (j+2) s.size),.string ⟨#[42,47]⟩] (wr.drewN n) fun e w'=>e=.returned (.int .i64 K)∧w'=wr.drewN n:=by
     intro n;rw[hK];exact Tryz.strings_Index (s.extract (j+2) s.size) ⟨#[42,47]⟩ m (wr.drewN n) (by rw[ByteArray.size_extract];omega) hmc
    have HIDX:=Lib.hid hidx
    by_cases hneg:K<0
    ·have hst:=Lib.hid (AX s j hco.1 hco.2 (Hq s j (by rw[← hK];exact hneg)));have HKE:=Lib.hid hK;have HCO:=Lib.hid hco;clear hco hK hidx hbl;go_wp2_with fail
     go_quiet ((go_at_call 101;exact Calls.quiet_of_same (bU _ _ _)))
     go_wp2_with fail
     go_quiet ((go_at_call 101;exact dA (bU _ _ _)))
     go_wp2_with fail
     go_quiet ((go_at_call 152;exact dA (HIDX.out _)))
     go_wp2_with fail;rw[Exit.noGoto_ret];go_wp2_with fail;go_ret;exact rO (by rw[HQ.out,hst.out,List.append_nil]) sc own (hleft.drewN _)
    ·obtain⟨k,rfl⟩:=Int.eq_ofNat_of_zero_le (by omega:0≤K);obtain⟨hend,hcm⟩:=JH s j k (by rw[← hK]);have HKE:=Lib.hid hK;have HCO:=Lib.hid hco;have HCM:=Lib.hid hcm;clear hco hK hidx hbl hcm;go_wp2_with fail
     go_quiet ((go_at_call 101;exact Calls.quiet_of_same (bU _ _ _)))
     rename Nat=>n1
     go_wp2_with fail
     go_quiet ((go_at_call 101;exact dA (bU _ _ _)))
     rename Nat=>n2
     go_wp2_with fail
     go_quiet ((go_at_call 152;exact dA (HIDX.out _)))
     rename Nat=>n3
     go_upto_region 8 with fail;have scq:Scn (wr.drewN (n1+n2+n3)) b s j r v':=sc;have ownq:(wr.drewN (n1+n2+n3)).ownsRow B0 180 2 v' (cs++cs').length (iW (cs++cs')):=own;have leftq:=hleft.drewN (n1+n2+n3);have hBq:B0≤(wr.drewN (n1+n2+n3)).heap.size:=Nat.le_trans hBw leftq.below.size;generalize wr.drewN (n1+n2+n3)=wo at scq ownq leftq hBq ⊢;clear k0 k1 k2 k3 f1 f3 sc own hleft hmc HIDX;obtain⟨k0,k1,k2,k3⟩:=scq.cell;have f1:wo.frozen? ⟨b,1,none⟩=false:=Lib.frozen_of_heap scq 1;have f3:wo.frozen? ⟨b,3,none⟩=false:=Lib.frozen_of_heap scq 3;have k64:(k:Int)+((j:Int)+4)=((j+k+4:Nat):Int):=by omega
     go_upto_block 3 with fail;go_cut [5] (fun _ wx=>wo=wx∧((s.data.toList.drop j).take (k+4)).all (fun c=>dZ (c.toNat:Int)||c==10)=true)
     case first=>
      go_wp2_with fail
      go_loop [5] (fun q=>∃ p:Nat,p≤k+4∧q=.int .i64 (j+p:Nat)∧((s.data.toList.drop j).take p).all (fun c=>dZ (c.toNat:Int)||c==10)=true) (fun q=>s.size - (intOf q).toNat)
      case atStart=>exact⟨0,by omega,rfl,rfl⟩
      case round=>
       obtain⟨p,hp,rfl,hall⟩:=hrel;have HALL:=Lib.hid hall;clear hall
       by_cases hlt3:p<k+4
       ·have hx:j+p<s.size:=by omega
        have y1:((j+p:Nat):Int)<(k:Int)+((j:Int)+4):=by omega
        by_cases hok:(dZ ((s[j+p]'hx).toNat:Int)||s[j+p]'hx==10)=true
        ·have hok2:dZ ((s[j+p]'hx).toNat:Int)=true∨(dZ ((s[j+p]'hx).toNat:Int)=false∧(((s[j+p]'hx).toNat:Int) != 10)=false):=by
          cases h:dZ ((s[j+p]'hx).toNat:Int)
          ·right;rw[h]at hok;refine⟨rfl,?_⟩
           have:s[j+p]'hx=10:=by simpa using hok
           rw[this];rfl
          ·left;rfl
         have HOK:=Lib.hid hok;clear hok
         rcases hok2 with h1|⟨h1,h2⟩
         all_goals
          go_wp2_with (go_at_call 63;refine(vW _ _).mono ?_;rintro e w' ⟨rfl,hw⟩;rw[hw];clear hw)
          go_round
          case rel=>exact⟨p+1,by omega,by go_num,Aa _ s j p hx HALL.out HOK.out⟩
          case measure=>simp[intOf];omega
        ·have hbad:((s.data.toList.drop j).take (k+4)).all (fun c=>dZ (c.toNat:Int)||c==10)=false:=BV _ s j p (k+4) hx hlt3 (by simpa using hok);have hcmn:cmt (s.data.toList.drop j)=none:=by rw[HCM.out,hbad];rfl
         have hst:=Lib.hid (AX s j HCO.out.1 HCO.out.2 hcmn);have h1:dZ ((s[j+p]'hx).toNat:Int)=false:=by simp at hok;exact hok.1
         have h2:(((s[j+p]'hx).toNat:Int) != 10)=true:=by
          simp at hok;rw[bne_iff_ne];intro h;exact hok.2 ((IJ _ 10 (by decide)).2 h)
         clear hok hbad hcmn;go_wp2_with (go_at_call 63;refine(vW _ _).mono ?_;rintro e w' ⟨rfl,hw⟩;rw[hw];clear hw);rw[Exit.noGoto_ret];go_wp2_with fail;go_ret;exact rO (by rw[HQ.out,hst.out,List.append_nil]) scq ownq leftq
       ·obtain rfl:p=k+4:=by omega
        have y1:¬ ((j+(k+4):Nat):Int)<(k:Int)+((j:Int)+4):=by omega
        go_wp2_with fail;go_meet
        case rel=>exact⟨rfl,HALL.out⟩
     case rest=>
      obtain⟨rfl,hall⟩:=hcut;have hcm2:cmt (s.data.toList.drop j)=some (k+4):=by rw[HCM.out,hall];rfl
      have hst:=Lib.hid (JI s j (k+4) HCO.out.1 HCO.out.2 hcm2);have hlen:(cs++cs').length≤1000000:=by rw[List.length_append];omega
      have hmax:(cs++cs').length+1≤maxLen:=by unfold maxLen;omega
      have hby:((cs++cs').length+1)*16≤140737488355328:=by omega
      have hone:∀ u∈[Value.int .i64 (j:Int),Value.int .i64 ((j:Int)+(k:Int)+4)],u.oneCell'=true:=by
       intro u hu;simp at hu;rcases hu with rfl|rfl<;>rfl
      have hne:=Es ownq scq (by decide:(169:Nat)≠180);have hblt:=scq.lt;have hBs:∀ o,B0≤(wo.alloc o).heap.size:=fun o=>by simp;omega
      have hbs:∀ o,b<(wo.alloc o).heap.size:=fun o=>by simp;omega
      have hnews:∀ jj u,[Value.int .i64 (j:Int),Value.int .i64 ((j:Int)+(k:Int)+4)][jj]?=some u→(wo.alloc (.cells #[.int .i64 j,.int .i64 ((j:Int)+(k:Int)+4)] 180)).drew.cell? ((⟨wo.heap.size,0,none⟩:Addr).add jj)=some u:=World.news_of_block (heap_alloc_new wo (.cells #[.int .i64 j,.int .i64 ((j:Int)+(k:Int)+4)] 180));have hown2:(wo.alloc (.cells #[.int .i64 j,.int .i64 ((j:Int)+(k:Int)+4)] 180)).drew.ownsRow B0 180 2 v' (cs++cs').length (iW (cs++cs')):=ownq.alloc (.cells #[.int .i64 j,.int .i64 ((j:Int)+(k:Int)+4)] 180);have hB2:B0≤(wo.alloc (.cells #[.int .i64 j,.int .i64 ((j:Int)+(k:Int)+4)] 180)).drew.heap.size:=hBs (.cells #[.int .i64 j,.int .i64 ((j:Int)+(k:Int)+4)] 180);have hb2:b<(wo.alloc (.cells #[.int .i64 j,.int .i64 ((j:Int)+(k:Int)+4)] 180)).drew.heap.size:=hbs (.cells #[.int .i64 j,.int .i64 ((j:Int)+(k:Int)+4)] 180);have hsc2:(wo.alloc (.cells #[.int .i64 j,.int .i64 ((j:Int)+(k:Int)+4)] 180)).drew.heap[b]?=some (.cells #[.string s,.int .i64 j,.map (some r),v'] 169 (0,0)):=(Below.heap_alloc wo (.cells #[.int .i64 j,.int .i64 ((j:Int)+(k:Int)+4)] 180) b hblt).trans scq;have hne2:some b≠v'.ownBlock:=fun e=>hne e.symm
      have leftL:Left B0 b w (wo.alloc (.cells #[.int .i64 j,.int .i64 ((j:Int)+(k:Int)+4)] 180)).drew:=⟨(leftq.below.alloc hBq (.cells #[.int .i64 j,.int .i64 ((j:Int)+(k:Int)+4)] 180)).drew,leftq.others.alloc (.cells #[.int .i64 j,.int .i64 ((j:Int)+(k:Int)+4)] 180)⟩
      have hp2:0<2:=by decide
      have hp1:0<1:=by decide
      clear hall hcm2;go_upto_region 14 with fail;go_cut [2] (fun _ wx=>∃ v2,Scn wx b s j r v2∧wx.ownsRow B0 180 2 v2 ((cs++cs').length+1) (iW (cs++cs')++[.int .i64 j,.int .i64 ((j:Int)+(k:Int)+4)])∧Left B0 b w wx)
      case first=>
       go_region_law (first|(refine step_append_lies _ rfl _ _ _ rfl B0 180 i0 (.agg #[.int .i64 0,.int .i64 0]) 2 16 QE hi0 hz0 hz1 hz2 rfl hp2 _ _ _ rfl hown2 ⟨wo.heap.size,0,none⟩ 1 1 [.int .i64 j,.int .i64 ((j:Int)+(k:Int)+4)] rfl rfl hnews hone hp1 hmax hby hB2 _ rfl ?_;intro g cap w1 hown1 hgrow hlie hlt;have g1:=(hgrow.block b hb2 hne2).trans hsc2;have g3:w1.cell? ⟨b,3,none⟩=some v':=cell_of_row w1 b 3 _ _ _ g1;have g4:=Lib.frozen_of_heap g1 3))
       all_goals
        go_wp2_with fail;go_meet
        case rel=>
         rw[List.length_append]at hown1;exact⟨_,Scn.NC (w:=w1) g1 _,by rw[List.length_append];exact Ag hown1 g1 3 _,(FI leftL hgrow hB2 hown2).setCell hB 3 _⟩
      case rest=>
       rename World=>w5
       obtain⟨v2,sc5,own5,left5⟩:=hcut;clear k0 k1 k2 k3 f1 f3;obtain⟨k0,k1,k2,k3⟩:=sc5.cell;have f1:w5.frozen? ⟨b,1,none⟩=false:=Lib.frozen_of_heap sc5 1;have eE:((j:Int)+(k:Int)+4)=((j+(k+4):Nat):Int):=by omega
       have own6:w5.ownsRow B0 180 2 v2 (cs++(cs'++[(j,j+(k+4))])).length (iW (cs++(cs'++[(j,j+(k+4))]))):=by
        rw[eE]at own5;rw[← List.append_assoc,List.length_append,FG (cs++cs')];exact own5
       have HEE:=Lib.hid eE;clear eE own5;go_wp2_with fail
       go_roundg (s.size - (j+(k+4)))
       case rel=>
        refine⟨j+(k+4),v2,cs'++[(j,j+(k+4))],by omega,by omega,rfl,?_,?_,?_,Ag own6 sc5 1 _,left5.setCell hB 1 _⟩
        ·rw[List.length_append];show cs'.length+1≤_;omega
        ·rw[HQ.out,hst.out];simp
        ·rw[HEE.out];exact Scn.IA sc5 _
       case measure=>rw[HG.out];omega
   ·have hst:=Lib.hid (Ee s j hbl hco);have hc2:(atI s (j:Int)==47)=false∨((atI s (j:Int)==47)=true∧(atI s ((j:Int)+1)==42)=false):=by
     by_cases h:atI s (j:Int)=47
     ·right;exact⟨by rw[h];rfl,by rw[beq_eq_false_iff_ne];exact fun h'=>hco ⟨h,h'⟩⟩
     ·left;rw[beq_eq_false_iff_ne];exact h
    clear hbl hco
    rcases hc2 with c1|⟨c1,c2⟩
    ·go_wp2_with fail
     go_quiet ((go_at_call 101;exact Calls.quiet_of_same (bU _ _ _)))
     go_wp2_with fail
     go_quiet ((go_at_call 101;exact dA (bU _ _ _)))
     go_wp2_with fail;rw[Exit.noGoto_ret];go_ret;exact rO (by rw[HQ.out,hst.out,List.append_nil]) sc own ((hleft.drewN _).drewN _)
    ·go_wp2_with fail
     go_quiet ((go_at_call 101;exact Calls.quiet_of_same (bU _ _ _)))
     go_wp2_with fail
     go_quiet ((go_at_call 101;exact dA (bU _ _ _)))
     go_wp2_with fail;rw[Exit.noGoto_ret];go_ret;exact rO (by rw[HQ.out,hst.out,List.append_nil]) sc own ((hleft.drewN _).drewN _)
end
end Go.Proofs.YtfdlmcgcckkkdaaGreatDoor
