/- Print. -/
import Derived.Test.YtafofcenphopbaaGreatDoorA29
namespace Go.Proofs.YtafofcenphopbaaGreatDoor
open Go.RowKit Lx

def PrintQ (l : List (Int × ByteArray)) (w : World) (e : Ending) (w' : World) : Prop := e = .returned (.tuple #[.string (printR l).1, .int .i64 (printR l).2]) ∧ Below w.heap.size w w'
theorem all_okI_false (l : List T3) (k : Nat) (h : k < l.length) (hk : checkI l[k]!.kind l[k]!.text = false) : (l.map kt3).all okI = false := by
  rw [List.all_eq_false]
  rw [getElem!_pos l k h] at hk
  exact ⟨kt3 l[k], List.mem_map_of_mem (List.getElem_mem h), by show ¬ checkI _ _ = true; rw [show (kt3 l[k]).1 = l[k].kind from rfl, show (kt3 l[k]).2 = l[k].text from rfl, hk]; decide⟩
theorem all_okI_at (l : List T3) (h : (l.map kt3).all okI = true) (k : Nat) (hk : k < l.length) : checkI l[k]!.kind l[k]!.text = true := by
  rw [getElem!_pos l k hk]
  exact List.all_eq_true.1 h (kt3 l[k]) (List.mem_map_of_mem (List.getElem_mem hk))
theorem all_okI_of (l : List T3) (h : ∀ j, j < l.length → checkI l[j]!.kind l[j]!.text = true) : (l.map kt3).all okI = true := by
  rw [List.all_eq_true]
  intro a ha
  obtain ⟨t, ht, rfl⟩ := List.mem_map.1 ha
  obtain ⟨j, hj, rfl⟩ := List.getElem_of_mem ht
  have := h j hj
  rwa [getElem!_pos l j hj] at this
set_option maxHeartbeats 1000000 in
set_option maxRecDepth 100000 in
theorem Print_long (v : Value) (l : List T3) (w : World) (hrow : TokRow w v l) (hlen : l.length ≤ 9223372036854775807) (hl : 5000 < l.length) : Calls Tryz.prog 11 #[v] w (PrintQ (l.map kt3) w) := by
  obtain ⟨ao, cap, rfl, _⟩ := hrow
  have hr : printR (l.map kt3) = (⟨#[]⟩, 2) := by unfold printR; rw [if_pos (by rw [List.length_map]; exact hl)]
  unfold PrintQ
  rw [hr]
  clear hr
  have hl' : (5000 : Int) < (l.length : Int) := by omega
  go_enter Tryz.func11, Tryz.ntmps11
  go_wp2_with fail
  go_ret2
  exact ⟨rfl, Below.refl _ _⟩
set_option maxHeartbeats 1000000 in
set_option maxRecDepth 100000 in
theorem Print_bad (v : Value) (l : List T3) (hs : ∀ t ∈ l, t.text.size ≤ 2147483647) (w : World) (hrow : TokRow w v l) (hl : l.length ≤ 5000) (hbad : (l.map kt3).all okI = false) : Calls Tryz.prog 11 #[v] w (PrintQ (l.map kt3) w) := by
  have hr : printR (l.map kt3) = (⟨#[]⟩, 50) := by unfold printR; rw [if_neg (by rw [List.length_map]; omega), if_pos hbad]
  unfold PrintQ
  rw [hr]
  have HBAD := Lib.hid hbad
  clear hr hbad
  obtain ⟨ao, cap, rfl, h1⟩ := hrow
  have hl' : ¬ (5000 : Int) < (l.length : Int) := by omega
  have HS := Lib.hid hs
  clear hs
  go_enter Tryz.func11, Tryz.ntmps11
  go_wp2_with fail
  generalize hn : l.length = n at h1 hl hl' ⊢
  have HN := Lib.hid hn
  have H1 := Lib.hid h1
  clear hn h1
  go_loopg [14] n (fun gg q wr => ∃ kk : Nat, kk ≤ n ∧ n - kk ≤ gg ∧ q = .int .i64 kk ∧ Aside (Below w.heap.size w wr) ∧ Aside (∀ j, j < kk → checkI l[j]!.kind l[j]!.text = true))
  case atStart => exact ⟨0, Nat.zero_le _, by omega, rfl, Below.refl _ w, fun j hj => absurd hj (Nat.not_lt_zero _)⟩
  case round =>
    obtain ⟨kk, hkk, hg, rfl, BW, A⟩ := hrel
    by_cases hlt : kk < n
    · have hltz : (kk : Int) < (n : Int) := by omega
      obtain ⟨b1, o1, rfl, l1, c1⟩ := H1.out (by intro e; have := HN.out; rw [e] at this; simp at this; omega)
      have r1 := tok_cells c1 l1 BW.out kk hlt
      have hxs : l[kk]!.text.size ≤ 2147483647 := by
        rw [getElem!_pos l kk (by rw [HN.out]; exact hlt)]
        exact HS.out _ (List.getElem_mem _)
      clear c1 l1
      generalize hxk : l[kk]! = x at r1 hxs
      have X : Aside (l[kk]! = x) := hxk
      clear hxk
      obtain ⟨p0, p1, p2⟩ := r1
      go_upto_region 6 with fail
      have bw1 : Below w.heap.size w (wr.alloc (.cells #[.int .i64 x.kind, .string x.text, .int .i64 x.at_] 24)) := BW.out.alloc BW.out.size _
      have n1 := heap_alloc_new wr (.cells #[.int .i64 x.kind, .string x.text, .int .i64 x.at_] 24)
      generalize wr.alloc (.cells #[.int .i64 x.kind, .string x.text, .int .i64 x.at_] 24) = w1 at bw1 n1 ⊢
      have q0 : w1.cell? ⟨wr.heap.size, 0, none⟩ = some (.int .i64 x.kind) := by rw [Lib.cell_of_heap n1]; rfl
      have q1 : w1.cell? ⟨wr.heap.size, 1, none⟩ = some (.string x.text) := by rw [Lib.cell_of_heap n1]; rfl
      have q2 : w1.cell? ⟨wr.heap.size, 2, none⟩ = some (.int .i64 x.at_) := by rw [Lib.cell_of_heap n1]; rfl
      have hck : ∀ W, Calls Tryz.prog 35 #[.agg #[.int .i64 x.kind, .string x.text, .int .i64 x.at_]] W fun e w' => e = .returned (.int .i64 (errIf (checkI x.kind x.text))) ∧ Below W.heap.size W w' :=
        fun W => Check_any x.kind x.text x.at_ (by omega) W
      have HCK := Lib.hid hck
      clear hck n1 p0 p1 p2 hxs
      cases hq : checkI x.kind x.text with
      | false =>
        rw [hq] at HCK
        go_wp2_with fail
        refine (HCK.out _).mono ?_
        rintro e w' ⟨rfl, hb'⟩
        go_wp2_with fail
        go_ret2
        exact ⟨rfl, bw1.trans (hb'.mono bw1.size)⟩
      | true =>
        rw [hq] at HCK
        go_wp2_with fail
        refine (HCK.out _).mono ?_
        rintro e w' ⟨rfl, hb'⟩
        go_wp2_with fail
        go_roundg (n - (kk + 1))
        case measure => omega
        case rel =>
          refine ⟨kk + 1, by omega, by omega, by go_num, bw1.trans (hb'.mono bw1.size), (show Aside _ from fun j hj => ?_)⟩
          by_cases e : j = kk
          · subst e
            rw [X.out]; exact hq
          · exact A.out j (by omega)
    · have hltz : ¬ (kk : Int) < (n : Int) := by omega
      have hke : kk = n := by omega
      subst hke
      have := all_okI_of l (by rw [HN.out]; exact A.out)
      rw [HBAD.out] at this
      cases this
end Go.Proofs.YtafofcenphopbaaGreatDoor
