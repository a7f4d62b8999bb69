/- sane: the documented examples hold. -/
import Derived.Test.YtafofcenphopbaaGreatDoorA34
namespace Go.Proofs.YtafofcenphopbaaGreatDoor
open Go.RowKit Lx

theorem TokRow.after {w w' : World} {v : Value} {ts : List T3} (h : TokRow w v ts) (hb : Below w.heap.size w w') : TokRow w' v ts := h.below hb (Nat.le_refl _)
theorem outT_ok {s : ByteArray} (h : (scanR s).err = 0) : outT s = (scanR s).toks := by unfold outT; rw [if_pos h]
theorem outC_ok {s : ByteArray} (h : (scanR s).err = 0) : outC s = (scanR s).coms := by unfold outC; rw [if_pos h]
/-- Tokens, its tokens readable. -/
theorem Tokens_row (s : ByteArray) (hs : s.size ≤ 140737488351232) (w : World) (hml : ML w) : Calls Tryz.prog 19 #[.string s] w fun e w' =>
    ∃ lv, e = .returned (.tuple #[lv, .int .i64 (scanR s).at_, .int .i64 (scanR s).err]) ∧ TokRow w' lv ((outT s).map Tok.t3) ∧ Below w.heap.size w w' := by
  refine (Tokens_any s hs w hml).mono ?_
  rintro e w' ⟨lv, rfl, hown, hb⟩
  refine ⟨lv, rfl, ?_, hb⟩
  rw [rcells_tcells, ← List.length_map (f := Tok.t3)] at hown
  exact TokRow.of_own hown
theorem Comments_row (s : ByteArray) (hs : s.size ≤ 140737488351232) (w : World) (hml : ML w) : Calls Tryz.prog 31 #[.string s] w fun e w' =>
    ∃ cv, e = .returned (.tuple #[cv, .int .i64 (scanR s).at_, .int .i64 (scanR s).err]) ∧ ComRow w' cv (comI (outC s)) ∧ Below w.heap.size w w' := by
  refine (Comments_any s hs w hml).mono ?_
  rintro e w' ⟨cv, rfl, hown, hb⟩
  exact ⟨cv, rfl, ComRow.of_own hown, hb⟩
theorem sT1 (W : World) (h : ML W) : Calls Tryz.prog 19 #[.string ⟨#[120, 61, 49, 46, 53, 48, 43, 39, 105, 116, 39, 39, 115, 39, 124, 124, 39, 48, 49, 39, 98, 59, 32, 47, 42, 32, 101, 110, 100, 32, 42, 47]⟩] W fun e w' => ∃ lv, e = .returned (.tuple #[lv, .int .i64 0, .int .i64 0]) ∧ TokRow w' lv exWant ∧ Below W.heap.size W w' := by
  refine (Tokens_row ⟨#[120, 61, 49, 46, 53, 48, 43, 39, 105, 116, 39, 39, 115, 39, 124, 124, 39, 48, 49, 39, 98, 59, 32, 47, 42, 32, 101, 110, 100, 32, 42, 47]⟩ (by decide) W h).mono ?_
  rintro e w' ⟨lv, rfl, hr, hb⟩
  obtain ⟨h1, h2, h3⟩ := exTok
  rw [outT_ok h1, h3] at hr
  refine ⟨lv, ?_, hr, hb⟩
  rw [show (scanR ⟨#[120, 61, 49, 46, 53, 48, 43, 39, 105, 116, 39, 39, 115, 39, 124, 124, 39, 48, 49, 39, 98, 59, 32, 47, 42, 32, 101, 110, 100, 32, 42, 47]⟩).err = 0 from h1, show (scanR ⟨#[120, 61, 49, 46, 53, 48, 43, 39, 105, 116, 39, 39, 115, 39, 124, 124, 39, 48, 49, 39, 98, 59, 32, 47, 42, 32, 101, 110, 100, 32, 42, 47]⟩).at_ = 0 from h2]; rfl
theorem sName (W : World) (_h : ML W) : Calls Tryz.prog 29 #[.string ⟨#[97, 95, 49, 36]⟩] W fun e w' => e = .returned (.tuple #[.string ⟨#[65, 95, 49, 36]⟩, .int .i64 0]) ∧ Below W.heap.size W w' := by
  have hn := Name_any ⟨#[97, 95, 49, 36]⟩ (by decide) W
  rw [if_pos exName.1, if_pos exName.1, exName.2] at hn
  exact hn
theorem sT2 (W : World) (h : ML W) : Calls Tryz.prog 19 #[.string ⟨#[120, 32, 47, 42, 32, 121]⟩] W fun e w' => ∃ lv, e = .returned (.tuple #[lv, .int .i64 2, .int .i64 50]) ∧ Below W.heap.size W w' := by
  refine (Tokens_row ⟨#[120, 32, 47, 42, 32, 121]⟩ (by decide) W h).mono ?_
  rintro e w' ⟨lv, rfl, hr, hb⟩
  refine ⟨lv, ?_, hb⟩
  rw [exBad.1, exBad.2]; rfl
theorem sPrint (v : Value) (W : World) (h : ML W) (hr : TokRow W v exPr) : Calls Tryz.prog 11 #[v] W fun e w' => e = .returned (.tuple #[.string ⟨#[88, 61, 65, 45, 66, 59, 10, 89]⟩, .int .i64 0]) ∧ Below W.heap.size W w' := by
  refine (Print_any v exPr (by decide +kernel) (by decide) W h hr).mono ?_
  rintro e w' ⟨rfl, hb⟩
  rw [exPrint]; exact ⟨rfl, hb⟩
theorem sCon (W : World) (_h : ML W) : Calls Tryz.prog 14 #[.agg #[.int .i64 2, .string ⟨#[49, 46, 53, 48]⟩, .int .i64 0]] W fun e w' => e = .returned (.tuple #[.agg #[.int .i64 1, .int .i64 3, .int .i64 2, .bool false, .string ⟨#[]⟩], .agg #[.int .i64 150, .string ⟨#[]⟩], .int .i64 0]) ∧ Below W.heap.size W w' := by
  refine (Constant_any 2 ⟨#[49, 46, 53, 48]⟩ 0 (by decide) W).mono ?_
  rintro e w' ⟨rfl, hb⟩
  rw [exCon]; exact ⟨rfl, hb⟩
theorem sLit (W : World) (_h : ML W) : Calls Tryz.prog 16 #[.agg #[.int .i64 1, .int .i64 3, .int .i64 2, .bool false, .string ⟨#[]⟩], .agg #[.int .i64 (-5), .string ⟨#[]⟩]] W fun e w' => ∃ lv, e = .returned (.tuple #[lv, .int .i64 0]) ∧ TokRow w' lv [⟨6, ⟨#[45]⟩, 0⟩, ⟨2, ⟨#[48, 46, 48, 53]⟩, 0⟩] ∧ Below W.heap.size W w' := by
  have hl := Literal_any 1 3 2 (-5) false ⟨#[]⟩ ⟨#[]⟩ (by decide) W
  rw [exLit] at hl
  exact hl
theorem sWhere (W : World) (_h : ML W) : Calls Tryz.prog 30 #[.string ⟨#[97, 10, 98]⟩, .int .i64 3] W fun e w' => e = .returned (.tuple #[.agg #[.int .i64 2, .int .i64 2], .int .i64 0]) ∧ Below W.heap.size W w' := by
  have hl := Where_any ⟨#[97, 10, 98]⟩ 3 W
  rw [exWhere] at hl
  exact hl
theorem sTight (W : World) (h : ML W) : Calls Tryz.prog 9 #[.agg #[.int .i64 1, .string ⟨#[65]⟩, .int .i64 0], .agg #[.int .i64 2, .string ⟨#[49]⟩, .int .i64 0]] W fun e w' => e = .returned (.tuple #[.bool false, .int .i64 0]) ∧ Below W.heap.size W w' := by
  have hl := Tight_any ⟨1, ⟨#[65]⟩, 0⟩ ⟨2, ⟨#[49]⟩, 0⟩ (by decide) (by decide) W h
  rw [exTight.1, exTight.2] at hl
  exact hl
theorem sCom (W : World) (h : ML W) : Calls Tryz.prog 31 #[.string ⟨#[97, 47, 42, 98, 42, 47, 99]⟩] W fun e w' => ∃ cv, e = .returned (.tuple #[cv, .int .i64 0, .int .i64 0]) ∧ ComRow w' cv [(1, 6)] ∧ Below W.heap.size W w' := by
  refine (Comments_row ⟨#[97, 47, 42, 98, 42, 47, 99]⟩ (by decide) W h).mono ?_
  rintro e w' ⟨cv, rfl, hr, hb⟩
  rw [outC_ok exCom.1, exCom.2.2.1] at hr
  refine ⟨cv, ?_, hr, hb⟩
  rw [exCom.1, exCom.2.1]; rfl
theorem sStrip (W : World) (h : ML W) : Calls Tryz.prog 32 #[.string ⟨#[97, 47, 42, 98, 42, 47, 99]⟩] W fun e w' => e = .returned (.tuple #[.string ⟨#[97, 32, 99]⟩, .int .i64 0, .int .i64 0]) ∧ Below W.heap.size W w' := by
  refine (Strip_any ⟨#[97, 47, 42, 98, 42, 47, 99]⟩ (by decide) W h).mono ?_
  rintro e w' ⟨rfl, hb⟩
  rw [exCom.1, exCom.2.1, exCom.2.2.2]
  exact ⟨rfl, hb⟩
theorem sIsA (W : World) (_h : ML W) : Calls Tryz.prog 34 #[.string ⟨#[65]⟩] W fun e w' => e = .returned (.bool true) ∧ Below W.heap.size W w' := by
  have hl := IsName_any ⟨#[65]⟩ (by decide) W
  rw [exIs.1] at hl
  exact hl
theorem sIsa (W : World) (_h : ML W) : Calls Tryz.prog 34 #[.string ⟨#[97]⟩] W fun e w' => e = .returned (.bool false) ∧ Below W.heap.size W w' := by
  have hl := IsName_any ⟨#[97]⟩ (by decide) W
  rw [exIs.2.1] at hl
  exact hl
theorem sCheck (W : World) (_h : ML W) : Calls Tryz.prog 35 #[.agg #[.int .i64 3, .string ⟨#[49, 48, 50]⟩, .int .i64 0]] W fun e w' => e = .returned (.int .i64 50) ∧ Below W.heap.size W w' := by
  have hl := Check_any 3 ⟨#[49, 48, 50]⟩ 0 (by decide) W
  rw [exIs.2.2] at hl
  exact hl
end Go.Proofs.YtafofcenphopbaaGreatDoor
