/- The documented examples: plain facts. -/
import Derived.Test.YtafofcenphopbaaGreatDoorA33
namespace Go.Proofs.YtafofcenphopbaaGreatDoor
open Lx
def exWant : List T3 := [⟨1, ⟨#[88]⟩, 0⟩, ⟨6, ⟨#[61]⟩, 1⟩, ⟨2, ⟨#[49, 46, 53, 48]⟩, 2⟩, ⟨6, ⟨#[43]⟩, 6⟩, ⟨4, ⟨#[105, 116, 39, 115]⟩, 7⟩, ⟨6, ⟨#[124, 124]⟩, 14⟩, ⟨5, ⟨#[48, 49]⟩, 16⟩, ⟨6, ⟨#[59]⟩, 21⟩]
theorem exTok : (scanR ⟨#[120, 61, 49, 46, 53, 48, 43, 39, 105, 116, 39, 39, 115, 39, 124, 124, 39, 48, 49, 39, 98, 59, 32, 47, 42, 32, 101, 110, 100, 32, 42, 47]⟩).err = 0 ∧ (scanR ⟨#[120, 61, 49, 46, 53, 48, 43, 39, 105, 116, 39, 39, 115, 39, 124, 124, 39, 48, 49, 39, 98, 59, 32, 47, 42, 32, 101, 110, 100, 32, 42, 47]⟩).at_ = 0 ∧ (scanR ⟨#[120, 61, 49, 46, 53, 48, 43, 39, 105, 116, 39, 39, 115, 39, 124, 124, 39, 48, 49, 39, 98, 59, 32, 47, 42, 32, 101, 110, 100, 32, 42, 47]⟩).toks.map Tok.t3 = exWant := by decide +kernel
theorem exName : nameI ⟨#[97, 95, 49, 36]⟩ = true ∧ upS ⟨#[97, 95, 49, 36]⟩ = ⟨#[65, 95, 49, 36]⟩ := by decide +kernel
theorem exBad : (scanR ⟨#[120, 32, 47, 42, 32, 121]⟩).err = 50 ∧ (scanR ⟨#[120, 32, 47, 42, 32, 121]⟩).at_ = 2 := by decide +kernel
def exPr : List T3 := [⟨1, ⟨#[88]⟩, 0⟩, ⟨6, ⟨#[61]⟩, 0⟩, ⟨1, ⟨#[65]⟩, 0⟩, ⟨6, ⟨#[45]⟩, 0⟩, ⟨1, ⟨#[66]⟩, 0⟩, ⟨6, ⟨#[59]⟩, 0⟩, ⟨1, ⟨#[89]⟩, 0⟩]
theorem exPrint : printR (exPr.map kt3) = (⟨#[88, 61, 65, 45, 66, 59, 10, 89]⟩, 0) := by decide +kernel
theorem exCon : conI 2 ⟨#[49, 46, 53, 48]⟩ = ⟨1, 3, 2, 150, ⟨#[]⟩, 0⟩ := by
  have h : (conI 2 ⟨#[49, 46, 53, 48]⟩).kind = 1 ∧ (conI 2 ⟨#[49, 46, 53, 48]⟩).p = 3 ∧ (conI 2 ⟨#[49, 46, 53, 48]⟩).q = 2 ∧ (conI 2 ⟨#[49, 46, 53, 48]⟩).n = 150 ∧ (conI 2 ⟨#[49, 46, 53, 48]⟩).s = ⟨#[]⟩ ∧ (conI 2 ⟨#[49, 46, 53, 48]⟩).err = 0 := by decide +kernel
  obtain ⟨h1, h2, h3, h4, h5, h6⟩ := h
  generalize conI 2 ⟨#[49, 46, 53, 48]⟩ = r at *
  obtain ⟨a, b, c, d, e, f⟩ := r
  simp only at *
  subst h1; subst h2; subst h3; subst h4; subst h5; subst h6; rfl
theorem exLit : litI 1 3 2 false ⟨#[]⟩ (-5) ⟨#[]⟩ = ([(6, ⟨#[45]⟩), (2, ⟨#[48, 46, 48, 53]⟩)], 0) := by decide +kernel
theorem exWhere : whereL ⟨#[97, 10, 98]⟩ 3 = (2, 2, 0) := by decide +kernel
theorem exTight : (checkI 1 ⟨#[65]⟩ && (checkI 2 ⟨#[49]⟩ && tightI ⟨1, ⟨#[65]⟩, 0⟩ ⟨2, ⟨#[49]⟩, 0⟩)) = false ∧ errIf (checkI 1 ⟨#[65]⟩ && checkI 2 ⟨#[49]⟩) = 0 := by decide +kernel
theorem exCom : (scanR ⟨#[97, 47, 42, 98, 42, 47, 99]⟩).err = 0 ∧ (scanR ⟨#[97, 47, 42, 98, 42, 47, 99]⟩).at_ = 0 ∧ (scanR ⟨#[97, 47, 42, 98, 42, 47, 99]⟩).coms = [(1, 6)] ∧ stripR ⟨#[97, 47, 42, 98, 42, 47, 99]⟩ = ⟨#[97, 32, 99]⟩ := by decide +kernel
theorem exIs : isNameI ⟨#[65]⟩ = true ∧ isNameI ⟨#[97]⟩ = false ∧ checkI 3 ⟨#[49, 48, 50]⟩ = false := by decide +kernel
end Go.Proofs.YtafofcenphopbaaGreatDoor
