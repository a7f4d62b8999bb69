/-
  DERIVED. GIVEN WITH THE SEED: THE CARDS: each row of YtafofcenphopbaaGreatDoorRows.lean that lists a variable, with what it lists TIED to the program's text (the seventh form; the later family's looks); each row that meets fmt, with fmt's text TOLD by the authors' own Lean function (tested against real Go, not proved from fmt's source: count such statements apart). THE CARD IS WHAT COUNTS. Prove the row's statement (the work); the ties are given (YtafofcenphopbaaGreatDoorTie.lean); close each card by the builder's one call (the guide's Derived/Test/ToyasCard.lean, 'card_holds'). Laid BY PROGRAM, IN A SANDBOX (cutbox-door.mjs). By AI agents, Wed Nov 11 2026. No macro, syntax, notation, axiom, sorry.
-/
import Derived.Test.YtafofcenphopbaaGreatDoorRows
import GoSem.ClaimSeven
namespace Go.Proofs.YtafofcenphopbaaGreatDoor
namespace Rows

/-- THE TIED CARD OF 'pliantlaw05.LexPrints'. -/
def lexPrintsCard : Claim7 := { stood := { row := lexPrintsRow, standIns := [], harness := (true, "076293f99f58c21f9f86479d50162f7f1612b078a714558265b8bdf9f7ec9d58"), looks := false }, kinds := [], alts := [], laidByText := true, laidKinds := [.data, .pinned], laidTests := true, laidLooks := .later }
def LexPrintsCardSaid : Prop := Claim7.holds Tryz.pinned (.plain (OpenSpec.ofChange lexPrintsSpec)) lexPrintsCard

/-- THE TIED CARD OF 'pliantlaw05.LexConstants'. -/
def lexConstantsCard : Claim7 := { stood := { row := lexConstantsRow, standIns := [], harness := (true, "076293f99f58c21f9f86479d50162f7f1612b078a714558265b8bdf9f7ec9d58"), looks := false }, kinds := [], alts := [], laidByText := true, laidKinds := [.data, .data, .data, .data, .pinned], laidTests := true, laidLooks := .later }
def LexConstantsCardSaid : Prop := Claim7.holds Tryz.pinned (.plain (OpenSpec.ofChange lexConstantsSpec)) lexConstantsCard

/-- THE TIED CARD OF 'pliantlaw05.LexLongest'. -/
def lexLongestCard : Claim7 := { stood := { row := lexLongestRow, standIns := [], harness := (true, "076293f99f58c21f9f86479d50162f7f1612b078a714558265b8bdf9f7ec9d58"), looks := false }, kinds := [], alts := [], laidByText := true, laidKinds := [.data, .pinned], laidTests := true, laidLooks := .later }
def LexLongestCardSaid : Prop := Claim7.holds Tryz.pinned (.plain (OpenSpec.ofChange lexLongestSpec)) lexLongestCard

/-- THE TIED CARD OF 'pliantlaw05.LexWhole'. -/
def lexWholeCard : Claim7 := { stood := { row := lexWholeRow, standIns := [], harness := (true, "076293f99f58c21f9f86479d50162f7f1612b078a714558265b8bdf9f7ec9d58"), looks := false }, kinds := [], alts := [], laidByText := true, laidKinds := [.data, .pinned], laidTests := true, laidLooks := .later }
def LexWholeCardSaid : Prop := Claim7.holds Tryz.pinned (.plain (OpenSpec.ofChange lexWholeSpec)) lexWholeCard

/-- THE SECOND FORM's CARD OF 'pliantlaw05.LexPrints'. -/
def lexPrintsUptoCard : Claim7 := { stood := { row := lexPrintsUptoRow, standIns := [], harness := (true, "076293f99f58c21f9f86479d50162f7f1612b078a714558265b8bdf9f7ec9d58"), looks := false }, kinds := [], alts := [], laidByText := true, laidKinds := [.data, .pinned], laidTests := true, laidLooks := .later }
def LexPrintsUptoCardSaid : Prop := Claim7.holds Tryz.pinned (.plain (OpenSpec.upto lexPrintsSpec)) lexPrintsUptoCard

/-- THE SECOND FORM's CARD OF 'pliantlaw05.LexConstants'. -/
def lexConstantsUptoCard : Claim7 := { stood := { row := lexConstantsUptoRow, standIns := [], harness := (true, "076293f99f58c21f9f86479d50162f7f1612b078a714558265b8bdf9f7ec9d58"), looks := false }, kinds := [], alts := [], laidByText := true, laidKinds := [.data, .data, .data, .data, .pinned], laidTests := true, laidLooks := .later }
def LexConstantsUptoCardSaid : Prop := Claim7.holds Tryz.pinned (.plain (OpenSpec.upto lexConstantsSpec)) lexConstantsUptoCard

/-- THE SECOND FORM's CARD OF 'pliantlaw05.LexLongest'. -/
def lexLongestUptoCard : Claim7 := { stood := { row := lexLongestUptoRow, standIns := [], harness := (true, "076293f99f58c21f9f86479d50162f7f1612b078a714558265b8bdf9f7ec9d58"), looks := false }, kinds := [], alts := [], laidByText := true, laidKinds := [.data, .pinned], laidTests := true, laidLooks := .later }
def LexLongestUptoCardSaid : Prop := Claim7.holds Tryz.pinned (.plain (OpenSpec.upto lexLongestSpec)) lexLongestUptoCard

/-- THE SECOND FORM's CARD OF 'pliantlaw05.LexWhole'. -/
def lexWholeUptoCard : Claim7 := { stood := { row := lexWholeUptoRow, standIns := [], harness := (true, "076293f99f58c21f9f86479d50162f7f1612b078a714558265b8bdf9f7ec9d58"), looks := false }, kinds := [], alts := [], laidByText := true, laidKinds := [.data, .pinned], laidTests := true, laidLooks := .later }
def LexWholeUptoCardSaid : Prop := Claim7.holds Tryz.pinned (.plain (OpenSpec.upto lexWholeSpec)) lexWholeUptoCard
end Rows
end Go.Proofs.YtafofcenphopbaaGreatDoor
