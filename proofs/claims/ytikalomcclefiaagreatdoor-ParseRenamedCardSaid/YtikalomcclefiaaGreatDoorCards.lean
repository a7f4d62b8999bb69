/-
  DERIVED. GIVEN WITH THE SEED: THE CARDS: each row of YtikalomcclefiaaGreatDoorRows.lean that lists a variable, with what it lists TIED to the program's text (the seventh form; the later family's looks); each row that meets fmt, with fmt's text TOLD by the authors' own Lean function (tested against real Go, not proved from fmt's source: count such statements apart). THE CARD IS WHAT COUNTS. Prove the row's statement (the work); the ties are given (YtikalomcclefiaaGreatDoorTie.lean); close each card by the builder's one call (the guide's Derived/Test/ToyasCard.lean, 'card_holds'). Laid BY PROGRAM, IN A SANDBOX (cutbox-door.mjs). By AI agents, Wed Nov 11 2026. No macro, syntax, notation, axiom, sorry.
-/
import Derived.Test.YtikalomcclefiaaGreatDoorRows
import GoSem.ClaimSeven
namespace Go.Proofs.YtikalomcclefiaaGreatDoor
namespace Rows

/-- THE TIED CARD OF 'pliantlaw07.ParsePrinted'. -/
def parsePrintedCard : Claim7 := { stood := { row := parsePrintedRow, standIns := [], harness := (true, "444515db2f49c643c3105946acfbf8479b97ebfe9767868f205b285ee7d5f22c"), looks := true }, kinds := [], alts := [], laidByText := true, laidKinds := [.data, .data, .data, .data, .sentinel, .sentinel, .pinned], laidTests := true, laidLooks := .later }
def ParsePrintedCardSaid : Prop := Claim7.holds Tryz.pinned (.plain (OpenSpec.ofChange parsePrintedSpec)) parsePrintedCard

/-- THE TIED CARD OF 'pliantlaw07.ParseShort'. -/
def parseShortCard : Claim7 := { stood := { row := parseShortRow, standIns := [], harness := (true, "444515db2f49c643c3105946acfbf8479b97ebfe9767868f205b285ee7d5f22c"), looks := true }, kinds := [], alts := [], laidByText := true, laidKinds := [.data, .data, .data, .data, .sentinel, .sentinel, .pinned], laidTests := true, laidLooks := .later }
def ParseShortCardSaid : Prop := Claim7.holds Tryz.pinned (.plain (OpenSpec.ofChange parseShortSpec)) parseShortCard

/-- THE TIED CARD OF 'pliantlaw07.ParseOrder'. -/
def parseOrderCard : Claim7 := { stood := { row := parseOrderRow, standIns := [], harness := (true, "444515db2f49c643c3105946acfbf8479b97ebfe9767868f205b285ee7d5f22c"), looks := true }, kinds := [], alts := [], laidByText := true, laidKinds := [.data, .data, .data, .data, .sentinel, .sentinel, .pinned], laidTests := true, laidLooks := .later }
def ParseOrderCardSaid : Prop := Claim7.holds Tryz.pinned (.plain (OpenSpec.ofChange parseOrderSpec)) parseOrderCard

/-- THE TIED CARD OF 'pliantlaw07.ParseFree'. -/
def parseFreeCard : Claim7 := { stood := { row := parseFreeRow, standIns := [], harness := (true, "444515db2f49c643c3105946acfbf8479b97ebfe9767868f205b285ee7d5f22c"), looks := true }, kinds := [], alts := [], laidByText := true, laidKinds := [.data, .data, .data, .data, .sentinel, .sentinel, .pinned], laidTests := true, laidLooks := .later }
def ParseFreeCardSaid : Prop := Claim7.holds Tryz.pinned (.plain (OpenSpec.ofChange parseFreeSpec)) parseFreeCard

/-- THE TIED CARD OF 'pliantlaw07.ParseRenamed'. -/
def parseRenamedCard : Claim7 := { stood := { row := parseRenamedRow, standIns := [], harness := (true, "444515db2f49c643c3105946acfbf8479b97ebfe9767868f205b285ee7d5f22c"), looks := true }, kinds := [], alts := [], laidByText := true, laidKinds := [.data, .data, .data, .data, .sentinel, .sentinel, .pinned], laidTests := true, laidLooks := .later }
def ParseRenamedCardSaid : Prop := Claim7.holds Tryz.pinned (.plain (OpenSpec.ofChange parseRenamedSpec)) parseRenamedCard

/-- THE SECOND FORM's CARD OF 'pliantlaw07.ParsePrinted'. -/
def parsePrintedUptoCard : Claim7 := { stood := { row := parsePrintedUptoRow, standIns := [], harness := (true, "444515db2f49c643c3105946acfbf8479b97ebfe9767868f205b285ee7d5f22c"), looks := true }, kinds := [], alts := [], laidByText := true, laidKinds := [.data, .data, .data, .data, .sentinel, .sentinel, .pinned], laidTests := true, laidLooks := .later }
def ParsePrintedUptoCardSaid : Prop := Claim7.holds Tryz.pinned (.plain (OpenSpec.upto parsePrintedSpec)) parsePrintedUptoCard

/-- THE SECOND FORM's CARD OF 'pliantlaw07.ParseShort'. -/
def parseShortUptoCard : Claim7 := { stood := { row := parseShortUptoRow, standIns := [], harness := (true, "444515db2f49c643c3105946acfbf8479b97ebfe9767868f205b285ee7d5f22c"), looks := true }, kinds := [], alts := [], laidByText := true, laidKinds := [.data, .data, .data, .data, .sentinel, .sentinel, .pinned], laidTests := true, laidLooks := .later }
def ParseShortUptoCardSaid : Prop := Claim7.holds Tryz.pinned (.plain (OpenSpec.upto parseShortSpec)) parseShortUptoCard

/-- THE SECOND FORM's CARD OF 'pliantlaw07.ParseOrder'. -/
def parseOrderUptoCard : Claim7 := { stood := { row := parseOrderUptoRow, standIns := [], harness := (true, "444515db2f49c643c3105946acfbf8479b97ebfe9767868f205b285ee7d5f22c"), looks := true }, kinds := [], alts := [], laidByText := true, laidKinds := [.data, .data, .data, .data, .sentinel, .sentinel, .pinned], laidTests := true, laidLooks := .later }
def ParseOrderUptoCardSaid : Prop := Claim7.holds Tryz.pinned (.plain (OpenSpec.upto parseOrderSpec)) parseOrderUptoCard

/-- THE SECOND FORM's CARD OF 'pliantlaw07.ParseFree'. -/
def parseFreeUptoCard : Claim7 := { stood := { row := parseFreeUptoRow, standIns := [], harness := (true, "444515db2f49c643c3105946acfbf8479b97ebfe9767868f205b285ee7d5f22c"), looks := true }, kinds := [], alts := [], laidByText := true, laidKinds := [.data, .data, .data, .data, .sentinel, .sentinel, .pinned], laidTests := true, laidLooks := .later }
def ParseFreeUptoCardSaid : Prop := Claim7.holds Tryz.pinned (.plain (OpenSpec.upto parseFreeSpec)) parseFreeUptoCard

/-- THE SECOND FORM's CARD OF 'pliantlaw07.ParseRenamed'. -/
def parseRenamedUptoCard : Claim7 := { stood := { row := parseRenamedUptoRow, standIns := [], harness := (true, "444515db2f49c643c3105946acfbf8479b97ebfe9767868f205b285ee7d5f22c"), looks := true }, kinds := [], alts := [], laidByText := true, laidKinds := [.data, .data, .data, .data, .sentinel, .sentinel, .pinned], laidTests := true, laidLooks := .later }
def ParseRenamedUptoCardSaid : Prop := Claim7.holds Tryz.pinned (.plain (OpenSpec.upto parseRenamedSpec)) parseRenamedUptoCard
end Rows
end Go.Proofs.YtikalomcclefiaaGreatDoor
