/-
  DERIVED. GIVEN WITH THE SEED: THE CARDS: each row of YtafofcenphopbaaDoorRows.lean that lists a variable, with what it lists TIED to the program's text (the seventh form; the later family's looks); each row that meets fmt, with fmt's text TOLD by the authors' own Lean function (tested against real Go, not proved from fmt's source: count such statements apart). THE CARD IS WHAT COUNTS. Prove the row's statement (the work); the ties are given (YtafofcenphopbaaDoorTie.lean); close each card by the builder's one call (the guide's Derived/Test/ToyasCard.lean, 'card_holds'). Laid BY PROGRAM, IN A SANDBOX (cutbox-door.mjs). By AI agents, Wed Nov 11 2026. No macro, syntax, notation, axiom, sorry.
-/
import Derived.Test.YtafofcenphopbaaDoorRows
import GoSem.ClaimSeven
namespace Go.Proofs.YtafofcenphopbaaDoor
namespace Rows

/-- THE TIED CARD OF 'pliantlaw05.LexFirst'. -/
def lexFirstCard : Claim7 := { stood := { row := lexFirstRow, standIns := [], harness := (true, "f40295a80fe7fbb65fab62bd1a51a68503d2ab629acf0fbbcf25ec75d55f1d18"), looks := false }, kinds := [], alts := [], laidByText := true, laidKinds := [.data, .pinned], laidTests := true, laidLooks := .later }
def LexFirstCardSaid : Prop := Claim7.holds Tryd.pinned (.plain (OpenSpec.ofChange lexFirstSpec)) lexFirstCard

/-- THE TIED CARD OF 'pliantlaw05.LexStripped'. -/
def lexStrippedCard : Claim7 := { stood := { row := lexStrippedRow, standIns := [], harness := (true, "f40295a80fe7fbb65fab62bd1a51a68503d2ab629acf0fbbcf25ec75d55f1d18"), looks := false }, kinds := [], alts := [], laidByText := true, laidKinds := [.data, .pinned], laidTests := true, laidLooks := .later }
def LexStrippedCardSaid : Prop := Claim7.holds Tryd.pinned (.plain (OpenSpec.ofChange lexStrippedSpec)) lexStrippedCard

/-- THE TIED CARD OF 'pliantlaw05.LexTokens'. -/
def lexTokensCard : Claim7 := { stood := { row := lexTokensRow, standIns := [], harness := (true, "f40295a80fe7fbb65fab62bd1a51a68503d2ab629acf0fbbcf25ec75d55f1d18"), looks := false }, kinds := [], alts := [], laidByText := true, laidKinds := [.data, .pinned], laidTests := true, laidLooks := .later }
def LexTokensCardSaid : Prop := Claim7.holds Tryd.pinned (.plain (OpenSpec.ofChange lexTokensSpec)) lexTokensCard

/-- THE TIED CARD OF 'pliantlaw05.LexComments'. -/
def lexCommentsCard : Claim7 := { stood := { row := lexCommentsRow, standIns := [], harness := (true, "f40295a80fe7fbb65fab62bd1a51a68503d2ab629acf0fbbcf25ec75d55f1d18"), looks := false }, kinds := [], alts := [], laidByText := true, laidKinds := [.data, .pinned], laidTests := true, laidLooks := .later }
def LexCommentsCardSaid : Prop := Claim7.holds Tryd.pinned (.plain (OpenSpec.ofChange lexCommentsSpec)) lexCommentsCard

/-- THE TIED CARD OF 'pliantlaw05.LexWords'. -/
def lexWordsCard : Claim7 := { stood := { row := lexWordsRow, standIns := [], harness := (true, "f40295a80fe7fbb65fab62bd1a51a68503d2ab629acf0fbbcf25ec75d55f1d18"), looks := false }, kinds := [], alts := [], laidByText := true, laidKinds := [.data, .pinned], laidTests := true, laidLooks := .later }
def LexWordsCardSaid : Prop := Claim7.holds Tryd.pinned (.plain (OpenSpec.ofChange lexWordsSpec)) lexWordsCard

/-- THE TIED CARD OF 'pliantlaw05.LexMoved'. -/
def lexMovedCard : Claim7 := { stood := { row := lexMovedRow, standIns := [], harness := (true, "f40295a80fe7fbb65fab62bd1a51a68503d2ab629acf0fbbcf25ec75d55f1d18"), looks := false }, kinds := [], alts := [], laidByText := true, laidKinds := [.data, .pinned], laidTests := true, laidLooks := .later }
def LexMovedCardSaid : Prop := Claim7.holds Tryd.pinned (.plain (OpenSpec.ofChange lexMovedSpec)) lexMovedCard

/-- THE TIED CARD OF 'pliantlaw05.LexReadBack'. -/
def lexReadBackCard : Claim7 := { stood := { row := lexReadBackRow, standIns := [], harness := (true, "f40295a80fe7fbb65fab62bd1a51a68503d2ab629acf0fbbcf25ec75d55f1d18"), looks := false }, kinds := [], alts := [], laidByText := true, laidKinds := [.data, .pinned], laidTests := true, laidLooks := .later }
def LexReadBackCardSaid : Prop := Claim7.holds Tryd.pinned (.plain (OpenSpec.ofChange lexReadBackSpec)) lexReadBackCard

/-- THE TIED CARD OF 'pliantlaw05.LexBeside'. -/
def lexBesideCard : Claim7 := { stood := { row := lexBesideRow, standIns := [], harness := (true, "f40295a80fe7fbb65fab62bd1a51a68503d2ab629acf0fbbcf25ec75d55f1d18"), looks := false }, kinds := [], alts := [], laidByText := true, laidKinds := [.data, .pinned], laidTests := true, laidLooks := .later }
def LexBesideCardSaid : Prop := Claim7.holds Tryd.pinned (.plain (OpenSpec.ofChange lexBesideSpec)) lexBesideCard

/-- THE TIED CARD OF 'pliantlaw05.LexSpots'. -/
def lexSpotsCard : Claim7 := { stood := { row := lexSpotsRow, standIns := [], harness := (true, "f40295a80fe7fbb65fab62bd1a51a68503d2ab629acf0fbbcf25ec75d55f1d18"), looks := false }, kinds := [], alts := [], laidByText := true, laidKinds := [.data, .pinned], laidTests := true, laidLooks := .later }
def LexSpotsCardSaid : Prop := Claim7.holds Tryd.pinned (.plain (OpenSpec.ofChange lexSpotsSpec)) lexSpotsCard

/-- THE TIED CARD OF 'pliantlaw05.LexLiterals'. -/
def lexLiteralsCard : Claim7 := { stood := { row := lexLiteralsRow, standIns := [], harness := (true, "f40295a80fe7fbb65fab62bd1a51a68503d2ab629acf0fbbcf25ec75d55f1d18"), looks := false }, kinds := [], alts := [], laidByText := true, laidKinds := [.data, .pinned, .pinned], laidTests := true, laidLooks := .later }
def LexLiteralsCardSaid : Prop := Claim7.holds Tryd.pinned (.plain (OpenSpec.ofChange lexLiteralsSpec)) lexLiteralsCard

/-- THE SECOND FORM's CARD OF 'pliantlaw05.LexFirst'. -/
def lexFirstUptoCard : Claim7 := { stood := { row := lexFirstUptoRow, standIns := [], harness := (true, "f40295a80fe7fbb65fab62bd1a51a68503d2ab629acf0fbbcf25ec75d55f1d18"), looks := false }, kinds := [], alts := [], laidByText := true, laidKinds := [.data, .pinned], laidTests := true, laidLooks := .later }
def LexFirstUptoCardSaid : Prop := Claim7.holds Tryd.pinned (.plain (OpenSpec.upto lexFirstSpec)) lexFirstUptoCard

/-- THE SECOND FORM's CARD OF 'pliantlaw05.LexStripped'. -/
def lexStrippedUptoCard : Claim7 := { stood := { row := lexStrippedUptoRow, standIns := [], harness := (true, "f40295a80fe7fbb65fab62bd1a51a68503d2ab629acf0fbbcf25ec75d55f1d18"), looks := false }, kinds := [], alts := [], laidByText := true, laidKinds := [.data, .pinned], laidTests := true, laidLooks := .later }
def LexStrippedUptoCardSaid : Prop := Claim7.holds Tryd.pinned (.plain (OpenSpec.upto lexStrippedSpec)) lexStrippedUptoCard

/-- THE SECOND FORM's CARD OF 'pliantlaw05.LexTokens'. -/
def lexTokensUptoCard : Claim7 := { stood := { row := lexTokensUptoRow, standIns := [], harness := (true, "f40295a80fe7fbb65fab62bd1a51a68503d2ab629acf0fbbcf25ec75d55f1d18"), looks := false }, kinds := [], alts := [], laidByText := true, laidKinds := [.data, .pinned], laidTests := true, laidLooks := .later }
def LexTokensUptoCardSaid : Prop := Claim7.holds Tryd.pinned (.plain (OpenSpec.upto lexTokensSpec)) lexTokensUptoCard

/-- THE SECOND FORM's CARD OF 'pliantlaw05.LexComments'. -/
def lexCommentsUptoCard : Claim7 := { stood := { row := lexCommentsUptoRow, standIns := [], harness := (true, "f40295a80fe7fbb65fab62bd1a51a68503d2ab629acf0fbbcf25ec75d55f1d18"), looks := false }, kinds := [], alts := [], laidByText := true, laidKinds := [.data, .pinned], laidTests := true, laidLooks := .later }
def LexCommentsUptoCardSaid : Prop := Claim7.holds Tryd.pinned (.plain (OpenSpec.upto lexCommentsSpec)) lexCommentsUptoCard

/-- THE SECOND FORM's CARD OF 'pliantlaw05.LexWords'. -/
def lexWordsUptoCard : Claim7 := { stood := { row := lexWordsUptoRow, standIns := [], harness := (true, "f40295a80fe7fbb65fab62bd1a51a68503d2ab629acf0fbbcf25ec75d55f1d18"), looks := false }, kinds := [], alts := [], laidByText := true, laidKinds := [.data, .pinned], laidTests := true, laidLooks := .later }
def LexWordsUptoCardSaid : Prop := Claim7.holds Tryd.pinned (.plain (OpenSpec.upto lexWordsSpec)) lexWordsUptoCard

/-- THE SECOND FORM's CARD OF 'pliantlaw05.LexMoved'. -/
def lexMovedUptoCard : Claim7 := { stood := { row := lexMovedUptoRow, standIns := [], harness := (true, "f40295a80fe7fbb65fab62bd1a51a68503d2ab629acf0fbbcf25ec75d55f1d18"), looks := false }, kinds := [], alts := [], laidByText := true, laidKinds := [.data, .pinned], laidTests := true, laidLooks := .later }
def LexMovedUptoCardSaid : Prop := Claim7.holds Tryd.pinned (.plain (OpenSpec.upto lexMovedSpec)) lexMovedUptoCard

/-- THE SECOND FORM's CARD OF 'pliantlaw05.LexReadBack'. -/
def lexReadBackUptoCard : Claim7 := { stood := { row := lexReadBackUptoRow, standIns := [], harness := (true, "f40295a80fe7fbb65fab62bd1a51a68503d2ab629acf0fbbcf25ec75d55f1d18"), looks := false }, kinds := [], alts := [], laidByText := true, laidKinds := [.data, .pinned], laidTests := true, laidLooks := .later }
def LexReadBackUptoCardSaid : Prop := Claim7.holds Tryd.pinned (.plain (OpenSpec.upto lexReadBackSpec)) lexReadBackUptoCard

/-- THE SECOND FORM's CARD OF 'pliantlaw05.LexBeside'. -/
def lexBesideUptoCard : Claim7 := { stood := { row := lexBesideUptoRow, standIns := [], harness := (true, "f40295a80fe7fbb65fab62bd1a51a68503d2ab629acf0fbbcf25ec75d55f1d18"), looks := false }, kinds := [], alts := [], laidByText := true, laidKinds := [.data, .pinned], laidTests := true, laidLooks := .later }
def LexBesideUptoCardSaid : Prop := Claim7.holds Tryd.pinned (.plain (OpenSpec.upto lexBesideSpec)) lexBesideUptoCard

/-- THE SECOND FORM's CARD OF 'pliantlaw05.LexSpots'. -/
def lexSpotsUptoCard : Claim7 := { stood := { row := lexSpotsUptoRow, standIns := [], harness := (true, "f40295a80fe7fbb65fab62bd1a51a68503d2ab629acf0fbbcf25ec75d55f1d18"), looks := false }, kinds := [], alts := [], laidByText := true, laidKinds := [.data, .pinned], laidTests := true, laidLooks := .later }
def LexSpotsUptoCardSaid : Prop := Claim7.holds Tryd.pinned (.plain (OpenSpec.upto lexSpotsSpec)) lexSpotsUptoCard

/-- THE SECOND FORM's CARD OF 'pliantlaw05.LexLiterals'. -/
def lexLiteralsUptoCard : Claim7 := { stood := { row := lexLiteralsUptoRow, standIns := [], harness := (true, "f40295a80fe7fbb65fab62bd1a51a68503d2ab629acf0fbbcf25ec75d55f1d18"), looks := false }, kinds := [], alts := [], laidByText := true, laidKinds := [.data, .pinned, .pinned], laidTests := true, laidLooks := .later }
def LexLiteralsUptoCardSaid : Prop := Claim7.holds Tryd.pinned (.plain (OpenSpec.upto lexLiteralsSpec)) lexLiteralsUptoCard
end Rows
end Go.Proofs.YtafofcenphopbaaDoor
