/-
  DERIVED. GIVEN WITH THE SEED: THE CARDS: each row of YtmojbghcngdkpaaGreatDoorRows.lean that lists a variable, with what it lists TIED to the program's text (the seventh form; the later family's looks); each row that meets fmt, with fmt's text TOLD by the authors' own Lean function (tested against real Go, not proved from fmt's source: count such statements apart). THE CARD IS WHAT COUNTS. Prove the row's statement (the work); the ties are given (YtmojbghcngdkpaaGreatDoorTie.lean); close each card by the builder's one call (the guide's Derived/Test/ToyasCard.lean, 'card_holds'). Laid BY PROGRAM, IN A SANDBOX (cutbox-door.mjs). By AI agents, Wed Nov 11 2026. No macro, syntax, notation, axiom, sorry.
-/
import Derived.Test.YtmojbghcngdkpaaGreatDoorRows
import GoSem.ClaimSeven
namespace Go.Proofs.YtmojbghcngdkpaaGreatDoor
namespace Rows

/-- THE TIED CARD OF 'caissonlaw24.HistoriesCheck'. -/
def historiesCheckCard : Claim7 := { stood := { row := historiesCheckRow, standIns := [], harness := (true, "a96e9f6bf76b45ab3a89c1000cebd0c1c4b389b439417acd4c3f1e5305db6828"), looks := true }, kinds := [], alts := [], laidByText := true, laidKinds := [.data, .data, .data, .data, .sentinel, .sentinel, .pinned], laidTests := true, laidLooks := .later }
def HistoriesCheckCardSaid : Prop := Claim7.holds Tryz.pinned (.plain (OpenSpec.ofChange historiesCheckSpec)) historiesCheckCard

/-- THE TIED CARD OF 'caissonlaw24.HistoriesOps'. -/
def historiesOpsCard : Claim7 := { stood := { row := historiesOpsRow, standIns := [], harness := (true, "a96e9f6bf76b45ab3a89c1000cebd0c1c4b389b439417acd4c3f1e5305db6828"), looks := true }, kinds := [], alts := [], laidByText := true, laidKinds := [.data, .data, .data, .data, .sentinel, .sentinel, .pinned], laidTests := true, laidLooks := .later }
def HistoriesOpsCardSaid : Prop := Claim7.holds Tryz.pinned (.plain (OpenSpec.ofChange historiesOpsSpec)) historiesOpsCard

/-- THE TIED CARD OF 'caissonlaw24.HistoriesEras'. -/
def historiesErasCard : Claim7 := { stood := { row := historiesErasRow, standIns := [], harness := (true, "a96e9f6bf76b45ab3a89c1000cebd0c1c4b389b439417acd4c3f1e5305db6828"), looks := true }, kinds := [], alts := [], laidByText := true, laidKinds := [.data, .data, .data, .data, .sentinel, .sentinel, .pinned], laidTests := true, laidLooks := .later }
def HistoriesErasCardSaid : Prop := Claim7.holds Tryz.pinned (.plain (OpenSpec.ofChange historiesErasSpec)) historiesErasCard

/-- THE TIED CARD OF 'caissonlaw24.HistoriesParse'. -/
def historiesParseCard : Claim7 := { stood := { row := historiesParseRow, standIns := [], harness := (true, "a96e9f6bf76b45ab3a89c1000cebd0c1c4b389b439417acd4c3f1e5305db6828"), looks := true }, kinds := [], alts := [], laidByText := true, laidKinds := [.data, .data, .data, .data, .sentinel, .sentinel, .pinned], laidTests := true, laidLooks := .later }
def HistoriesParseCardSaid : Prop := Claim7.holds Tryz.pinned (.plain (OpenSpec.ofChange historiesParseSpec)) historiesParseCard

/-- THE TIED CARD OF 'caissonlaw24.HistoriesText'. -/
def historiesTextCard : Claim7 := { stood := { row := historiesTextRow, standIns := [], harness := (true, "a96e9f6bf76b45ab3a89c1000cebd0c1c4b389b439417acd4c3f1e5305db6828"), looks := true }, kinds := [], alts := [], laidByText := true, laidKinds := [.data, .data, .data, .data, .sentinel, .sentinel, .pinned], laidTests := true, laidLooks := .later }
def HistoriesTextCardSaid : Prop := Claim7.holds Tryz.pinned (.plain (OpenSpec.ofChange historiesTextSpec)) historiesTextCard

/-- THE TIED CARD OF 'caissonlaw24.HistoriesSame'. -/
def historiesSameCard : Claim7 := { stood := { row := historiesSameRow, standIns := [], harness := (true, "a96e9f6bf76b45ab3a89c1000cebd0c1c4b389b439417acd4c3f1e5305db6828"), looks := true }, kinds := [], alts := [], laidByText := true, laidKinds := [.data, .data, .data, .data, .sentinel, .sentinel, .pinned], laidTests := true, laidLooks := .later }
def HistoriesSameCardSaid : Prop := Claim7.holds Tryz.pinned (.plain (OpenSpec.ofChange historiesSameSpec)) historiesSameCard

/-- THE TIED CARD OF 'caissonlaw24.HistoriesKnown'. -/
def historiesKnownCard : Claim7 := { stood := { row := historiesKnownRow, standIns := [], harness := (true, "a96e9f6bf76b45ab3a89c1000cebd0c1c4b389b439417acd4c3f1e5305db6828"), looks := true }, kinds := [], alts := [], laidByText := true, laidKinds := [.data, .data, .data, .data, .sentinel, .sentinel, .pinned], laidTests := true, laidLooks := .later }
def HistoriesKnownCardSaid : Prop := Claim7.holds Tryz.pinned (.plain (OpenSpec.ofChange historiesKnownSpec)) historiesKnownCard

/-- THE TIED CARD OF 'caissonlaw23.ProgramsCheck'. -/
def programsCheckCard : Claim7 := { stood := { row := programsCheckRow, standIns := [], harness := (true, "a96e9f6bf76b45ab3a89c1000cebd0c1c4b389b439417acd4c3f1e5305db6828"), looks := true }, kinds := [], alts := [], laidByText := true, laidKinds := [.data, .data, .data, .data, .sentinel, .sentinel, .pinned], laidTests := true, laidLooks := .later }
def ProgramsCheckCardSaid : Prop := Claim7.holds Tryz.pinned (.plain (OpenSpec.ofChange programsCheckSpec)) programsCheckCard

/-- THE TIED CARD OF 'caissonlaw23.ProgramsText'. -/
def programsTextCard : Claim7 := { stood := { row := programsTextRow, standIns := [], harness := (true, "a96e9f6bf76b45ab3a89c1000cebd0c1c4b389b439417acd4c3f1e5305db6828"), looks := true }, kinds := [], alts := [], laidByText := true, laidKinds := [.data, .data, .data, .data, .sentinel, .sentinel, .pinned], laidTests := true, laidLooks := .later }
def ProgramsTextCardSaid : Prop := Claim7.holds Tryz.pinned (.plain (OpenSpec.ofChange programsTextSpec)) programsTextCard

/-- THE TIED CARD OF 'caissonlaw23.ProgramsBack'. -/
def programsBackCard : Claim7 := { stood := { row := programsBackRow, standIns := [], harness := (true, "a96e9f6bf76b45ab3a89c1000cebd0c1c4b389b439417acd4c3f1e5305db6828"), looks := true }, kinds := [], alts := [], laidByText := true, laidKinds := [.data, .data, .data, .data, .sentinel, .sentinel, .pinned], laidTests := true, laidLooks := .later }
def ProgramsBackCardSaid : Prop := Claim7.holds Tryz.pinned (.plain (OpenSpec.ofChange programsBackSpec)) programsBackCard

/-- THE TIED CARD OF 'caissonlaw23.ProgramsParse'. -/
def programsParseCard : Claim7 := { stood := { row := programsParseRow, standIns := [], harness := (true, "a96e9f6bf76b45ab3a89c1000cebd0c1c4b389b439417acd4c3f1e5305db6828"), looks := true }, kinds := [], alts := [], laidByText := true, laidKinds := [.data, .data, .data, .data, .sentinel, .sentinel, .pinned], laidTests := true, laidLooks := .later }
def ProgramsParseCardSaid : Prop := Claim7.holds Tryz.pinned (.plain (OpenSpec.ofChange programsParseSpec)) programsParseCard

/-- THE TIED CARD OF 'caissonlaw23.ProgramsLines'. -/
def programsLinesCard : Claim7 := { stood := { row := programsLinesRow, standIns := [], harness := (true, "a96e9f6bf76b45ab3a89c1000cebd0c1c4b389b439417acd4c3f1e5305db6828"), looks := true }, kinds := [], alts := [], laidByText := true, laidKinds := [.data, .data, .data, .data, .sentinel, .sentinel, .pinned], laidTests := true, laidLooks := .later }
def ProgramsLinesCardSaid : Prop := Claim7.holds Tryz.pinned (.plain (OpenSpec.ofChange programsLinesSpec)) programsLinesCard

/-- THE TIED CARD OF 'caissonlaw23.ProgramsKnown'. -/
def programsKnownCard : Claim7 := { stood := { row := programsKnownRow, standIns := [], harness := (true, "a96e9f6bf76b45ab3a89c1000cebd0c1c4b389b439417acd4c3f1e5305db6828"), looks := true }, kinds := [], alts := [], laidByText := true, laidKinds := [.data, .data, .data, .data, .sentinel, .sentinel, .pinned], laidTests := true, laidLooks := .later }
def ProgramsKnownCardSaid : Prop := Claim7.holds Tryz.pinned (.plain (OpenSpec.ofChange programsKnownSpec)) programsKnownCard

/-- THE TIED CARD OF 'caissonlaw23.ProgramsSame'. -/
def programsSameCard : Claim7 := { stood := { row := programsSameRow, standIns := [], harness := (true, "a96e9f6bf76b45ab3a89c1000cebd0c1c4b389b439417acd4c3f1e5305db6828"), looks := true }, kinds := [], alts := [], laidByText := true, laidKinds := [.data, .data, .data, .data, .sentinel, .sentinel, .pinned], laidTests := true, laidLooks := .later }
def ProgramsSameCardSaid : Prop := Claim7.holds Tryz.pinned (.plain (OpenSpec.ofChange programsSameSpec)) programsSameCard

/-- THE SECOND FORM's CARD OF 'caissonlaw24.HistoriesCheck'. -/
def historiesCheckUptoCard : Claim7 := { stood := { row := historiesCheckUptoRow, standIns := [], harness := (true, "a96e9f6bf76b45ab3a89c1000cebd0c1c4b389b439417acd4c3f1e5305db6828"), looks := true }, kinds := [], alts := [], laidByText := true, laidKinds := [.data, .data, .data, .data, .sentinel, .sentinel, .pinned], laidTests := true, laidLooks := .later }
def HistoriesCheckUptoCardSaid : Prop := Claim7.holds Tryz.pinned (.plain (OpenSpec.upto historiesCheckSpec)) historiesCheckUptoCard

/-- THE SECOND FORM's CARD OF 'caissonlaw24.HistoriesOps'. -/
def historiesOpsUptoCard : Claim7 := { stood := { row := historiesOpsUptoRow, standIns := [], harness := (true, "a96e9f6bf76b45ab3a89c1000cebd0c1c4b389b439417acd4c3f1e5305db6828"), looks := true }, kinds := [], alts := [], laidByText := true, laidKinds := [.data, .data, .data, .data, .sentinel, .sentinel, .pinned], laidTests := true, laidLooks := .later }
def HistoriesOpsUptoCardSaid : Prop := Claim7.holds Tryz.pinned (.plain (OpenSpec.upto historiesOpsSpec)) historiesOpsUptoCard

/-- THE SECOND FORM's CARD OF 'caissonlaw24.HistoriesEras'. -/
def historiesErasUptoCard : Claim7 := { stood := { row := historiesErasUptoRow, standIns := [], harness := (true, "a96e9f6bf76b45ab3a89c1000cebd0c1c4b389b439417acd4c3f1e5305db6828"), looks := true }, kinds := [], alts := [], laidByText := true, laidKinds := [.data, .data, .data, .data, .sentinel, .sentinel, .pinned], laidTests := true, laidLooks := .later }
def HistoriesErasUptoCardSaid : Prop := Claim7.holds Tryz.pinned (.plain (OpenSpec.upto historiesErasSpec)) historiesErasUptoCard

/-- THE SECOND FORM's CARD OF 'caissonlaw24.HistoriesParse'. -/
def historiesParseUptoCard : Claim7 := { stood := { row := historiesParseUptoRow, standIns := [], harness := (true, "a96e9f6bf76b45ab3a89c1000cebd0c1c4b389b439417acd4c3f1e5305db6828"), looks := true }, kinds := [], alts := [], laidByText := true, laidKinds := [.data, .data, .data, .data, .sentinel, .sentinel, .pinned], laidTests := true, laidLooks := .later }
def HistoriesParseUptoCardSaid : Prop := Claim7.holds Tryz.pinned (.plain (OpenSpec.upto historiesParseSpec)) historiesParseUptoCard

/-- THE SECOND FORM's CARD OF 'caissonlaw24.HistoriesText'. -/
def historiesTextUptoCard : Claim7 := { stood := { row := historiesTextUptoRow, standIns := [], harness := (true, "a96e9f6bf76b45ab3a89c1000cebd0c1c4b389b439417acd4c3f1e5305db6828"), looks := true }, kinds := [], alts := [], laidByText := true, laidKinds := [.data, .data, .data, .data, .sentinel, .sentinel, .pinned], laidTests := true, laidLooks := .later }
def HistoriesTextUptoCardSaid : Prop := Claim7.holds Tryz.pinned (.plain (OpenSpec.upto historiesTextSpec)) historiesTextUptoCard

/-- THE SECOND FORM's CARD OF 'caissonlaw24.HistoriesSame'. -/
def historiesSameUptoCard : Claim7 := { stood := { row := historiesSameUptoRow, standIns := [], harness := (true, "a96e9f6bf76b45ab3a89c1000cebd0c1c4b389b439417acd4c3f1e5305db6828"), looks := true }, kinds := [], alts := [], laidByText := true, laidKinds := [.data, .data, .data, .data, .sentinel, .sentinel, .pinned], laidTests := true, laidLooks := .later }
def HistoriesSameUptoCardSaid : Prop := Claim7.holds Tryz.pinned (.plain (OpenSpec.upto historiesSameSpec)) historiesSameUptoCard

/-- THE SECOND FORM's CARD OF 'caissonlaw24.HistoriesKnown'. -/
def historiesKnownUptoCard : Claim7 := { stood := { row := historiesKnownUptoRow, standIns := [], harness := (true, "a96e9f6bf76b45ab3a89c1000cebd0c1c4b389b439417acd4c3f1e5305db6828"), looks := true }, kinds := [], alts := [], laidByText := true, laidKinds := [.data, .data, .data, .data, .sentinel, .sentinel, .pinned], laidTests := true, laidLooks := .later }
def HistoriesKnownUptoCardSaid : Prop := Claim7.holds Tryz.pinned (.plain (OpenSpec.upto historiesKnownSpec)) historiesKnownUptoCard

/-- THE SECOND FORM's CARD OF 'caissonlaw23.ProgramsCheck'. -/
def programsCheckUptoCard : Claim7 := { stood := { row := programsCheckUptoRow, standIns := [], harness := (true, "a96e9f6bf76b45ab3a89c1000cebd0c1c4b389b439417acd4c3f1e5305db6828"), looks := true }, kinds := [], alts := [], laidByText := true, laidKinds := [.data, .data, .data, .data, .sentinel, .sentinel, .pinned], laidTests := true, laidLooks := .later }
def ProgramsCheckUptoCardSaid : Prop := Claim7.holds Tryz.pinned (.plain (OpenSpec.upto programsCheckSpec)) programsCheckUptoCard

/-- THE SECOND FORM's CARD OF 'caissonlaw23.ProgramsText'. -/
def programsTextUptoCard : Claim7 := { stood := { row := programsTextUptoRow, standIns := [], harness := (true, "a96e9f6bf76b45ab3a89c1000cebd0c1c4b389b439417acd4c3f1e5305db6828"), looks := true }, kinds := [], alts := [], laidByText := true, laidKinds := [.data, .data, .data, .data, .sentinel, .sentinel, .pinned], laidTests := true, laidLooks := .later }
def ProgramsTextUptoCardSaid : Prop := Claim7.holds Tryz.pinned (.plain (OpenSpec.upto programsTextSpec)) programsTextUptoCard

/-- THE SECOND FORM's CARD OF 'caissonlaw23.ProgramsBack'. -/
def programsBackUptoCard : Claim7 := { stood := { row := programsBackUptoRow, standIns := [], harness := (true, "a96e9f6bf76b45ab3a89c1000cebd0c1c4b389b439417acd4c3f1e5305db6828"), looks := true }, kinds := [], alts := [], laidByText := true, laidKinds := [.data, .data, .data, .data, .sentinel, .sentinel, .pinned], laidTests := true, laidLooks := .later }
def ProgramsBackUptoCardSaid : Prop := Claim7.holds Tryz.pinned (.plain (OpenSpec.upto programsBackSpec)) programsBackUptoCard

/-- THE SECOND FORM's CARD OF 'caissonlaw23.ProgramsParse'. -/
def programsParseUptoCard : Claim7 := { stood := { row := programsParseUptoRow, standIns := [], harness := (true, "a96e9f6bf76b45ab3a89c1000cebd0c1c4b389b439417acd4c3f1e5305db6828"), looks := true }, kinds := [], alts := [], laidByText := true, laidKinds := [.data, .data, .data, .data, .sentinel, .sentinel, .pinned], laidTests := true, laidLooks := .later }
def ProgramsParseUptoCardSaid : Prop := Claim7.holds Tryz.pinned (.plain (OpenSpec.upto programsParseSpec)) programsParseUptoCard

/-- THE SECOND FORM's CARD OF 'caissonlaw23.ProgramsLines'. -/
def programsLinesUptoCard : Claim7 := { stood := { row := programsLinesUptoRow, standIns := [], harness := (true, "a96e9f6bf76b45ab3a89c1000cebd0c1c4b389b439417acd4c3f1e5305db6828"), looks := true }, kinds := [], alts := [], laidByText := true, laidKinds := [.data, .data, .data, .data, .sentinel, .sentinel, .pinned], laidTests := true, laidLooks := .later }
def ProgramsLinesUptoCardSaid : Prop := Claim7.holds Tryz.pinned (.plain (OpenSpec.upto programsLinesSpec)) programsLinesUptoCard

/-- THE SECOND FORM's CARD OF 'caissonlaw23.ProgramsKnown'. -/
def programsKnownUptoCard : Claim7 := { stood := { row := programsKnownUptoRow, standIns := [], harness := (true, "a96e9f6bf76b45ab3a89c1000cebd0c1c4b389b439417acd4c3f1e5305db6828"), looks := true }, kinds := [], alts := [], laidByText := true, laidKinds := [.data, .data, .data, .data, .sentinel, .sentinel, .pinned], laidTests := true, laidLooks := .later }
def ProgramsKnownUptoCardSaid : Prop := Claim7.holds Tryz.pinned (.plain (OpenSpec.upto programsKnownSpec)) programsKnownUptoCard

/-- THE SECOND FORM's CARD OF 'caissonlaw23.ProgramsSame'. -/
def programsSameUptoCard : Claim7 := { stood := { row := programsSameUptoRow, standIns := [], harness := (true, "a96e9f6bf76b45ab3a89c1000cebd0c1c4b389b439417acd4c3f1e5305db6828"), looks := true }, kinds := [], alts := [], laidByText := true, laidKinds := [.data, .data, .data, .data, .sentinel, .sentinel, .pinned], laidTests := true, laidLooks := .later }
def ProgramsSameUptoCardSaid : Prop := Claim7.holds Tryz.pinned (.plain (OpenSpec.upto programsSameSpec)) programsSameUptoCard
end Rows
end Go.Proofs.YtmojbghcngdkpaaGreatDoor
