/-
  DERIVED. GIVEN WITH THE SEED: THE CARDS: each row of YtpjiiolnfbfcbaaGreatDoorRows.lean that lists a variable, with what it lists TIED to the program's text (the seventh form; the later family's looks); each row that meets fmt, with fmt's text TOLD by the authors' own Lean function (tested against real Go, not proved from fmt's source: count such statements apart). THE CARD IS WHAT COUNTS. Prove the row's statement (the work); the ties are given (YtpjiiolnfbfcbaaGreatDoorTie.lean); close each card by the builder's one call (the guide's Derived/Test/ToyasCard.lean, 'card_holds'). Laid BY PROGRAM, IN A SANDBOX (cutbox-door.mjs). By AI agents, Wed Nov 11 2026. No macro, syntax, notation, axiom, sorry.
-/
import Derived.Test.YtpjiiolnfbfcbaaGreatDoorRows
import GoSem.ClaimSeven
namespace Go.Proofs.YtpjiiolnfbfcbaaGreatDoor
namespace Rows

/-- THE TIED CARD OF 'caissonlaw24.HistoriesKnown'. -/
def historiesKnownCard : Claim7 := { stood := { row := historiesKnownRow, standIns := [], harness := (true, "1b1d435b00e47f60ef1bbc1bbc05956b37672d2045ce8e1368392c5641d40444"), looks := true }, kinds := [], alts := [], laidByText := true, laidKinds := [.data, .data, .data, .data, .sentinel, .sentinel, .pinned], laidTests := true, laidLooks := .later }
def HistoriesKnownCardSaid : Prop := Claim7.holds Tryz.pinned (.plain (OpenSpec.ofChange historiesKnownSpec)) historiesKnownCard

/-- THE SECOND FORM's CARD OF 'caissonlaw24.HistoriesKnown'. -/
def historiesKnownUptoCard : Claim7 := { stood := { row := historiesKnownUptoRow, standIns := [], harness := (true, "1b1d435b00e47f60ef1bbc1bbc05956b37672d2045ce8e1368392c5641d40444"), looks := true }, kinds := [], alts := [], laidByText := true, laidKinds := [.data, .data, .data, .data, .sentinel, .sentinel, .pinned], laidTests := true, laidLooks := .later }
def HistoriesKnownUptoCardSaid : Prop := Claim7.holds Tryz.pinned (.plain (OpenSpec.upto historiesKnownSpec)) historiesKnownUptoCard
end Rows
end Go.Proofs.YtpjiiolnfbfcbaaGreatDoor
