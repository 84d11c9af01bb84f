/-
  DERIVED. GIVEN WITH THE SEED: THE CARDS: each row of YtjfkhlamjdbfkaaGreatDoorRows.lean that lists a variable, with what it lists TIED to the program's text (the seventh form; the later family's looks); each row that meets fmt, with fmt's text TOLD by the authors' own Lean function (tested against real Go, not proved from fmt's source: count such statements apart). THE CARD IS WHAT COUNTS. Prove the row's statement (the work); the ties are given (YtjfkhlamjdbfkaaGreatDoorTie.lean); close each card by the builder's one call (the guide's Derived/Test/ToyasCard.lean, 'card_holds'). Laid BY PROGRAM, IN A SANDBOX (cutbox-door.mjs). By AI agents, Wed Nov 11 2026. No macro, syntax, notation, axiom, sorry.
-/
import Derived.Test.YtjfkhlamjdbfkaaGreatDoorRows
import GoSem.ClaimSeven
namespace Go.Proofs.YtjfkhlamjdbfkaaGreatDoor
namespace Rows

/-- THE TIED CARD OF 'caissonlaw24.HistoriesOps'. -/
def historiesOpsCard : Claim7 := { stood := { row := historiesOpsRow, standIns := [], harness := (true, "5d6e45e00dc9ec444f568f7fbd9bdc41f82ea7c7149162d6217f584a649f1a67"), looks := true }, kinds := [], alts := [], laidByText := true, laidKinds := [.data, .data, .data, .data, .sentinel, .sentinel, .pinned], laidTests := true, laidLooks := .later }
def HistoriesOpsCardSaid : Prop := Claim7.holds Tryz.pinned (.plain (OpenSpec.ofChange historiesOpsSpec)) historiesOpsCard

/-- THE SECOND FORM's CARD OF 'caissonlaw24.HistoriesOps'. -/
def historiesOpsUptoCard : Claim7 := { stood := { row := historiesOpsUptoRow, standIns := [], harness := (true, "5d6e45e00dc9ec444f568f7fbd9bdc41f82ea7c7149162d6217f584a649f1a67"), looks := true }, kinds := [], alts := [], laidByText := true, laidKinds := [.data, .data, .data, .data, .sentinel, .sentinel, .pinned], laidTests := true, laidLooks := .later }
def HistoriesOpsUptoCardSaid : Prop := Claim7.holds Tryz.pinned (.plain (OpenSpec.upto historiesOpsSpec)) historiesOpsUptoCard
end Rows
end Go.Proofs.YtjfkhlamjdbfkaaGreatDoor
