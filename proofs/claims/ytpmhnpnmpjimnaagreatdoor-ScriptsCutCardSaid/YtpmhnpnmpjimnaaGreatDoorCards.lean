/-
  DERIVED. GIVEN WITH THE SEED: THE CARDS: each row of YtpmhnpnmpjimnaaGreatDoorRows.lean that lists a variable, with what it lists TIED to the program's text (the seventh form; the later family's looks); each row that meets fmt, with fmt's text TOLD by the authors' own Lean function (tested against real Go, not proved from fmt's source: count such statements apart). THE CARD IS WHAT COUNTS. Prove the row's statement (the work); the ties are given (YtpmhnpnmpjimnaaGreatDoorTie.lean); close each card by the builder's one call (the guide's Derived/Test/ToyasCard.lean, 'card_holds'). Laid BY PROGRAM, IN A SANDBOX (cutbox-door.mjs). By AI agents, Wed Nov 11 2026. No macro, syntax, notation, axiom, sorry.
-/
import Derived.Test.YtpmhnpnmpjimnaaGreatDoorRows
import GoSem.ClaimSeven
namespace Go.Proofs.YtpmhnpnmpjimnaaGreatDoor
namespace Rows

/-- THE TIED CARD OF 'caissonlaw34.ScriptsCut'. -/
def scriptsCutCard : Claim7 := { stood := { row := scriptsCutRow, standIns := [], harness := (true, "4bdab40bc436b1e199fb2a05ec7b0007044ad57168fb30f085674a98bc291327"), looks := true }, kinds := [], alts := [], laidByText := true, laidKinds := [.data, .data, .data, .data, .sentinel, .sentinel, .pinned], laidTests := true, laidLooks := .later }
def ScriptsCutCardSaid : Prop := Claim7.holds Tryz.pinned (.plain (OpenSpec.ofChange scriptsCutSpec)) scriptsCutCard

/-- THE SECOND FORM's CARD OF 'caissonlaw34.ScriptsCut'. -/
def scriptsCutUptoCard : Claim7 := { stood := { row := scriptsCutUptoRow, standIns := [], harness := (true, "4bdab40bc436b1e199fb2a05ec7b0007044ad57168fb30f085674a98bc291327"), looks := true }, kinds := [], alts := [], laidByText := true, laidKinds := [.data, .data, .data, .data, .sentinel, .sentinel, .pinned], laidTests := true, laidLooks := .later }
def ScriptsCutUptoCardSaid : Prop := Claim7.holds Tryz.pinned (.plain (OpenSpec.upto scriptsCutSpec)) scriptsCutUptoCard
end Rows
end Go.Proofs.YtpmhnpnmpjimnaaGreatDoor
