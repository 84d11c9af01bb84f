/-
  DERIVED. GIVEN WITH THE SEED: THE CARDS: each row of YthiijfbcfoifnaaGreatDoorRows.lean that lists a variable, with what it lists TIED to the program's text (the seventh form; the later family's looks); each row that meets fmt, with fmt's text TOLD by the authors' own Lean function (tested against real Go, not proved from fmt's source: count such statements apart). THE CARD IS WHAT COUNTS. Prove the row's statement (the work); the ties are given (YthiijfbcfoifnaaGreatDoorTie.lean); close each card by the builder's one call (the guide's Derived/Test/ToyasCard.lean, 'card_holds'). Laid BY PROGRAM, IN A SANDBOX (cutbox-door.mjs). By AI agents, Wed Nov 11 2026. No macro, syntax, notation, axiom, sorry.
-/
import Derived.Test.YthiijfbcfoifnaaGreatDoorRows
import GoSem.ClaimSeven
namespace Go.Proofs.YthiijfbcfoifnaaGreatDoor
namespace Rows

/-- THE TIED CARD OF 'caissonlaw34.ScriptsCheck'. -/
def scriptsCheckCard : Claim7 := { stood := { row := scriptsCheckRow, standIns := [], harness := (true, "efd16c42048204b25462f9d200c0422dbb9ac9922e630226d4d36f68a6da0c6d"), looks := true }, kinds := [], alts := [], laidByText := true, laidKinds := [.data, .data, .data, .data, .sentinel, .sentinel, .pinned], laidTests := true, laidLooks := .later }
def ScriptsCheckCardSaid : Prop := Claim7.holds Tryz.pinned (.plain (OpenSpec.ofChange scriptsCheckSpec)) scriptsCheckCard

/-- THE TIED CARD OF 'caissonlaw34.ScriptsParse'. -/
def scriptsParseCard : Claim7 := { stood := { row := scriptsParseRow, standIns := [], harness := (true, "efd16c42048204b25462f9d200c0422dbb9ac9922e630226d4d36f68a6da0c6d"), looks := true }, kinds := [], alts := [], laidByText := true, laidKinds := [.data, .data, .data, .data, .sentinel, .sentinel, .pinned], laidTests := true, laidLooks := .later }
def ScriptsParseCardSaid : Prop := Claim7.holds Tryz.pinned (.plain (OpenSpec.ofChange scriptsParseSpec)) scriptsParseCard

/-- THE TIED CARD OF 'caissonlaw34.ScriptsKnown'. -/
def scriptsKnownCard : Claim7 := { stood := { row := scriptsKnownRow, standIns := [], harness := (true, "efd16c42048204b25462f9d200c0422dbb9ac9922e630226d4d36f68a6da0c6d"), looks := true }, kinds := [], alts := [], laidByText := true, laidKinds := [.data, .data, .data, .data, .sentinel, .sentinel, .pinned], laidTests := true, laidLooks := .later }
def ScriptsKnownCardSaid : Prop := Claim7.holds Tryz.pinned (.plain (OpenSpec.ofChange scriptsKnownSpec)) scriptsKnownCard

/-- THE TIED CARD OF 'caissonlaw34.ScriptsPicks'. -/
def scriptsPicksCard : Claim7 := { stood := { row := scriptsPicksRow, standIns := [], harness := (true, "efd16c42048204b25462f9d200c0422dbb9ac9922e630226d4d36f68a6da0c6d"), looks := true }, kinds := [], alts := [], laidByText := true, laidKinds := [.data, .data, .data, .data, .sentinel, .sentinel, .pinned], laidTests := true, laidLooks := .later }
def ScriptsPicksCardSaid : Prop := Claim7.holds Tryz.pinned (.plain (OpenSpec.ofChange scriptsPicksSpec)) scriptsPicksCard

/-- THE TIED CARD OF 'caissonlaw34.ScriptsBack'. -/
def scriptsBackCard : Claim7 := { stood := { row := scriptsBackRow, standIns := [], harness := (true, "efd16c42048204b25462f9d200c0422dbb9ac9922e630226d4d36f68a6da0c6d"), looks := true }, kinds := [], alts := [], laidByText := true, laidKinds := [.data, .data, .data, .data, .sentinel, .sentinel, .pinned], laidTests := true, laidLooks := .later }
def ScriptsBackCardSaid : Prop := Claim7.holds Tryz.pinned (.plain (OpenSpec.ofChange scriptsBackSpec)) scriptsBackCard

/-- THE TIED CARD OF 'caissonlaw34.ScriptsSame'. -/
def scriptsSameCard : Claim7 := { stood := { row := scriptsSameRow, standIns := [], harness := (true, "efd16c42048204b25462f9d200c0422dbb9ac9922e630226d4d36f68a6da0c6d"), looks := true }, kinds := [], alts := [], laidByText := true, laidKinds := [.data, .data, .data, .data, .sentinel, .sentinel, .pinned], laidTests := true, laidLooks := .later }
def ScriptsSameCardSaid : Prop := Claim7.holds Tryz.pinned (.plain (OpenSpec.ofChange scriptsSameSpec)) scriptsSameCard

/-- THE TIED CARD OF 'caissonlaw34.ScriptsCut'. -/
def scriptsCutCard : Claim7 := { stood := { row := scriptsCutRow, standIns := [], harness := (true, "efd16c42048204b25462f9d200c0422dbb9ac9922e630226d4d36f68a6da0c6d"), looks := true }, kinds := [], alts := [], laidByText := true, laidKinds := [.data, .data, .data, .data, .sentinel, .sentinel, .pinned], laidTests := true, laidLooks := .later }
def ScriptsCutCardSaid : Prop := Claim7.holds Tryz.pinned (.plain (OpenSpec.ofChange scriptsCutSpec)) scriptsCutCard

/-- THE SECOND FORM's CARD OF 'caissonlaw34.ScriptsCheck'. -/
def scriptsCheckUptoCard : Claim7 := { stood := { row := scriptsCheckUptoRow, standIns := [], harness := (true, "efd16c42048204b25462f9d200c0422dbb9ac9922e630226d4d36f68a6da0c6d"), looks := true }, kinds := [], alts := [], laidByText := true, laidKinds := [.data, .data, .data, .data, .sentinel, .sentinel, .pinned], laidTests := true, laidLooks := .later }
def ScriptsCheckUptoCardSaid : Prop := Claim7.holds Tryz.pinned (.plain (OpenSpec.upto scriptsCheckSpec)) scriptsCheckUptoCard

/-- THE SECOND FORM's CARD OF 'caissonlaw34.ScriptsParse'. -/
def scriptsParseUptoCard : Claim7 := { stood := { row := scriptsParseUptoRow, standIns := [], harness := (true, "efd16c42048204b25462f9d200c0422dbb9ac9922e630226d4d36f68a6da0c6d"), looks := true }, kinds := [], alts := [], laidByText := true, laidKinds := [.data, .data, .data, .data, .sentinel, .sentinel, .pinned], laidTests := true, laidLooks := .later }
def ScriptsParseUptoCardSaid : Prop := Claim7.holds Tryz.pinned (.plain (OpenSpec.upto scriptsParseSpec)) scriptsParseUptoCard

/-- THE SECOND FORM's CARD OF 'caissonlaw34.ScriptsKnown'. -/
def scriptsKnownUptoCard : Claim7 := { stood := { row := scriptsKnownUptoRow, standIns := [], harness := (true, "efd16c42048204b25462f9d200c0422dbb9ac9922e630226d4d36f68a6da0c6d"), looks := true }, kinds := [], alts := [], laidByText := true, laidKinds := [.data, .data, .data, .data, .sentinel, .sentinel, .pinned], laidTests := true, laidLooks := .later }
def ScriptsKnownUptoCardSaid : Prop := Claim7.holds Tryz.pinned (.plain (OpenSpec.upto scriptsKnownSpec)) scriptsKnownUptoCard

/-- THE SECOND FORM's CARD OF 'caissonlaw34.ScriptsPicks'. -/
def scriptsPicksUptoCard : Claim7 := { stood := { row := scriptsPicksUptoRow, standIns := [], harness := (true, "efd16c42048204b25462f9d200c0422dbb9ac9922e630226d4d36f68a6da0c6d"), looks := true }, kinds := [], alts := [], laidByText := true, laidKinds := [.data, .data, .data, .data, .sentinel, .sentinel, .pinned], laidTests := true, laidLooks := .later }
def ScriptsPicksUptoCardSaid : Prop := Claim7.holds Tryz.pinned (.plain (OpenSpec.upto scriptsPicksSpec)) scriptsPicksUptoCard

/-- THE SECOND FORM's CARD OF 'caissonlaw34.ScriptsBack'. -/
def scriptsBackUptoCard : Claim7 := { stood := { row := scriptsBackUptoRow, standIns := [], harness := (true, "efd16c42048204b25462f9d200c0422dbb9ac9922e630226d4d36f68a6da0c6d"), looks := true }, kinds := [], alts := [], laidByText := true, laidKinds := [.data, .data, .data, .data, .sentinel, .sentinel, .pinned], laidTests := true, laidLooks := .later }
def ScriptsBackUptoCardSaid : Prop := Claim7.holds Tryz.pinned (.plain (OpenSpec.upto scriptsBackSpec)) scriptsBackUptoCard

/-- THE SECOND FORM's CARD OF 'caissonlaw34.ScriptsSame'. -/
def scriptsSameUptoCard : Claim7 := { stood := { row := scriptsSameUptoRow, standIns := [], harness := (true, "efd16c42048204b25462f9d200c0422dbb9ac9922e630226d4d36f68a6da0c6d"), looks := true }, kinds := [], alts := [], laidByText := true, laidKinds := [.data, .data, .data, .data, .sentinel, .sentinel, .pinned], laidTests := true, laidLooks := .later }
def ScriptsSameUptoCardSaid : Prop := Claim7.holds Tryz.pinned (.plain (OpenSpec.upto scriptsSameSpec)) scriptsSameUptoCard

/-- THE SECOND FORM's CARD OF 'caissonlaw34.ScriptsCut'. -/
def scriptsCutUptoCard : Claim7 := { stood := { row := scriptsCutUptoRow, standIns := [], harness := (true, "efd16c42048204b25462f9d200c0422dbb9ac9922e630226d4d36f68a6da0c6d"), looks := true }, kinds := [], alts := [], laidByText := true, laidKinds := [.data, .data, .data, .data, .sentinel, .sentinel, .pinned], laidTests := true, laidLooks := .later }
def ScriptsCutUptoCardSaid : Prop := Claim7.holds Tryz.pinned (.plain (OpenSpec.upto scriptsCutSpec)) scriptsCutUptoCard
end Rows
end Go.Proofs.YthiijfbcfoifnaaGreatDoor
