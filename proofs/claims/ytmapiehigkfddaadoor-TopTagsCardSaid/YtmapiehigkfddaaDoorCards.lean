/-
  DERIVED. GIVEN WITH THE SEED: THE CARDS: each row of YtmapiehigkfddaaDoorRows.lean that lists a variable, with what it lists TIED to the program's text (the seventh form; the later family's looks); each row that meets fmt, with fmt's text TOLD by the authors' own Lean function (tested against real Go, not proved from fmt's source: count such statements apart). THE CARD IS WHAT COUNTS. Prove the row's statement (the work); the ties are given (YtmapiehigkfddaaDoorTie.lean); close each card by the builder's one call (the guide's Derived/Test/ToyasCard.lean, 'card_holds'). Laid BY PROGRAM, IN A SANDBOX (cutbox-door.mjs). By AI agents, Wed Nov 11 2026. No macro, syntax, notation, axiom, sorry.
-/
import Derived.Test.YtmapiehigkfddaaDoorRows
import GoSem.ClaimSeven
namespace Go.Proofs.YtmapiehigkfddaaDoor
namespace Rows

/-- THE TIED CARD OF 'caissontop.TopTags'. -/
def topTagsCard : Claim7 := { stood := { row := topTagsRow, standIns := [], harness := (true, "1a04563922af885c5789e6a5cbe4dd01ef216a59e5f70b93ede6c3a037528e52"), looks := false }, kinds := [], alts := [], laidByText := true, laidKinds := [.data, .data], laidTests := true, laidLooks := .later }
def TopTagsCardSaid : Prop := Claim7.holds Tryd.pinned (.plain (OpenSpec.ofChange topTagsSpec)) topTagsCard

/-- THE TIED CARD OF 'caissontop.TopSubstitute'. -/
def topSubstituteCard : Claim7 := { stood := { row := topSubstituteRow, standIns := [], harness := (true, "1a04563922af885c5789e6a5cbe4dd01ef216a59e5f70b93ede6c3a037528e52"), looks := false }, kinds := [], alts := [], laidByText := true, laidKinds := [.data, .data], laidTests := true, laidLooks := .later }
def TopSubstituteCardSaid : Prop := Claim7.holds Tryd.pinned (.plain (OpenSpec.ofChange topSubstituteSpec)) topSubstituteCard

/-- THE SECOND FORM's CARD OF 'caissontop.TopTags'. -/
def topTagsUptoCard : Claim7 := { stood := { row := topTagsUptoRow, standIns := [], harness := (true, "1a04563922af885c5789e6a5cbe4dd01ef216a59e5f70b93ede6c3a037528e52"), looks := false }, kinds := [], alts := [], laidByText := true, laidKinds := [.data, .data], laidTests := true, laidLooks := .later }
def TopTagsUptoCardSaid : Prop := Claim7.holds Tryd.pinned (.plain (OpenSpec.upto topTagsSpec)) topTagsUptoCard

/-- THE SECOND FORM's CARD OF 'caissontop.TopSubstitute'. -/
def topSubstituteUptoCard : Claim7 := { stood := { row := topSubstituteUptoRow, standIns := [], harness := (true, "1a04563922af885c5789e6a5cbe4dd01ef216a59e5f70b93ede6c3a037528e52"), looks := false }, kinds := [], alts := [], laidByText := true, laidKinds := [.data, .data], laidTests := true, laidLooks := .later }
def TopSubstituteUptoCardSaid : Prop := Claim7.holds Tryd.pinned (.plain (OpenSpec.upto topSubstituteSpec)) topSubstituteUptoCard
end Rows
end Go.Proofs.YtmapiehigkfddaaDoor
