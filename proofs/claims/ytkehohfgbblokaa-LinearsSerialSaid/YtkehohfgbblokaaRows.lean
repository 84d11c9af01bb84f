/-
  No cell of these rows narrows 'for every input' (looked for: loops, veiled, ifaces, maps, wideKeys, modest, calm, conditions, laid).
  DERIVED. THE GIVEN ROWS OF THIS SEAT. 9 by the template 'for every input the law returns true; each argument reads behind the call as it read before'; 0 by the template 'total and deterministic' (their statements: YtkehohfgbblokaaTotals.lean).
  GIVEN WITH THE SEED: the statements are not yours to turn. If you find one false, say at which input.
  Laid BY PROGRAM, IN A SANDBOX (cutbox-rows.mjs): the forced cells as the released guide's own fill.sh prints them over the translation c88edb154d621145… (all of the seat's roots in one cut). By AI agents, Wed Nov 11 2026. No macro, syntax, notation, axiom, sorry.
-/
import Derived.Test.YtkehohfgbblokaaChecked
import GoSem.Claim
import GoSem.ClaimJoined
import GoSem.ClaimMapViews
import Derived.JoinedTies
import Derived.KernelRfl
namespace Go.Proofs.Ytkehohfgbblokaa
/- THE CELL 'sum', in the pinned program and in every row, IS THE sha256 OF THE DUMP (.gsa) THAT YtkehohfgbblokaaProg.lean LOADS. Nothing in Lean hashes anything: it is a label: what it is worth is what the hold of that sum in a sandbox is worth. -/
noncomputable def Try.pinned : Pinned := { name := "ytkehohfgbblokaa", sum := "c88edb154d621145fd5da67382dc6411e58793090118c19f4d0ba165ae8682a2", checked := Try.checked }
namespace Rows
def none {H : Type} : Left H := { results := [], args := [] }

/-- 'caissonlaw25.LinearsMay': WHATEVER THE INPUT: true; the input reads as it did. -/
def linearsMaySpec : ChangeSpec := { name := "linearsMay", fn := fun _ => fun
  | [d1, d2] => { results := [.lit (.bool true)], args := [d1, d2] }
  | _ => none }
def linearsMayRow : OpenClaim := { program := "ytkehohfgbblokaa", sum := "c88edb154d621145fd5da67382dc6411e58793090118c19f4d0ba165ae8682a2", func := "caisson/caissonlaw25.LinearsMay", spec := "linearsMay", unfollowed := true, recurses := true, plainKeys := false, apart := false }
def LinearsMaySaid : Prop := linearsMayRow.holds Try.pinned (OpenSpec.ofChange linearsMaySpec)

/-- ITS FALSE NEIGHBOUR: 'it returns false'. Refute it at one input. -/
def linearsMayWrong : ChangeSpec := { name := "linearsMay", fn := fun _ => fun
  | [d1, d2] => { results := [.lit (.bool false)], args := [d1, d2] }
  | _ => none }
def LinearsMayWrongFalsely : Prop := linearsMayRow.holds Try.pinned (OpenSpec.ofChange linearsMayWrong)

/-- 'caissonlaw25.LinearsAccept': WHATEVER THE INPUT: true; the input reads as it did. -/
def linearsAcceptSpec : ChangeSpec := { name := "linearsAccept", fn := fun _ => fun
  | [d1, d2, d3] => { results := [.lit (.bool true)], args := [d1, d2, d3] }
  | _ => none }
def linearsAcceptRow : OpenClaim := { program := "ytkehohfgbblokaa", sum := "c88edb154d621145fd5da67382dc6411e58793090118c19f4d0ba165ae8682a2", func := "caisson/caissonlaw25.LinearsAccept", spec := "linearsAccept", unfollowed := true, recurses := true, plainKeys := false, apart := false }
def LinearsAcceptSaid : Prop := linearsAcceptRow.holds Try.pinned (OpenSpec.ofChange linearsAcceptSpec)

/-- ITS FALSE NEIGHBOUR: 'it returns false'. Refute it at one input. -/
def linearsAcceptWrong : ChangeSpec := { name := "linearsAccept", fn := fun _ => fun
  | [d1, d2, d3] => { results := [.lit (.bool false)], args := [d1, d2, d3] }
  | _ => none }
def LinearsAcceptWrongFalsely : Prop := linearsAcceptRow.holds Try.pinned (OpenSpec.ofChange linearsAcceptWrong)

/-- 'caissonlaw25.LinearsStates': WHATEVER THE INPUT: true; the input reads as it did. -/
def linearsStatesSpec : ChangeSpec := { name := "linearsStates", fn := fun _ => fun
  | [d1, d2, d3] => { results := [.lit (.bool true)], args := [d1, d2, d3] }
  | _ => none }
def linearsStatesRow : OpenClaim := { program := "ytkehohfgbblokaa", sum := "c88edb154d621145fd5da67382dc6411e58793090118c19f4d0ba165ae8682a2", func := "caisson/caissonlaw25.LinearsStates", spec := "linearsStates", unfollowed := true, recurses := true, plainKeys := false, apart := false }
def LinearsStatesSaid : Prop := linearsStatesRow.holds Try.pinned (OpenSpec.ofChange linearsStatesSpec)

/-- ITS FALSE NEIGHBOUR: 'it returns false'. Refute it at one input. -/
def linearsStatesWrong : ChangeSpec := { name := "linearsStates", fn := fun _ => fun
  | [d1, d2, d3] => { results := [.lit (.bool false)], args := [d1, d2, d3] }
  | _ => none }
def LinearsStatesWrongFalsely : Prop := linearsStatesRow.holds Try.pinned (OpenSpec.ofChange linearsStatesWrong)

/-- 'caissonlaw25.LinearsFind': WHATEVER THE INPUT: true; the input reads as it did. -/
def linearsFindSpec : ChangeSpec := { name := "linearsFind", fn := fun _ => fun
  | [d1, d2] => { results := [.lit (.bool true)], args := [d1, d2] }
  | _ => none }
def linearsFindRow : OpenClaim := { program := "ytkehohfgbblokaa", sum := "c88edb154d621145fd5da67382dc6411e58793090118c19f4d0ba165ae8682a2", func := "caisson/caissonlaw25.LinearsFind", spec := "linearsFind", unfollowed := true, recurses := true, plainKeys := false, apart := false }
def LinearsFindSaid : Prop := linearsFindRow.holds Try.pinned (OpenSpec.ofChange linearsFindSpec)

/-- ITS FALSE NEIGHBOUR: 'it returns false'. Refute it at one input. -/
def linearsFindWrong : ChangeSpec := { name := "linearsFind", fn := fun _ => fun
  | [d1, d2] => { results := [.lit (.bool false)], args := [d1, d2] }
  | _ => none }
def LinearsFindWrongFalsely : Prop := linearsFindRow.holds Try.pinned (OpenSpec.ofChange linearsFindWrong)

/-- 'caissonlaw25.LinearsCut': WHATEVER THE INPUT: true; the input reads as it did. -/
def linearsCutSpec : ChangeSpec := { name := "linearsCut", fn := fun _ => fun
  | [d1, d2] => { results := [.lit (.bool true)], args := [d1, d2] }
  | _ => none }
def linearsCutRow : OpenClaim := { program := "ytkehohfgbblokaa", sum := "c88edb154d621145fd5da67382dc6411e58793090118c19f4d0ba165ae8682a2", func := "caisson/caissonlaw25.LinearsCut", spec := "linearsCut", unfollowed := true, recurses := true, plainKeys := false, apart := false }
def LinearsCutSaid : Prop := linearsCutRow.holds Try.pinned (OpenSpec.ofChange linearsCutSpec)

/-- ITS FALSE NEIGHBOUR: 'it returns false'. Refute it at one input. -/
def linearsCutWrong : ChangeSpec := { name := "linearsCut", fn := fun _ => fun
  | [d1, d2] => { results := [.lit (.bool false)], args := [d1, d2] }
  | _ => none }
def LinearsCutWrongFalsely : Prop := linearsCutRow.holds Try.pinned (OpenSpec.ofChange linearsCutWrong)

/-- 'caissonlaw25.LinearsSticky': WHATEVER THE INPUT: true; the input reads as it did. -/
def linearsStickySpec : ChangeSpec := { name := "linearsSticky", fn := fun _ => fun
  | [d] => { results := [.lit (.bool true)], args := [d] }
  | _ => none }
def linearsStickyRow : OpenClaim := { program := "ytkehohfgbblokaa", sum := "c88edb154d621145fd5da67382dc6411e58793090118c19f4d0ba165ae8682a2", func := "caisson/caissonlaw25.LinearsSticky", spec := "linearsSticky", unfollowed := true, recurses := true, plainKeys := false, apart := false }
def LinearsStickySaid : Prop := linearsStickyRow.holds Try.pinned (OpenSpec.ofChange linearsStickySpec)

/-- ITS FALSE NEIGHBOUR: 'it returns false'. Refute it at one input. -/
def linearsStickyWrong : ChangeSpec := { name := "linearsSticky", fn := fun _ => fun
  | [d] => { results := [.lit (.bool false)], args := [d] }
  | _ => none }
def LinearsStickyWrongFalsely : Prop := linearsStickyRow.holds Try.pinned (OpenSpec.ofChange linearsStickyWrong)

/-- 'caissonlaw25.LinearsSerial': WHATEVER THE INPUT: true; the input reads as it did. -/
def linearsSerialSpec : ChangeSpec := { name := "linearsSerial", fn := fun _ => fun
  | [d] => { results := [.lit (.bool true)], args := [d] }
  | _ => none }
def linearsSerialRow : OpenClaim := { program := "ytkehohfgbblokaa", sum := "c88edb154d621145fd5da67382dc6411e58793090118c19f4d0ba165ae8682a2", func := "caisson/caissonlaw25.LinearsSerial", spec := "linearsSerial", unfollowed := true, recurses := true, plainKeys := false, apart := false }
def LinearsSerialSaid : Prop := linearsSerialRow.holds Try.pinned (OpenSpec.ofChange linearsSerialSpec)

/-- ITS FALSE NEIGHBOUR: 'it returns false'. Refute it at one input. -/
def linearsSerialWrong : ChangeSpec := { name := "linearsSerial", fn := fun _ => fun
  | [d] => { results := [.lit (.bool false)], args := [d] }
  | _ => none }
def LinearsSerialWrongFalsely : Prop := linearsSerialRow.holds Try.pinned (OpenSpec.ofChange linearsSerialWrong)

/-- 'caissonlaw25.LinearsErrors': WHATEVER THE INPUT: true; the input reads as it did. -/
def linearsErrorsSpec : ChangeSpec := { name := "linearsErrors", fn := fun _ => fun
  | [d1, d2, d3] => { results := [.lit (.bool true)], args := [d1, d2, d3] }
  | _ => none }
def linearsErrorsRow : OpenClaim := { program := "ytkehohfgbblokaa", sum := "c88edb154d621145fd5da67382dc6411e58793090118c19f4d0ba165ae8682a2", func := "caisson/caissonlaw25.LinearsErrors", spec := "linearsErrors", unfollowed := true, recurses := true, plainKeys := false, apart := false }
def LinearsErrorsSaid : Prop := linearsErrorsRow.holds Try.pinned (OpenSpec.ofChange linearsErrorsSpec)

/-- ITS FALSE NEIGHBOUR: 'it returns false'. Refute it at one input. -/
def linearsErrorsWrong : ChangeSpec := { name := "linearsErrors", fn := fun _ => fun
  | [d1, d2, d3] => { results := [.lit (.bool false)], args := [d1, d2, d3] }
  | _ => none }
def LinearsErrorsWrongFalsely : Prop := linearsErrorsRow.holds Try.pinned (OpenSpec.ofChange linearsErrorsWrong)

/-- 'caissonlaw25.LinearsKnown': WHATEVER THE INPUT: true; the input reads as it did. -/
def linearsKnownSpec : ChangeSpec := { name := "linearsKnown", fn := fun _ => fun
  | [] => { results := [.lit (.bool true)], args := [] }
  | _ => none }
def linearsKnownRow : OpenClaim := { program := "ytkehohfgbblokaa", sum := "c88edb154d621145fd5da67382dc6411e58793090118c19f4d0ba165ae8682a2", func := "caisson/caissonlaw25.LinearsKnown", spec := "linearsKnown", unfollowed := true, recurses := true, plainKeys := false, apart := false }
def LinearsKnownSaid : Prop := linearsKnownRow.holds Try.pinned (OpenSpec.ofChange linearsKnownSpec)

/-- ITS FALSE NEIGHBOUR: 'it returns false'. Refute it at one input. -/
def linearsKnownWrong : ChangeSpec := { name := "linearsKnown", fn := fun _ => fun
  | [] => { results := [.lit (.bool false)], args := [] }
  | _ => none }
def LinearsKnownWrongFalsely : Prop := linearsKnownRow.holds Try.pinned (OpenSpec.ofChange linearsKnownWrong)

/- THE SECOND FORM. 'bulk': how many values and letters a reading holds, each counted each time it is reached (what is shared counts as often as it is met; a slice's spare places count too). A statement '..UptoSaid' is the law's where the arguments, and the package variables that the reading takes, are together of bulk at most 1048576: NARROWER than '..Said'. Prove '..Said' where nothing that the law and all that it calls make is longer than what came in: it says more and counts as full. Else prove '..UptoSaid'. A law counts once. -/
mutual
def uptoBulk {H : Type} : DataW H → Nat
  | .lit (.string bytes) => bytes.length + 1
  | .lit _ => 1
  | .nil => 1
  | .ptr d => uptoBulk d + 1
  | .slice elems spare => uptoBulkAll elems + uptoBulkAll spare + 1
  | .agg parts => uptoBulkAll parts + 1
  | .iface _ d => uptoBulk d + 1
  | .map entries => uptoBulkEntries entries + 1
  | .held _ => 1
def uptoBulkAll {H : Type} : List (DataW H) → Nat
  | [] => 0
  | d :: r => uptoBulk d + uptoBulkAll r
def uptoBulkEntries {H : Type} : List (Lit × DataW H) → Nat
  | [] => 0
  | x :: r => uptoBulkEntry x + uptoBulkEntries r
def uptoBulkEntry {H : Type} : Lit × DataW H → Nat
  | (.string bytes, d) => bytes.length + uptoBulk d + 1
  | (_, d) => uptoBulk d + 1
 end
def uptoSmall : (H : Type) → List (DataW H) → Bool := fun _ ds => decide (uptoBulkAll ds ≤ 1048576)
def OpenSpec.upto (s : _root_.Go.ChangeSpec) : _root_.Go.OpenSpec := { _root_.Go.OpenSpec.ofChange s with cond := some uptoSmall }

/-- 'caissonlaw25.LinearsMay', WHERE WHAT IT READS IS OF BULK AT MOST 1048576: true; the input reads as it did. -/
def linearsMayUptoRow : OpenClaim := { program := "ytkehohfgbblokaa", sum := "c88edb154d621145fd5da67382dc6411e58793090118c19f4d0ba165ae8682a2", func := "caisson/caissonlaw25.LinearsMay", spec := "linearsMay", unfollowed := true, recurses := true, plainKeys := false, apart := false, narrowed := true }
def LinearsMayUptoSaid : Prop := linearsMayUptoRow.holds Try.pinned (OpenSpec.upto linearsMaySpec)

/-- 'caissonlaw25.LinearsAccept', WHERE WHAT IT READS IS OF BULK AT MOST 1048576: true; the input reads as it did. -/
def linearsAcceptUptoRow : OpenClaim := { program := "ytkehohfgbblokaa", sum := "c88edb154d621145fd5da67382dc6411e58793090118c19f4d0ba165ae8682a2", func := "caisson/caissonlaw25.LinearsAccept", spec := "linearsAccept", unfollowed := true, recurses := true, plainKeys := false, apart := false, narrowed := true }
def LinearsAcceptUptoSaid : Prop := linearsAcceptUptoRow.holds Try.pinned (OpenSpec.upto linearsAcceptSpec)

/-- 'caissonlaw25.LinearsStates', WHERE WHAT IT READS IS OF BULK AT MOST 1048576: true; the input reads as it did. -/
def linearsStatesUptoRow : OpenClaim := { program := "ytkehohfgbblokaa", sum := "c88edb154d621145fd5da67382dc6411e58793090118c19f4d0ba165ae8682a2", func := "caisson/caissonlaw25.LinearsStates", spec := "linearsStates", unfollowed := true, recurses := true, plainKeys := false, apart := false, narrowed := true }
def LinearsStatesUptoSaid : Prop := linearsStatesUptoRow.holds Try.pinned (OpenSpec.upto linearsStatesSpec)

/-- 'caissonlaw25.LinearsFind', WHERE WHAT IT READS IS OF BULK AT MOST 1048576: true; the input reads as it did. -/
def linearsFindUptoRow : OpenClaim := { program := "ytkehohfgbblokaa", sum := "c88edb154d621145fd5da67382dc6411e58793090118c19f4d0ba165ae8682a2", func := "caisson/caissonlaw25.LinearsFind", spec := "linearsFind", unfollowed := true, recurses := true, plainKeys := false, apart := false, narrowed := true }
def LinearsFindUptoSaid : Prop := linearsFindUptoRow.holds Try.pinned (OpenSpec.upto linearsFindSpec)

/-- 'caissonlaw25.LinearsCut', WHERE WHAT IT READS IS OF BULK AT MOST 1048576: true; the input reads as it did. -/
def linearsCutUptoRow : OpenClaim := { program := "ytkehohfgbblokaa", sum := "c88edb154d621145fd5da67382dc6411e58793090118c19f4d0ba165ae8682a2", func := "caisson/caissonlaw25.LinearsCut", spec := "linearsCut", unfollowed := true, recurses := true, plainKeys := false, apart := false, narrowed := true }
def LinearsCutUptoSaid : Prop := linearsCutUptoRow.holds Try.pinned (OpenSpec.upto linearsCutSpec)

/-- 'caissonlaw25.LinearsSticky', WHERE WHAT IT READS IS OF BULK AT MOST 1048576: true; the input reads as it did. -/
def linearsStickyUptoRow : OpenClaim := { program := "ytkehohfgbblokaa", sum := "c88edb154d621145fd5da67382dc6411e58793090118c19f4d0ba165ae8682a2", func := "caisson/caissonlaw25.LinearsSticky", spec := "linearsSticky", unfollowed := true, recurses := true, plainKeys := false, apart := false, narrowed := true }
def LinearsStickyUptoSaid : Prop := linearsStickyUptoRow.holds Try.pinned (OpenSpec.upto linearsStickySpec)

/-- 'caissonlaw25.LinearsSerial', WHERE WHAT IT READS IS OF BULK AT MOST 1048576: true; the input reads as it did. -/
def linearsSerialUptoRow : OpenClaim := { program := "ytkehohfgbblokaa", sum := "c88edb154d621145fd5da67382dc6411e58793090118c19f4d0ba165ae8682a2", func := "caisson/caissonlaw25.LinearsSerial", spec := "linearsSerial", unfollowed := true, recurses := true, plainKeys := false, apart := false, narrowed := true }
def LinearsSerialUptoSaid : Prop := linearsSerialUptoRow.holds Try.pinned (OpenSpec.upto linearsSerialSpec)

/-- 'caissonlaw25.LinearsErrors', WHERE WHAT IT READS IS OF BULK AT MOST 1048576: true; the input reads as it did. -/
def linearsErrorsUptoRow : OpenClaim := { program := "ytkehohfgbblokaa", sum := "c88edb154d621145fd5da67382dc6411e58793090118c19f4d0ba165ae8682a2", func := "caisson/caissonlaw25.LinearsErrors", spec := "linearsErrors", unfollowed := true, recurses := true, plainKeys := false, apart := false, narrowed := true }
def LinearsErrorsUptoSaid : Prop := linearsErrorsUptoRow.holds Try.pinned (OpenSpec.upto linearsErrorsSpec)

/-- 'caissonlaw25.LinearsKnown', WHERE WHAT IT READS IS OF BULK AT MOST 1048576: true; the input reads as it did. -/
def linearsKnownUptoRow : OpenClaim := { program := "ytkehohfgbblokaa", sum := "c88edb154d621145fd5da67382dc6411e58793090118c19f4d0ba165ae8682a2", func := "caisson/caissonlaw25.LinearsKnown", spec := "linearsKnown", unfollowed := true, recurses := true, plainKeys := false, apart := false, narrowed := true }
def LinearsKnownUptoSaid : Prop := linearsKnownUptoRow.holds Try.pinned (OpenSpec.upto linearsKnownSpec)

end Rows
end Go.Proofs.Ytkehohfgbblokaa
