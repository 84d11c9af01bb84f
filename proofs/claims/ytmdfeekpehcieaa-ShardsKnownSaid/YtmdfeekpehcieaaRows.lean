/-
  No cell of these rows narrows 'for every input' (looked for: loops, veiled, ifaces, maps, wideKeys, modest, calm, conditions, laid).
  DERIVED. THE GIVEN ROWS OF THIS SEAT. 12 by the template 'for every input the law returns true; each argument reads behind the call as it read before'; 0 by the template 'total and deterministic' (their statements: YtmdfeekpehcieaaTotals.lean).
  GIVEN WITH THE SEED: the statements are not yours to turn. If you find one false, say at which input.
  Laid BY PROGRAM, IN A SANDBOX (cutbox-rows.mjs): the forced cells as the released guide's own fill.sh prints them over the translation 42ec114ff63f9f3f… (all of the seat's roots in one cut). By AI agents, Wed Nov 11 2026. No macro, syntax, notation, axiom, sorry.
-/
import Derived.Test.YtmdfeekpehcieaaChecked
import GoSem.Claim
import GoSem.ClaimJoined
import GoSem.ClaimMapViews
import Derived.JoinedTies
import Derived.KernelRfl
namespace Go.Proofs.Ytmdfeekpehcieaa
/- THE CELL 'sum', in the pinned program and in every row, IS THE sha256 OF THE DUMP (.gsa) THAT YtmdfeekpehcieaaProg.lean LOADS. Nothing in Lean hashes anything: it is a label: what it is worth is what the hold of that sum in a sandbox is worth. -/
noncomputable def Try.pinned : Pinned := { name := "ytmdfeekpehcieaa", sum := "42ec114ff63f9f3fe870d20e4d530c05fcec229b8aa40c4f493bf6fa3da6b18a", checked := Try.checked }
namespace Rows
def none {H : Type} : Left H := { results := [], args := [] }

/-- 'caissonlaw27.FramesVictim': WHATEVER THE INPUT: true; the input reads as it did. -/
def framesVictimSpec : ChangeSpec := { name := "framesVictim", fn := fun _ => fun
  | [d1, d2] => { results := [.lit (.bool true)], args := [d1, d2] }
  | _ => none }
def framesVictimRow : OpenClaim := { program := "ytmdfeekpehcieaa", sum := "42ec114ff63f9f3fe870d20e4d530c05fcec229b8aa40c4f493bf6fa3da6b18a", func := "caisson/caissonlaw27.FramesVictim", spec := "framesVictim", unfollowed := true, recurses := true, apart := false }
def FramesVictimSaid : Prop := framesVictimRow.holds Try.pinned (OpenSpec.ofChange framesVictimSpec)

/-- ITS FALSE NEIGHBOUR: 'it returns false'. Refute it at one input. -/
def framesVictimWrong : ChangeSpec := { name := "framesVictim", fn := fun _ => fun
  | [d1, d2] => { results := [.lit (.bool false)], args := [d1, d2] }
  | _ => none }
def FramesVictimWrongFalsely : Prop := framesVictimRow.holds Try.pinned (OpenSpec.ofChange framesVictimWrong)

/-- 'caissonlaw27.FramesClock': WHATEVER THE INPUT: true; the input reads as it did. -/
def framesClockSpec : ChangeSpec := { name := "framesClock", fn := fun _ => fun
  | [d1, d2] => { results := [.lit (.bool true)], args := [d1, d2] }
  | _ => none }
def framesClockRow : OpenClaim := { program := "ytmdfeekpehcieaa", sum := "42ec114ff63f9f3fe870d20e4d530c05fcec229b8aa40c4f493bf6fa3da6b18a", func := "caisson/caissonlaw27.FramesClock", spec := "framesClock", unfollowed := true, recurses := true, apart := false }
def FramesClockSaid : Prop := framesClockRow.holds Try.pinned (OpenSpec.ofChange framesClockSpec)

/-- ITS FALSE NEIGHBOUR: 'it returns false'. Refute it at one input. -/
def framesClockWrong : ChangeSpec := { name := "framesClock", fn := fun _ => fun
  | [d1, d2] => { results := [.lit (.bool false)], args := [d1, d2] }
  | _ => none }
def FramesClockWrongFalsely : Prop := framesClockRow.holds Try.pinned (OpenSpec.ofChange framesClockWrong)

/-- 'caissonlaw27.FramesRef': WHATEVER THE INPUT: true; the input reads as it did. -/
def framesRefSpec : ChangeSpec := { name := "framesRef", fn := fun _ => fun
  | [d1, d2, d3] => { results := [.lit (.bool true)], args := [d1, d2, d3] }
  | _ => none }
def framesRefRow : OpenClaim := { program := "ytmdfeekpehcieaa", sum := "42ec114ff63f9f3fe870d20e4d530c05fcec229b8aa40c4f493bf6fa3da6b18a", func := "caisson/caissonlaw27.FramesRef", spec := "framesRef", unfollowed := true, recurses := true, apart := false }
def FramesRefSaid : Prop := framesRefRow.holds Try.pinned (OpenSpec.ofChange framesRefSpec)

/-- ITS FALSE NEIGHBOUR: 'it returns false'. Refute it at one input. -/
def framesRefWrong : ChangeSpec := { name := "framesRef", fn := fun _ => fun
  | [d1, d2, d3] => { results := [.lit (.bool false)], args := [d1, d2, d3] }
  | _ => none }
def FramesRefWrongFalsely : Prop := framesRefRow.holds Try.pinned (OpenSpec.ofChange framesRefWrong)

/-- 'caissonlaw27.FramesCheck': WHATEVER THE INPUT: true; the input reads as it did. -/
def framesCheckSpec : ChangeSpec := { name := "framesCheck", fn := fun _ => fun
  | [d] => { results := [.lit (.bool true)], args := [d] }
  | _ => none }
def framesCheckRow : OpenClaim := { program := "ytmdfeekpehcieaa", sum := "42ec114ff63f9f3fe870d20e4d530c05fcec229b8aa40c4f493bf6fa3da6b18a", func := "caisson/caissonlaw27.FramesCheck", spec := "framesCheck", unfollowed := true, recurses := true, apart := false }
def FramesCheckSaid : Prop := framesCheckRow.holds Try.pinned (OpenSpec.ofChange framesCheckSpec)

/-- ITS FALSE NEIGHBOUR: 'it returns false'. Refute it at one input. -/
def framesCheckWrong : ChangeSpec := { name := "framesCheck", fn := fun _ => fun
  | [d] => { results := [.lit (.bool false)], args := [d] }
  | _ => none }
def FramesCheckWrongFalsely : Prop := framesCheckRow.holds Try.pinned (OpenSpec.ofChange framesCheckWrong)

/-- 'caissonlaw27.FramesKnown': WHATEVER THE INPUT: true; the input reads as it did. -/
def framesKnownSpec : ChangeSpec := { name := "framesKnown", fn := fun _ => fun
  | [] => { results := [.lit (.bool true)], args := [] }
  | _ => none }
def framesKnownRow : OpenClaim := { program := "ytmdfeekpehcieaa", sum := "42ec114ff63f9f3fe870d20e4d530c05fcec229b8aa40c4f493bf6fa3da6b18a", func := "caisson/caissonlaw27.FramesKnown", spec := "framesKnown", unfollowed := true, recurses := true, apart := false }
def FramesKnownSaid : Prop := framesKnownRow.holds Try.pinned (OpenSpec.ofChange framesKnownSpec)

/-- ITS FALSE NEIGHBOUR: 'it returns false'. Refute it at one input. -/
def framesKnownWrong : ChangeSpec := { name := "framesKnown", fn := fun _ => fun
  | [] => { results := [.lit (.bool false)], args := [] }
  | _ => none }
def FramesKnownWrongFalsely : Prop := framesKnownRow.holds Try.pinned (OpenSpec.ofChange framesKnownWrong)

/-- 'caissonlaw27.FramesFind': WHATEVER THE INPUT: true; the input reads as it did. -/
def framesFindSpec : ChangeSpec := { name := "framesFind", fn := fun _ => fun
  | [d1, d2, d3] => { results := [.lit (.bool true)], args := [d1, d2, d3] }
  | _ => none }
def framesFindRow : OpenClaim := { program := "ytmdfeekpehcieaa", sum := "42ec114ff63f9f3fe870d20e4d530c05fcec229b8aa40c4f493bf6fa3da6b18a", func := "caisson/caissonlaw27.FramesFind", spec := "framesFind", unfollowed := true, recurses := true, apart := false }
def FramesFindSaid : Prop := framesFindRow.holds Try.pinned (OpenSpec.ofChange framesFindSpec)

/-- ITS FALSE NEIGHBOUR: 'it returns false'. Refute it at one input. -/
def framesFindWrong : ChangeSpec := { name := "framesFind", fn := fun _ => fun
  | [d1, d2, d3] => { results := [.lit (.bool false)], args := [d1, d2, d3] }
  | _ => none }
def FramesFindWrongFalsely : Prop := framesFindRow.holds Try.pinned (OpenSpec.ofChange framesFindWrong)

/-- 'caissonlaw28.ShardsPlace': WHATEVER THE INPUT: true; the input reads as it did. -/
def shardsPlaceSpec : ChangeSpec := { name := "shardsPlace", fn := fun _ => fun
  | [d1, d2, d3] => { results := [.lit (.bool true)], args := [d1, d2, d3] }
  | _ => none }
def shardsPlaceRow : OpenClaim := { program := "ytmdfeekpehcieaa", sum := "42ec114ff63f9f3fe870d20e4d530c05fcec229b8aa40c4f493bf6fa3da6b18a", func := "caisson/caissonlaw28.ShardsPlace", spec := "shardsPlace", unfollowed := true, recurses := true, apart := false }
def ShardsPlaceSaid : Prop := shardsPlaceRow.holds Try.pinned (OpenSpec.ofChange shardsPlaceSpec)

/-- ITS FALSE NEIGHBOUR: 'it returns false'. Refute it at one input. -/
def shardsPlaceWrong : ChangeSpec := { name := "shardsPlace", fn := fun _ => fun
  | [d1, d2, d3] => { results := [.lit (.bool false)], args := [d1, d2, d3] }
  | _ => none }
def ShardsPlaceWrongFalsely : Prop := shardsPlaceRow.holds Try.pinned (OpenSpec.ofChange shardsPlaceWrong)

/-- 'caissonlaw28.ShardsAsks': WHATEVER THE INPUT: true; the input reads as it did. -/
def shardsAsksSpec : ChangeSpec := { name := "shardsAsks", fn := fun _ => fun
  | [d1, d2, d3] => { results := [.lit (.bool true)], args := [d1, d2, d3] }
  | _ => none }
def shardsAsksRow : OpenClaim := { program := "ytmdfeekpehcieaa", sum := "42ec114ff63f9f3fe870d20e4d530c05fcec229b8aa40c4f493bf6fa3da6b18a", func := "caisson/caissonlaw28.ShardsAsks", spec := "shardsAsks", unfollowed := true, recurses := true, apart := false }
def ShardsAsksSaid : Prop := shardsAsksRow.holds Try.pinned (OpenSpec.ofChange shardsAsksSpec)

/-- ITS FALSE NEIGHBOUR: 'it returns false'. Refute it at one input. -/
def shardsAsksWrong : ChangeSpec := { name := "shardsAsks", fn := fun _ => fun
  | [d1, d2, d3] => { results := [.lit (.bool false)], args := [d1, d2, d3] }
  | _ => none }
def ShardsAsksWrongFalsely : Prop := shardsAsksRow.holds Try.pinned (OpenSpec.ofChange shardsAsksWrong)

/-- 'caissonlaw28.ShardsActs': WHATEVER THE INPUT: true; the input reads as it did. -/
def shardsActsSpec : ChangeSpec := { name := "shardsActs", fn := fun _ => fun
  | [d1, d2, d3] => { results := [.lit (.bool true)], args := [d1, d2, d3] }
  | _ => none }
def shardsActsRow : OpenClaim := { program := "ytmdfeekpehcieaa", sum := "42ec114ff63f9f3fe870d20e4d530c05fcec229b8aa40c4f493bf6fa3da6b18a", func := "caisson/caissonlaw28.ShardsActs", spec := "shardsActs", unfollowed := true, recurses := true, apart := false }
def ShardsActsSaid : Prop := shardsActsRow.holds Try.pinned (OpenSpec.ofChange shardsActsSpec)

/-- ITS FALSE NEIGHBOUR: 'it returns false'. Refute it at one input. -/
def shardsActsWrong : ChangeSpec := { name := "shardsActs", fn := fun _ => fun
  | [d1, d2, d3] => { results := [.lit (.bool false)], args := [d1, d2, d3] }
  | _ => none }
def ShardsActsWrongFalsely : Prop := shardsActsRow.holds Try.pinned (OpenSpec.ofChange shardsActsWrong)

/-- 'caissonlaw28.ShardsPlay': WHATEVER THE INPUT: true; the input reads as it did. -/
def shardsPlaySpec : ChangeSpec := { name := "shardsPlay", fn := fun _ => fun
  | [d1, d2] => { results := [.lit (.bool true)], args := [d1, d2] }
  | _ => none }
def shardsPlayRow : OpenClaim := { program := "ytmdfeekpehcieaa", sum := "42ec114ff63f9f3fe870d20e4d530c05fcec229b8aa40c4f493bf6fa3da6b18a", func := "caisson/caissonlaw28.ShardsPlay", spec := "shardsPlay", unfollowed := true, recurses := true, apart := false }
def ShardsPlaySaid : Prop := shardsPlayRow.holds Try.pinned (OpenSpec.ofChange shardsPlaySpec)

/-- ITS FALSE NEIGHBOUR: 'it returns false'. Refute it at one input. -/
def shardsPlayWrong : ChangeSpec := { name := "shardsPlay", fn := fun _ => fun
  | [d1, d2] => { results := [.lit (.bool false)], args := [d1, d2] }
  | _ => none }
def ShardsPlayWrongFalsely : Prop := shardsPlayRow.holds Try.pinned (OpenSpec.ofChange shardsPlayWrong)

/-- 'caissonlaw28.ShardsCheck': WHATEVER THE INPUT: true; the input reads as it did. -/
def shardsCheckSpec : ChangeSpec := { name := "shardsCheck", fn := fun _ => fun
  | [d1, d2] => { results := [.lit (.bool true)], args := [d1, d2] }
  | _ => none }
def shardsCheckRow : OpenClaim := { program := "ytmdfeekpehcieaa", sum := "42ec114ff63f9f3fe870d20e4d530c05fcec229b8aa40c4f493bf6fa3da6b18a", func := "caisson/caissonlaw28.ShardsCheck", spec := "shardsCheck", unfollowed := true, recurses := true, apart := false }
def ShardsCheckSaid : Prop := shardsCheckRow.holds Try.pinned (OpenSpec.ofChange shardsCheckSpec)

/-- ITS FALSE NEIGHBOUR: 'it returns false'. Refute it at one input. -/
def shardsCheckWrong : ChangeSpec := { name := "shardsCheck", fn := fun _ => fun
  | [d1, d2] => { results := [.lit (.bool false)], args := [d1, d2] }
  | _ => none }
def ShardsCheckWrongFalsely : Prop := shardsCheckRow.holds Try.pinned (OpenSpec.ofChange shardsCheckWrong)

/-- 'caissonlaw28.ShardsKnown': WHATEVER THE INPUT: true; the input reads as it did. -/
def shardsKnownSpec : ChangeSpec := { name := "shardsKnown", fn := fun _ => fun
  | [] => { results := [.lit (.bool true)], args := [] }
  | _ => none }
def shardsKnownRow : OpenClaim := { program := "ytmdfeekpehcieaa", sum := "42ec114ff63f9f3fe870d20e4d530c05fcec229b8aa40c4f493bf6fa3da6b18a", func := "caisson/caissonlaw28.ShardsKnown", spec := "shardsKnown", unfollowed := true, recurses := true, apart := false }
def ShardsKnownSaid : Prop := shardsKnownRow.holds Try.pinned (OpenSpec.ofChange shardsKnownSpec)

/-- ITS FALSE NEIGHBOUR: 'it returns false'. Refute it at one input. -/
def shardsKnownWrong : ChangeSpec := { name := "shardsKnown", fn := fun _ => fun
  | [] => { results := [.lit (.bool false)], args := [] }
  | _ => none }
def ShardsKnownWrongFalsely : Prop := shardsKnownRow.holds Try.pinned (OpenSpec.ofChange shardsKnownWrong)

/- THE SECOND FORM. 'bulk': how many values and letters a reading holds, each counted each time it is reached (what is shared counts as often as it is met; a slice's spare places count too). A statement '..UptoSaid' is the law's where the arguments, and the package variables that the reading takes, are together of bulk at most 1048576: NARROWER than '..Said'. Prove '..Said' where nothing that the law and all that it calls make is longer than what came in: it says more and counts as full. Else prove '..UptoSaid'. A law counts once. -/
mutual
def uptoBulk {H : Type} : DataW H → Nat
  | .lit (.string bytes) => bytes.length + 1
  | .lit _ => 1
  | .nil => 1
  | .ptr d => uptoBulk d + 1
  | .slice elems spare => uptoBulkAll elems + uptoBulkAll spare + 1
  | .agg parts => uptoBulkAll parts + 1
  | .iface _ d => uptoBulk d + 1
  | .map entries => uptoBulkEntries entries + 1
  | .held _ => 1
def uptoBulkAll {H : Type} : List (DataW H) → Nat
  | [] => 0
  | d :: r => uptoBulk d + uptoBulkAll r
def uptoBulkEntries {H : Type} : List (Lit × DataW H) → Nat
  | [] => 0
  | x :: r => uptoBulkEntry x + uptoBulkEntries r
def uptoBulkEntry {H : Type} : Lit × DataW H → Nat
  | (.string bytes, d) => bytes.length + uptoBulk d + 1
  | (_, d) => uptoBulk d + 1
 end
def uptoSmall : (H : Type) → List (DataW H) → Bool := fun _ ds => decide (uptoBulkAll ds ≤ 1048576)
def OpenSpec.upto (s : _root_.Go.ChangeSpec) : _root_.Go.OpenSpec := { _root_.Go.OpenSpec.ofChange s with cond := some uptoSmall }

/-- 'caissonlaw27.FramesVictim', WHERE WHAT IT READS IS OF BULK AT MOST 1048576: true; the input reads as it did. -/
def framesVictimUptoRow : OpenClaim := { program := "ytmdfeekpehcieaa", sum := "42ec114ff63f9f3fe870d20e4d530c05fcec229b8aa40c4f493bf6fa3da6b18a", func := "caisson/caissonlaw27.FramesVictim", spec := "framesVictim", unfollowed := true, recurses := true, apart := false, narrowed := true }
def FramesVictimUptoSaid : Prop := framesVictimUptoRow.holds Try.pinned (OpenSpec.upto framesVictimSpec)

/-- 'caissonlaw27.FramesClock', WHERE WHAT IT READS IS OF BULK AT MOST 1048576: true; the input reads as it did. -/
def framesClockUptoRow : OpenClaim := { program := "ytmdfeekpehcieaa", sum := "42ec114ff63f9f3fe870d20e4d530c05fcec229b8aa40c4f493bf6fa3da6b18a", func := "caisson/caissonlaw27.FramesClock", spec := "framesClock", unfollowed := true, recurses := true, apart := false, narrowed := true }
def FramesClockUptoSaid : Prop := framesClockUptoRow.holds Try.pinned (OpenSpec.upto framesClockSpec)

/-- 'caissonlaw27.FramesRef', WHERE WHAT IT READS IS OF BULK AT MOST 1048576: true; the input reads as it did. -/
def framesRefUptoRow : OpenClaim := { program := "ytmdfeekpehcieaa", sum := "42ec114ff63f9f3fe870d20e4d530c05fcec229b8aa40c4f493bf6fa3da6b18a", func := "caisson/caissonlaw27.FramesRef", spec := "framesRef", unfollowed := true, recurses := true, apart := false, narrowed := true }
def FramesRefUptoSaid : Prop := framesRefUptoRow.holds Try.pinned (OpenSpec.upto framesRefSpec)

/-- 'caissonlaw27.FramesCheck', WHERE WHAT IT READS IS OF BULK AT MOST 1048576: true; the input reads as it did. -/
def framesCheckUptoRow : OpenClaim := { program := "ytmdfeekpehcieaa", sum := "42ec114ff63f9f3fe870d20e4d530c05fcec229b8aa40c4f493bf6fa3da6b18a", func := "caisson/caissonlaw27.FramesCheck", spec := "framesCheck", unfollowed := true, recurses := true, apart := false, narrowed := true }
def FramesCheckUptoSaid : Prop := framesCheckUptoRow.holds Try.pinned (OpenSpec.upto framesCheckSpec)

/-- 'caissonlaw27.FramesKnown', WHERE WHAT IT READS IS OF BULK AT MOST 1048576: true; the input reads as it did. -/
def framesKnownUptoRow : OpenClaim := { program := "ytmdfeekpehcieaa", sum := "42ec114ff63f9f3fe870d20e4d530c05fcec229b8aa40c4f493bf6fa3da6b18a", func := "caisson/caissonlaw27.FramesKnown", spec := "framesKnown", unfollowed := true, recurses := true, apart := false, narrowed := true }
def FramesKnownUptoSaid : Prop := framesKnownUptoRow.holds Try.pinned (OpenSpec.upto framesKnownSpec)

/-- 'caissonlaw27.FramesFind', WHERE WHAT IT READS IS OF BULK AT MOST 1048576: true; the input reads as it did. -/
def framesFindUptoRow : OpenClaim := { program := "ytmdfeekpehcieaa", sum := "42ec114ff63f9f3fe870d20e4d530c05fcec229b8aa40c4f493bf6fa3da6b18a", func := "caisson/caissonlaw27.FramesFind", spec := "framesFind", unfollowed := true, recurses := true, apart := false, narrowed := true }
def FramesFindUptoSaid : Prop := framesFindUptoRow.holds Try.pinned (OpenSpec.upto framesFindSpec)

/-- 'caissonlaw28.ShardsPlace', WHERE WHAT IT READS IS OF BULK AT MOST 1048576: true; the input reads as it did. -/
def shardsPlaceUptoRow : OpenClaim := { program := "ytmdfeekpehcieaa", sum := "42ec114ff63f9f3fe870d20e4d530c05fcec229b8aa40c4f493bf6fa3da6b18a", func := "caisson/caissonlaw28.ShardsPlace", spec := "shardsPlace", unfollowed := true, recurses := true, apart := false, narrowed := true }
def ShardsPlaceUptoSaid : Prop := shardsPlaceUptoRow.holds Try.pinned (OpenSpec.upto shardsPlaceSpec)

/-- 'caissonlaw28.ShardsAsks', WHERE WHAT IT READS IS OF BULK AT MOST 1048576: true; the input reads as it did. -/
def shardsAsksUptoRow : OpenClaim := { program := "ytmdfeekpehcieaa", sum := "42ec114ff63f9f3fe870d20e4d530c05fcec229b8aa40c4f493bf6fa3da6b18a", func := "caisson/caissonlaw28.ShardsAsks", spec := "shardsAsks", unfollowed := true, recurses := true, apart := false, narrowed := true }
def ShardsAsksUptoSaid : Prop := shardsAsksUptoRow.holds Try.pinned (OpenSpec.upto shardsAsksSpec)

/-- 'caissonlaw28.ShardsActs', WHERE WHAT IT READS IS OF BULK AT MOST 1048576: true; the input reads as it did. -/
def shardsActsUptoRow : OpenClaim := { program := "ytmdfeekpehcieaa", sum := "42ec114ff63f9f3fe870d20e4d530c05fcec229b8aa40c4f493bf6fa3da6b18a", func := "caisson/caissonlaw28.ShardsActs", spec := "shardsActs", unfollowed := true, recurses := true, apart := false, narrowed := true }
def ShardsActsUptoSaid : Prop := shardsActsUptoRow.holds Try.pinned (OpenSpec.upto shardsActsSpec)

/-- 'caissonlaw28.ShardsPlay', WHERE WHAT IT READS IS OF BULK AT MOST 1048576: true; the input reads as it did. -/
def shardsPlayUptoRow : OpenClaim := { program := "ytmdfeekpehcieaa", sum := "42ec114ff63f9f3fe870d20e4d530c05fcec229b8aa40c4f493bf6fa3da6b18a", func := "caisson/caissonlaw28.ShardsPlay", spec := "shardsPlay", unfollowed := true, recurses := true, apart := false, narrowed := true }
def ShardsPlayUptoSaid : Prop := shardsPlayUptoRow.holds Try.pinned (OpenSpec.upto shardsPlaySpec)

/-- 'caissonlaw28.ShardsCheck', WHERE WHAT IT READS IS OF BULK AT MOST 1048576: true; the input reads as it did. -/
def shardsCheckUptoRow : OpenClaim := { program := "ytmdfeekpehcieaa", sum := "42ec114ff63f9f3fe870d20e4d530c05fcec229b8aa40c4f493bf6fa3da6b18a", func := "caisson/caissonlaw28.ShardsCheck", spec := "shardsCheck", unfollowed := true, recurses := true, apart := false, narrowed := true }
def ShardsCheckUptoSaid : Prop := shardsCheckUptoRow.holds Try.pinned (OpenSpec.upto shardsCheckSpec)

/-- 'caissonlaw28.ShardsKnown', WHERE WHAT IT READS IS OF BULK AT MOST 1048576: true; the input reads as it did. -/
def shardsKnownUptoRow : OpenClaim := { program := "ytmdfeekpehcieaa", sum := "42ec114ff63f9f3fe870d20e4d530c05fcec229b8aa40c4f493bf6fa3da6b18a", func := "caisson/caissonlaw28.ShardsKnown", spec := "shardsKnown", unfollowed := true, recurses := true, apart := false, narrowed := true }
def ShardsKnownUptoSaid : Prop := shardsKnownUptoRow.holds Try.pinned (OpenSpec.upto shardsKnownSpec)

end Rows
end Go.Proofs.Ytmdfeekpehcieaa
