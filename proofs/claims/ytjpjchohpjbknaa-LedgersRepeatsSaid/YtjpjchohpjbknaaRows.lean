/-
  No cell of these rows narrows 'for every input' (looked for: loops, veiled, ifaces, maps, wideKeys, modest, calm, conditions, laid).
  DERIVED. THE GIVEN ROWS OF THIS SEAT. 11 by the template 'for every input the law returns true; each argument reads behind the call as it read before'; 0 by the template 'total and deterministic' (their statements: YtjpjchohpjbknaaTotals.lean).
  GIVEN WITH THE SEED: the statements are not yours to turn. If you find one false, say at which input.
  Laid BY PROGRAM, IN A SANDBOX (cutbox-rows.mjs): the forced cells as the released guide's own fill.sh prints them over the translation 113fd5c38f2ecf3a… (all of the seat's roots in one cut). By AI agents, Wed Nov 11 2026. No macro, syntax, notation, axiom, sorry.
-/
import Derived.Test.YtjpjchohpjbknaaChecked
import GoSem.Claim
import GoSem.ClaimJoined
import GoSem.ClaimMapViews
import Derived.JoinedTies
import Derived.KernelRfl
namespace Go.Proofs.Ytjpjchohpjbknaa
/- THE CELL 'sum', in the pinned program and in every row, IS THE sha256 OF THE DUMP (.gsa) THAT YtjpjchohpjbknaaProg.lean LOADS. Nothing in Lean hashes anything: it is a label: what it is worth is what the hold of that sum in a sandbox is worth. -/
noncomputable def Try.pinned : Pinned := { name := "ytjpjchohpjbknaa", sum := "113fd5c38f2ecf3a707c47f87b94bfc3d589f8c3110b3aa24511c0ab89124b77", checked := Try.checked }
namespace Rows
def none {H : Type} : Left H := { results := [], args := [] }

/-- 'caissonlaw21.ArraysPlay': WHATEVER THE INPUT: true; the input reads as it did. -/
def arraysPlaySpec : ChangeSpec := { name := "arraysPlay", fn := fun _ => fun
  | [d] => { results := [.lit (.bool true)], args := [d] }
  | _ => none }
def arraysPlayRow : OpenClaim := { program := "ytjpjchohpjbknaa", sum := "113fd5c38f2ecf3a707c47f87b94bfc3d589f8c3110b3aa24511c0ab89124b77", func := "caisson/caissonlaw21.ArraysPlay", spec := "arraysPlay", unfollowed := true, recurses := true, plainKeys := false, apart := false }
def ArraysPlaySaid : Prop := arraysPlayRow.holds Try.pinned (OpenSpec.ofChange arraysPlaySpec)

/-- ITS FALSE NEIGHBOUR: 'it returns false'. Refute it at one input. -/
def arraysPlayWrong : ChangeSpec := { name := "arraysPlay", fn := fun _ => fun
  | [d] => { results := [.lit (.bool false)], args := [d] }
  | _ => none }
def ArraysPlayWrongFalsely : Prop := arraysPlayRow.holds Try.pinned (OpenSpec.ofChange arraysPlayWrong)

/-- 'caissonlaw21.ArraysOrder': WHATEVER THE INPUT: true; the input reads as it did. -/
def arraysOrderSpec : ChangeSpec := { name := "arraysOrder", fn := fun _ => fun
  | [d1, d2, d3] => { results := [.lit (.bool true)], args := [d1, d2, d3] }
  | _ => none }
def arraysOrderRow : OpenClaim := { program := "ytjpjchohpjbknaa", sum := "113fd5c38f2ecf3a707c47f87b94bfc3d589f8c3110b3aa24511c0ab89124b77", func := "caisson/caissonlaw21.ArraysOrder", spec := "arraysOrder", unfollowed := true, recurses := true, plainKeys := false, apart := false }
def ArraysOrderSaid : Prop := arraysOrderRow.holds Try.pinned (OpenSpec.ofChange arraysOrderSpec)

/-- ITS FALSE NEIGHBOUR: 'it returns false'. Refute it at one input. -/
def arraysOrderWrong : ChangeSpec := { name := "arraysOrder", fn := fun _ => fun
  | [d1, d2, d3] => { results := [.lit (.bool false)], args := [d1, d2, d3] }
  | _ => none }
def ArraysOrderWrongFalsely : Prop := arraysOrderRow.holds Try.pinned (OpenSpec.ofChange arraysOrderWrong)

/-- 'caissonlaw21.ArraysErrors': WHATEVER THE INPUT: true; the input reads as it did. -/
def arraysErrorsSpec : ChangeSpec := { name := "arraysErrors", fn := fun _ => fun
  | [d1, d2, d3] => { results := [.lit (.bool true)], args := [d1, d2, d3] }
  | _ => none }
def arraysErrorsRow : OpenClaim := { program := "ytjpjchohpjbknaa", sum := "113fd5c38f2ecf3a707c47f87b94bfc3d589f8c3110b3aa24511c0ab89124b77", func := "caisson/caissonlaw21.ArraysErrors", spec := "arraysErrors", unfollowed := true, recurses := true, plainKeys := false, apart := false }
def ArraysErrorsSaid : Prop := arraysErrorsRow.holds Try.pinned (OpenSpec.ofChange arraysErrorsSpec)

/-- ITS FALSE NEIGHBOUR: 'it returns false'. Refute it at one input. -/
def arraysErrorsWrong : ChangeSpec := { name := "arraysErrors", fn := fun _ => fun
  | [d1, d2, d3] => { results := [.lit (.bool false)], args := [d1, d2, d3] }
  | _ => none }
def ArraysErrorsWrongFalsely : Prop := arraysErrorsRow.holds Try.pinned (OpenSpec.ofChange arraysErrorsWrong)

/-- 'caissonlaw21.ArraysDiffer': WHATEVER THE INPUT: true; the input reads as it did. -/
def arraysDifferSpec : ChangeSpec := { name := "arraysDiffer", fn := fun _ => fun
  | [d1, d2] => { results := [.lit (.bool true)], args := [d1, d2] }
  | _ => none }
def arraysDifferRow : OpenClaim := { program := "ytjpjchohpjbknaa", sum := "113fd5c38f2ecf3a707c47f87b94bfc3d589f8c3110b3aa24511c0ab89124b77", func := "caisson/caissonlaw21.ArraysDiffer", spec := "arraysDiffer", unfollowed := true, recurses := true, plainKeys := false, apart := false }
def ArraysDifferSaid : Prop := arraysDifferRow.holds Try.pinned (OpenSpec.ofChange arraysDifferSpec)

/-- ITS FALSE NEIGHBOUR: 'it returns false'. Refute it at one input. -/
def arraysDifferWrong : ChangeSpec := { name := "arraysDiffer", fn := fun _ => fun
  | [d1, d2] => { results := [.lit (.bool false)], args := [d1, d2] }
  | _ => none }
def ArraysDifferWrongFalsely : Prop := arraysDifferRow.holds Try.pinned (OpenSpec.ofChange arraysDifferWrong)

/-- 'caissonlaw21.ArraysKnown': WHATEVER THE INPUT: true; the input reads as it did. -/
def arraysKnownSpec : ChangeSpec := { name := "arraysKnown", fn := fun _ => fun
  | [] => { results := [.lit (.bool true)], args := [] }
  | _ => none }
def arraysKnownRow : OpenClaim := { program := "ytjpjchohpjbknaa", sum := "113fd5c38f2ecf3a707c47f87b94bfc3d589f8c3110b3aa24511c0ab89124b77", func := "caisson/caissonlaw21.ArraysKnown", spec := "arraysKnown", unfollowed := true, recurses := true, plainKeys := false, apart := false }
def ArraysKnownSaid : Prop := arraysKnownRow.holds Try.pinned (OpenSpec.ofChange arraysKnownSpec)

/-- ITS FALSE NEIGHBOUR: 'it returns false'. Refute it at one input. -/
def arraysKnownWrong : ChangeSpec := { name := "arraysKnown", fn := fun _ => fun
  | [] => { results := [.lit (.bool false)], args := [] }
  | _ => none }
def ArraysKnownWrongFalsely : Prop := arraysKnownRow.holds Try.pinned (OpenSpec.ofChange arraysKnownWrong)

/-- 'caissonlaw11.LedgersText': WHATEVER THE INPUT: true; the input reads as it did. -/
def ledgersTextSpec : ChangeSpec := { name := "ledgersText", fn := fun _ => fun
  | [d] => { results := [.lit (.bool true)], args := [d] }
  | _ => none }
def ledgersTextRow : OpenClaim := { program := "ytjpjchohpjbknaa", sum := "113fd5c38f2ecf3a707c47f87b94bfc3d589f8c3110b3aa24511c0ab89124b77", func := "caisson/caissonlaw11.LedgersText", spec := "ledgersText", inPlace := ["internal/abi.NoEscape", "internal/bytealg.MakeNoZero", "internal/bytealg.IndexByteString", "internal/bytealg.IndexString"], named := ["internal/bytealg.MaxLen"], plainKeys := false, apart := false }
def LedgersTextSaid : Prop := ledgersTextRow.holds Try.pinned (OpenSpec.ofChange ledgersTextSpec)

/-- ITS FALSE NEIGHBOUR: 'it returns false'. Refute it at one input. -/
def ledgersTextWrong : ChangeSpec := { name := "ledgersText", fn := fun _ => fun
  | [d] => { results := [.lit (.bool false)], args := [d] }
  | _ => none }
def LedgersTextWrongFalsely : Prop := ledgersTextRow.holds Try.pinned (OpenSpec.ofChange ledgersTextWrong)

/-- 'caissonlaw11.LedgersParse': WHATEVER THE INPUT: true; the input reads as it did. -/
def ledgersParseSpec : ChangeSpec := { name := "ledgersParse", fn := fun _ => fun
  | [d] => { results := [.lit (.bool true)], args := [d] }
  | _ => none }
def ledgersParseRow : OpenClaim := { program := "ytjpjchohpjbknaa", sum := "113fd5c38f2ecf3a707c47f87b94bfc3d589f8c3110b3aa24511c0ab89124b77", func := "caisson/caissonlaw11.LedgersParse", spec := "ledgersParse", inPlace := ["internal/abi.NoEscape", "internal/bytealg.MakeNoZero", "internal/bytealg.IndexByteString", "internal/bytealg.IndexString"], named := ["internal/bytealg.MaxLen"], plainKeys := false, apart := false }
def LedgersParseSaid : Prop := ledgersParseRow.holds Try.pinned (OpenSpec.ofChange ledgersParseSpec)

/-- ITS FALSE NEIGHBOUR: 'it returns false'. Refute it at one input. -/
def ledgersParseWrong : ChangeSpec := { name := "ledgersParse", fn := fun _ => fun
  | [d] => { results := [.lit (.bool false)], args := [d] }
  | _ => none }
def LedgersParseWrongFalsely : Prop := ledgersParseRow.holds Try.pinned (OpenSpec.ofChange ledgersParseWrong)

/-- 'caissonlaw11.LedgersMerge': WHATEVER THE INPUT: true; the input reads as it did. -/
def ledgersMergeSpec : ChangeSpec := { name := "ledgersMerge", fn := fun _ => fun
  | [d1, d2, d3] => { results := [.lit (.bool true)], args := [d1, d2, d3] }
  | _ => none }
def ledgersMergeRow : OpenClaim := { program := "ytjpjchohpjbknaa", sum := "113fd5c38f2ecf3a707c47f87b94bfc3d589f8c3110b3aa24511c0ab89124b77", func := "caisson/caissonlaw11.LedgersMerge", spec := "ledgersMerge", inPlace := ["internal/abi.NoEscape", "internal/bytealg.MakeNoZero", "internal/bytealg.IndexByteString", "internal/bytealg.IndexString"], named := ["internal/bytealg.MaxLen"], plainKeys := false, apart := false }
def LedgersMergeSaid : Prop := ledgersMergeRow.holds Try.pinned (OpenSpec.ofChange ledgersMergeSpec)

/-- ITS FALSE NEIGHBOUR: 'it returns false'. Refute it at one input. -/
def ledgersMergeWrong : ChangeSpec := { name := "ledgersMerge", fn := fun _ => fun
  | [d1, d2, d3] => { results := [.lit (.bool false)], args := [d1, d2, d3] }
  | _ => none }
def LedgersMergeWrongFalsely : Prop := ledgersMergeRow.holds Try.pinned (OpenSpec.ofChange ledgersMergeWrong)

/-- 'caissonlaw11.LedgersRepeats': WHATEVER THE INPUT: true; the input reads as it did. -/
def ledgersRepeatsSpec : ChangeSpec := { name := "ledgersRepeats", fn := fun _ => fun
  | [d1, d2] => { results := [.lit (.bool true)], args := [d1, d2] }
  | _ => none }
def ledgersRepeatsRow : OpenClaim := { program := "ytjpjchohpjbknaa", sum := "113fd5c38f2ecf3a707c47f87b94bfc3d589f8c3110b3aa24511c0ab89124b77", func := "caisson/caissonlaw11.LedgersRepeats", spec := "ledgersRepeats", inPlace := ["internal/abi.NoEscape", "internal/bytealg.MakeNoZero", "internal/bytealg.IndexByteString", "internal/bytealg.IndexString"], named := ["internal/bytealg.MaxLen"], plainKeys := false, apart := false }
def LedgersRepeatsSaid : Prop := ledgersRepeatsRow.holds Try.pinned (OpenSpec.ofChange ledgersRepeatsSpec)

/-- ITS FALSE NEIGHBOUR: 'it returns false'. Refute it at one input. -/
def ledgersRepeatsWrong : ChangeSpec := { name := "ledgersRepeats", fn := fun _ => fun
  | [d1, d2] => { results := [.lit (.bool false)], args := [d1, d2] }
  | _ => none }
def LedgersRepeatsWrongFalsely : Prop := ledgersRepeatsRow.holds Try.pinned (OpenSpec.ofChange ledgersRepeatsWrong)

/-- 'caissonlaw11.LedgersErrors': WHATEVER THE INPUT: true; the input reads as it did. -/
def ledgersErrorsSpec : ChangeSpec := { name := "ledgersErrors", fn := fun _ => fun
  | [d1, d2, d3] => { results := [.lit (.bool true)], args := [d1, d2, d3] }
  | _ => none }
def ledgersErrorsRow : OpenClaim := { program := "ytjpjchohpjbknaa", sum := "113fd5c38f2ecf3a707c47f87b94bfc3d589f8c3110b3aa24511c0ab89124b77", func := "caisson/caissonlaw11.LedgersErrors", spec := "ledgersErrors", inPlace := ["internal/abi.NoEscape", "internal/bytealg.MakeNoZero", "internal/bytealg.IndexByteString", "internal/bytealg.IndexString"], named := ["internal/bytealg.MaxLen"], plainKeys := false, apart := false }
def LedgersErrorsSaid : Prop := ledgersErrorsRow.holds Try.pinned (OpenSpec.ofChange ledgersErrorsSpec)

/-- ITS FALSE NEIGHBOUR: 'it returns false'. Refute it at one input. -/
def ledgersErrorsWrong : ChangeSpec := { name := "ledgersErrors", fn := fun _ => fun
  | [d1, d2, d3] => { results := [.lit (.bool false)], args := [d1, d2, d3] }
  | _ => none }
def LedgersErrorsWrongFalsely : Prop := ledgersErrorsRow.holds Try.pinned (OpenSpec.ofChange ledgersErrorsWrong)

/-- 'caissonlaw11.LedgersKnown': WHATEVER THE INPUT: true; the input reads as it did. -/
def ledgersKnownSpec : ChangeSpec := { name := "ledgersKnown", fn := fun _ => fun
  | [] => { results := [.lit (.bool true)], args := [] }
  | _ => none }
def ledgersKnownRow : OpenClaim := { program := "ytjpjchohpjbknaa", sum := "113fd5c38f2ecf3a707c47f87b94bfc3d589f8c3110b3aa24511c0ab89124b77", func := "caisson/caissonlaw11.LedgersKnown", spec := "ledgersKnown", inPlace := ["internal/abi.NoEscape", "internal/bytealg.IndexByteString", "internal/bytealg.IndexString", "internal/bytealg.MakeNoZero"], named := ["internal/bytealg.MaxLen"], plainKeys := false, apart := false }
def LedgersKnownSaid : Prop := ledgersKnownRow.holds Try.pinned (OpenSpec.ofChange ledgersKnownSpec)

/-- ITS FALSE NEIGHBOUR: 'it returns false'. Refute it at one input. -/
def ledgersKnownWrong : ChangeSpec := { name := "ledgersKnown", fn := fun _ => fun
  | [] => { results := [.lit (.bool false)], args := [] }
  | _ => none }
def LedgersKnownWrongFalsely : Prop := ledgersKnownRow.holds Try.pinned (OpenSpec.ofChange ledgersKnownWrong)

/- THE SECOND FORM. 'bulk': how many values and letters a reading holds, each counted each time it is reached (what is shared counts as often as it is met; a slice's spare places count too). A statement '..UptoSaid' is the law's where the arguments, and the package variables that the reading takes, are together of bulk at most 1048576: NARROWER than '..Said'. Prove '..Said' where nothing that the law and all that it calls make is longer than what came in: it says more and counts as full. Else prove '..UptoSaid'. A law counts once. -/
mutual
def uptoBulk {H : Type} : DataW H → Nat
  | .lit (.string bytes) => bytes.length + 1
  | .lit _ => 1
  | .nil => 1
  | .ptr d => uptoBulk d + 1
  | .slice elems spare => uptoBulkAll elems + uptoBulkAll spare + 1
  | .agg parts => uptoBulkAll parts + 1
  | .iface _ d => uptoBulk d + 1
  | .map entries => uptoBulkEntries entries + 1
  | .held _ => 1
def uptoBulkAll {H : Type} : List (DataW H) → Nat
  | [] => 0
  | d :: r => uptoBulk d + uptoBulkAll r
def uptoBulkEntries {H : Type} : List (Lit × DataW H) → Nat
  | [] => 0
  | x :: r => uptoBulkEntry x + uptoBulkEntries r
def uptoBulkEntry {H : Type} : Lit × DataW H → Nat
  | (.string bytes, d) => bytes.length + uptoBulk d + 1
  | (_, d) => uptoBulk d + 1
 end
def uptoSmall : (H : Type) → List (DataW H) → Bool := fun _ ds => decide (uptoBulkAll ds ≤ 1048576)
def OpenSpec.upto (s : _root_.Go.ChangeSpec) : _root_.Go.OpenSpec := { _root_.Go.OpenSpec.ofChange s with cond := some uptoSmall }

/-- 'caissonlaw21.ArraysPlay', WHERE WHAT IT READS IS OF BULK AT MOST 1048576: true; the input reads as it did. -/
def arraysPlayUptoRow : OpenClaim := { program := "ytjpjchohpjbknaa", sum := "113fd5c38f2ecf3a707c47f87b94bfc3d589f8c3110b3aa24511c0ab89124b77", func := "caisson/caissonlaw21.ArraysPlay", spec := "arraysPlay", unfollowed := true, recurses := true, plainKeys := false, apart := false, narrowed := true }
def ArraysPlayUptoSaid : Prop := arraysPlayUptoRow.holds Try.pinned (OpenSpec.upto arraysPlaySpec)

/-- 'caissonlaw21.ArraysOrder', WHERE WHAT IT READS IS OF BULK AT MOST 1048576: true; the input reads as it did. -/
def arraysOrderUptoRow : OpenClaim := { program := "ytjpjchohpjbknaa", sum := "113fd5c38f2ecf3a707c47f87b94bfc3d589f8c3110b3aa24511c0ab89124b77", func := "caisson/caissonlaw21.ArraysOrder", spec := "arraysOrder", unfollowed := true, recurses := true, plainKeys := false, apart := false, narrowed := true }
def ArraysOrderUptoSaid : Prop := arraysOrderUptoRow.holds Try.pinned (OpenSpec.upto arraysOrderSpec)

/-- 'caissonlaw21.ArraysErrors', WHERE WHAT IT READS IS OF BULK AT MOST 1048576: true; the input reads as it did. -/
def arraysErrorsUptoRow : OpenClaim := { program := "ytjpjchohpjbknaa", sum := "113fd5c38f2ecf3a707c47f87b94bfc3d589f8c3110b3aa24511c0ab89124b77", func := "caisson/caissonlaw21.ArraysErrors", spec := "arraysErrors", unfollowed := true, recurses := true, plainKeys := false, apart := false, narrowed := true }
def ArraysErrorsUptoSaid : Prop := arraysErrorsUptoRow.holds Try.pinned (OpenSpec.upto arraysErrorsSpec)

/-- 'caissonlaw21.ArraysDiffer', WHERE WHAT IT READS IS OF BULK AT MOST 1048576: true; the input reads as it did. -/
def arraysDifferUptoRow : OpenClaim := { program := "ytjpjchohpjbknaa", sum := "113fd5c38f2ecf3a707c47f87b94bfc3d589f8c3110b3aa24511c0ab89124b77", func := "caisson/caissonlaw21.ArraysDiffer", spec := "arraysDiffer", unfollowed := true, recurses := true, plainKeys := false, apart := false, narrowed := true }
def ArraysDifferUptoSaid : Prop := arraysDifferUptoRow.holds Try.pinned (OpenSpec.upto arraysDifferSpec)

/-- 'caissonlaw21.ArraysKnown', WHERE WHAT IT READS IS OF BULK AT MOST 1048576: true; the input reads as it did. -/
def arraysKnownUptoRow : OpenClaim := { program := "ytjpjchohpjbknaa", sum := "113fd5c38f2ecf3a707c47f87b94bfc3d589f8c3110b3aa24511c0ab89124b77", func := "caisson/caissonlaw21.ArraysKnown", spec := "arraysKnown", unfollowed := true, recurses := true, plainKeys := false, apart := false, narrowed := true }
def ArraysKnownUptoSaid : Prop := arraysKnownUptoRow.holds Try.pinned (OpenSpec.upto arraysKnownSpec)

/-- 'caissonlaw11.LedgersText', WHERE WHAT IT READS IS OF BULK AT MOST 1048576: true; the input reads as it did. -/
def ledgersTextUptoRow : OpenClaim := { program := "ytjpjchohpjbknaa", sum := "113fd5c38f2ecf3a707c47f87b94bfc3d589f8c3110b3aa24511c0ab89124b77", func := "caisson/caissonlaw11.LedgersText", spec := "ledgersText", inPlace := ["internal/abi.NoEscape", "internal/bytealg.MakeNoZero", "internal/bytealg.IndexByteString", "internal/bytealg.IndexString"], named := ["internal/bytealg.MaxLen"], plainKeys := false, apart := false, narrowed := true }
def LedgersTextUptoSaid : Prop := ledgersTextUptoRow.holds Try.pinned (OpenSpec.upto ledgersTextSpec)

/-- 'caissonlaw11.LedgersParse', WHERE WHAT IT READS IS OF BULK AT MOST 1048576: true; the input reads as it did. -/
def ledgersParseUptoRow : OpenClaim := { program := "ytjpjchohpjbknaa", sum := "113fd5c38f2ecf3a707c47f87b94bfc3d589f8c3110b3aa24511c0ab89124b77", func := "caisson/caissonlaw11.LedgersParse", spec := "ledgersParse", inPlace := ["internal/abi.NoEscape", "internal/bytealg.MakeNoZero", "internal/bytealg.IndexByteString", "internal/bytealg.IndexString"], named := ["internal/bytealg.MaxLen"], plainKeys := false, apart := false, narrowed := true }
def LedgersParseUptoSaid : Prop := ledgersParseUptoRow.holds Try.pinned (OpenSpec.upto ledgersParseSpec)

/-- 'caissonlaw11.LedgersMerge', WHERE WHAT IT READS IS OF BULK AT MOST 1048576: true; the input reads as it did. -/
def ledgersMergeUptoRow : OpenClaim := { program := "ytjpjchohpjbknaa", sum := "113fd5c38f2ecf3a707c47f87b94bfc3d589f8c3110b3aa24511c0ab89124b77", func := "caisson/caissonlaw11.LedgersMerge", spec := "ledgersMerge", inPlace := ["internal/abi.NoEscape", "internal/bytealg.MakeNoZero", "internal/bytealg.IndexByteString", "internal/bytealg.IndexString"], named := ["internal/bytealg.MaxLen"], plainKeys := false, apart := false, narrowed := true }
def LedgersMergeUptoSaid : Prop := ledgersMergeUptoRow.holds Try.pinned (OpenSpec.upto ledgersMergeSpec)

/-- 'caissonlaw11.LedgersRepeats', WHERE WHAT IT READS IS OF BULK AT MOST 1048576: true; the input reads as it did. -/
def ledgersRepeatsUptoRow : OpenClaim := { program := "ytjpjchohpjbknaa", sum := "113fd5c38f2ecf3a707c47f87b94bfc3d589f8c3110b3aa24511c0ab89124b77", func := "caisson/caissonlaw11.LedgersRepeats", spec := "ledgersRepeats", inPlace := ["internal/abi.NoEscape", "internal/bytealg.MakeNoZero", "internal/bytealg.IndexByteString", "internal/bytealg.IndexString"], named := ["internal/bytealg.MaxLen"], plainKeys := false, apart := false, narrowed := true }
def LedgersRepeatsUptoSaid : Prop := ledgersRepeatsUptoRow.holds Try.pinned (OpenSpec.upto ledgersRepeatsSpec)

/-- 'caissonlaw11.LedgersErrors', WHERE WHAT IT READS IS OF BULK AT MOST 1048576: true; the input reads as it did. -/
def ledgersErrorsUptoRow : OpenClaim := { program := "ytjpjchohpjbknaa", sum := "113fd5c38f2ecf3a707c47f87b94bfc3d589f8c3110b3aa24511c0ab89124b77", func := "caisson/caissonlaw11.LedgersErrors", spec := "ledgersErrors", inPlace := ["internal/abi.NoEscape", "internal/bytealg.MakeNoZero", "internal/bytealg.IndexByteString", "internal/bytealg.IndexString"], named := ["internal/bytealg.MaxLen"], plainKeys := false, apart := false, narrowed := true }
def LedgersErrorsUptoSaid : Prop := ledgersErrorsUptoRow.holds Try.pinned (OpenSpec.upto ledgersErrorsSpec)

/-- 'caissonlaw11.LedgersKnown', WHERE WHAT IT READS IS OF BULK AT MOST 1048576: true; the input reads as it did. -/
def ledgersKnownUptoRow : OpenClaim := { program := "ytjpjchohpjbknaa", sum := "113fd5c38f2ecf3a707c47f87b94bfc3d589f8c3110b3aa24511c0ab89124b77", func := "caisson/caissonlaw11.LedgersKnown", spec := "ledgersKnown", inPlace := ["internal/abi.NoEscape", "internal/bytealg.IndexByteString", "internal/bytealg.IndexString", "internal/bytealg.MakeNoZero"], named := ["internal/bytealg.MaxLen"], plainKeys := false, apart := false, narrowed := true }
def LedgersKnownUptoSaid : Prop := ledgersKnownUptoRow.holds Try.pinned (OpenSpec.upto ledgersKnownSpec)

end Rows
end Go.Proofs.Ytjpjchohpjbknaa
