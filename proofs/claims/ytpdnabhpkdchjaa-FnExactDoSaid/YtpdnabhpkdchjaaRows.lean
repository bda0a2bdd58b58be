/-
  No cell of these rows narrows 'for every input' (looked for: loops, veiled, ifaces, maps, wideKeys, modest, calm, conditions, laid).
  DERIVED. THE GIVEN ROWS OF THIS SEAT. 19 by the template 'for every input the law returns true; each argument reads behind the call as it read before'; 0 by the template 'total and deterministic' (their statements: YtpdnabhpkdchjaaTotals.lean).
  GIVEN WITH THE SEED: the statements are not yours to turn. If you find one false, say at which input.
  Laid BY PROGRAM, IN A SANDBOX (cutbox-rows.mjs): the forced cells as the released guide's own fill.sh prints them over the translation 18ab5b6e5b6e7199… (all of the seat's roots in one cut). By AI agents, Wed Nov 11 2026. No macro, syntax, notation, axiom, sorry.
-/
import Derived.Test.YtpdnabhpkdchjaaChecked
import GoSem.Claim
import GoSem.ClaimJoined
import GoSem.ClaimMapViews
import Derived.JoinedTies
import Derived.KernelRfl
namespace Go.Proofs.Ytpdnabhpkdchjaa
/- THE CELL 'sum', in the pinned program and in every row, IS THE sha256 OF THE DUMP (.gsa) THAT YtpdnabhpkdchjaaProg.lean LOADS. Nothing in Lean hashes anything: it is a label: what it is worth is what the hold of that sum in a sandbox is worth. -/
noncomputable def Try.pinned : Pinned := { name := "ytpdnabhpkdchjaa", sum := "18ab5b6e5b6e71990b272a15e2bbadf1df5d01c11563fb7271f00cfbc12cd07b", checked := Try.checked }
namespace Rows
def none {H : Type} : Left H := { results := [], args := [] }

/-- 'laws.FnExactConstants': WHATEVER THE INPUT: true; the input reads as it did. -/
def fnExactConstantsSpec : ChangeSpec := { name := "fnExactConstants", fn := fun _ => fun
  | [] => { results := [.lit (.bool true)], args := [] }
  | _ => none }
def fnExactConstantsRow : OpenClaim := { program := "ytpdnabhpkdchjaa", sum := "18ab5b6e5b6e71990b272a15e2bbadf1df5d01c11563fb7271f00cfbc12cd07b", func := "loop.example/treadle/laws.FnExactConstants", spec := "fnExactConstants", apart := false }
def FnExactConstantsSaid : Prop := fnExactConstantsRow.holds Try.pinned (OpenSpec.ofChange fnExactConstantsSpec)

/-- ITS FALSE NEIGHBOUR: 'it returns false'. Refute it at one input. -/
def fnExactConstantsWrong : ChangeSpec := { name := "fnExactConstants", fn := fun _ => fun
  | [] => { results := [.lit (.bool false)], args := [] }
  | _ => none }
def FnExactConstantsWrongFalsely : Prop := fnExactConstantsRow.holds Try.pinned (OpenSpec.ofChange fnExactConstantsWrong)

/-- 'laws.FnExactLayoutOk': WHATEVER THE INPUT: true; the input reads as it did. -/
def fnExactLayoutOkSpec : ChangeSpec := { name := "fnExactLayoutOk", fn := fun _ => fun
  | [d] => { results := [.lit (.bool true)], args := [d] }
  | _ => none }
def fnExactLayoutOkRow : OpenClaim := { program := "ytpdnabhpkdchjaa", sum := "18ab5b6e5b6e71990b272a15e2bbadf1df5d01c11563fb7271f00cfbc12cd07b", func := "loop.example/treadle/laws.FnExactLayoutOk", spec := "fnExactLayoutOk", unfollowed := true, recurses := true, apart := false }
def FnExactLayoutOkSaid : Prop := fnExactLayoutOkRow.holds Try.pinned (OpenSpec.ofChange fnExactLayoutOkSpec)

/-- ITS FALSE NEIGHBOUR: 'it returns false'. Refute it at one input. -/
def fnExactLayoutOkWrong : ChangeSpec := { name := "fnExactLayoutOk", fn := fun _ => fun
  | [d] => { results := [.lit (.bool false)], args := [d] }
  | _ => none }
def FnExactLayoutOkWrongFalsely : Prop := fnExactLayoutOkRow.holds Try.pinned (OpenSpec.ofChange fnExactLayoutOkWrong)

/-- 'laws.FnTop': WHATEVER THE INPUT: true; the input reads as it did. -/
def fnTopSpec : ChangeSpec := { name := "fnTop", fn := fun _ => fun
  | [d] => { results := [.lit (.bool true)], args := [d] }
  | _ => none }
def fnTopRow : OpenClaim := { program := "ytpdnabhpkdchjaa", sum := "18ab5b6e5b6e71990b272a15e2bbadf1df5d01c11563fb7271f00cfbc12cd07b", func := "loop.example/treadle/laws.FnTop", spec := "fnTop", unfollowed := true, recurses := true, apart := false }
def FnTopSaid : Prop := fnTopRow.holds Try.pinned (OpenSpec.ofChange fnTopSpec)

/-- ITS FALSE NEIGHBOUR: 'it returns false'. Refute it at one input. -/
def fnTopWrong : ChangeSpec := { name := "fnTop", fn := fun _ => fun
  | [d] => { results := [.lit (.bool false)], args := [d] }
  | _ => none }
def FnTopWrongFalsely : Prop := fnTopRow.holds Try.pinned (OpenSpec.ofChange fnTopWrong)

/-- 'laws.FnExactEventOk': WHATEVER THE INPUT: true; the input reads as it did. -/
def fnExactEventOkSpec : ChangeSpec := { name := "fnExactEventOk", fn := fun _ => fun
  | [d1, d2] => { results := [.lit (.bool true)], args := [d1, d2] }
  | _ => none }
def fnExactEventOkRow : OpenClaim := { program := "ytpdnabhpkdchjaa", sum := "18ab5b6e5b6e71990b272a15e2bbadf1df5d01c11563fb7271f00cfbc12cd07b", func := "loop.example/treadle/laws.FnExactEventOk", spec := "fnExactEventOk", unfollowed := true, recurses := true, apart := false }
def FnExactEventOkSaid : Prop := fnExactEventOkRow.holds Try.pinned (OpenSpec.ofChange fnExactEventOkSpec)

/-- ITS FALSE NEIGHBOUR: 'it returns false'. Refute it at one input. -/
def fnExactEventOkWrong : ChangeSpec := { name := "fnExactEventOk", fn := fun _ => fun
  | [d1, d2] => { results := [.lit (.bool false)], args := [d1, d2] }
  | _ => none }
def FnExactEventOkWrongFalsely : Prop := fnExactEventOkRow.holds Try.pinned (OpenSpec.ofChange fnExactEventOkWrong)

/-- 'laws.FnExactAround': WHATEVER THE INPUT: true; the input reads as it did. -/
def fnExactAroundSpec : ChangeSpec := { name := "fnExactAround", fn := fun _ => fun
  | [d1, d2] => { results := [.lit (.bool true)], args := [d1, d2] }
  | _ => none }
def fnExactAroundRow : OpenClaim := { program := "ytpdnabhpkdchjaa", sum := "18ab5b6e5b6e71990b272a15e2bbadf1df5d01c11563fb7271f00cfbc12cd07b", func := "loop.example/treadle/laws.FnExactAround", spec := "fnExactAround", unfollowed := true, recurses := true, apart := false }
def FnExactAroundSaid : Prop := fnExactAroundRow.holds Try.pinned (OpenSpec.ofChange fnExactAroundSpec)

/-- ITS FALSE NEIGHBOUR: 'it returns false'. Refute it at one input. -/
def fnExactAroundWrong : ChangeSpec := { name := "fnExactAround", fn := fun _ => fun
  | [d1, d2] => { results := [.lit (.bool false)], args := [d1, d2] }
  | _ => none }
def FnExactAroundWrongFalsely : Prop := fnExactAroundRow.holds Try.pinned (OpenSpec.ofChange fnExactAroundWrong)

/-- 'laws.FnExactBegin': WHATEVER THE INPUT: true; the input reads as it did. -/
def fnExactBeginSpec : ChangeSpec := { name := "fnExactBegin", fn := fun _ => fun
  | [d] => { results := [.lit (.bool true)], args := [d] }
  | _ => none }
def fnExactBeginRow : OpenClaim := { program := "ytpdnabhpkdchjaa", sum := "18ab5b6e5b6e71990b272a15e2bbadf1df5d01c11563fb7271f00cfbc12cd07b", func := "loop.example/treadle/laws.FnExactBegin", spec := "fnExactBegin", unfollowed := true, recurses := true, apart := false }
def FnExactBeginSaid : Prop := fnExactBeginRow.holds Try.pinned (OpenSpec.ofChange fnExactBeginSpec)

/-- ITS FALSE NEIGHBOUR: 'it returns false'. Refute it at one input. -/
def fnExactBeginWrong : ChangeSpec := { name := "fnExactBegin", fn := fun _ => fun
  | [d] => { results := [.lit (.bool false)], args := [d] }
  | _ => none }
def FnExactBeginWrongFalsely : Prop := fnExactBeginRow.holds Try.pinned (OpenSpec.ofChange fnExactBeginWrong)

/-- 'laws.FnExactHonest': WHATEVER THE INPUT: true; the input reads as it did. -/
def fnExactHonestSpec : ChangeSpec := { name := "fnExactHonest", fn := fun _ => fun
  | [d1, d2] => { results := [.lit (.bool true)], args := [d1, d2] }
  | _ => none }
def fnExactHonestRow : OpenClaim := { program := "ytpdnabhpkdchjaa", sum := "18ab5b6e5b6e71990b272a15e2bbadf1df5d01c11563fb7271f00cfbc12cd07b", func := "loop.example/treadle/laws.FnExactHonest", spec := "fnExactHonest", unfollowed := true, recurses := true, apart := false }
def FnExactHonestSaid : Prop := fnExactHonestRow.holds Try.pinned (OpenSpec.ofChange fnExactHonestSpec)

/-- ITS FALSE NEIGHBOUR: 'it returns false'. Refute it at one input. -/
def fnExactHonestWrong : ChangeSpec := { name := "fnExactHonest", fn := fun _ => fun
  | [d1, d2] => { results := [.lit (.bool false)], args := [d1, d2] }
  | _ => none }
def FnExactHonestWrongFalsely : Prop := fnExactHonestRow.holds Try.pinned (OpenSpec.ofChange fnExactHonestWrong)

/-- 'laws.FnSpoilt': WHATEVER THE INPUT: true; the input reads as it did. -/
def fnSpoiltSpec : ChangeSpec := { name := "fnSpoilt", fn := fun _ => fun
  | [d] => { results := [.lit (.bool true)], args := [d] }
  | _ => none }
def fnSpoiltRow : OpenClaim := { program := "ytpdnabhpkdchjaa", sum := "18ab5b6e5b6e71990b272a15e2bbadf1df5d01c11563fb7271f00cfbc12cd07b", func := "loop.example/treadle/laws.FnSpoilt", spec := "fnSpoilt", unfollowed := true, recurses := true, apart := false }
def FnSpoiltSaid : Prop := fnSpoiltRow.holds Try.pinned (OpenSpec.ofChange fnSpoiltSpec)

/-- ITS FALSE NEIGHBOUR: 'it returns false'. Refute it at one input. -/
def fnSpoiltWrong : ChangeSpec := { name := "fnSpoilt", fn := fun _ => fun
  | [d] => { results := [.lit (.bool false)], args := [d] }
  | _ => none }
def FnSpoiltWrongFalsely : Prop := fnSpoiltRow.holds Try.pinned (OpenSpec.ofChange fnSpoiltWrong)

/-- 'laws.FnExactStateOk': WHATEVER THE INPUT: true; the input reads as it did. -/
def fnExactStateOkSpec : ChangeSpec := { name := "fnExactStateOk", fn := fun _ => fun
  | [d1, d2] => { results := [.lit (.bool true)], args := [d1, d2] }
  | _ => none }
def fnExactStateOkRow : OpenClaim := { program := "ytpdnabhpkdchjaa", sum := "18ab5b6e5b6e71990b272a15e2bbadf1df5d01c11563fb7271f00cfbc12cd07b", func := "loop.example/treadle/laws.FnExactStateOk", spec := "fnExactStateOk", unfollowed := true, recurses := true, apart := false }
def FnExactStateOkSaid : Prop := fnExactStateOkRow.holds Try.pinned (OpenSpec.ofChange fnExactStateOkSpec)

/-- ITS FALSE NEIGHBOUR: 'it returns false'. Refute it at one input. -/
def fnExactStateOkWrong : ChangeSpec := { name := "fnExactStateOk", fn := fun _ => fun
  | [d1, d2] => { results := [.lit (.bool false)], args := [d1, d2] }
  | _ => none }
def FnExactStateOkWrongFalsely : Prop := fnExactStateOkRow.holds Try.pinned (OpenSpec.ofChange fnExactStateOkWrong)

/-- 'laws.FnExactTruth': WHATEVER THE INPUT: true; the input reads as it did. -/
def fnExactTruthSpec : ChangeSpec := { name := "fnExactTruth", fn := fun _ => fun
  | [d1, d2] => { results := [.lit (.bool true)], args := [d1, d2] }
  | _ => none }
def fnExactTruthRow : OpenClaim := { program := "ytpdnabhpkdchjaa", sum := "18ab5b6e5b6e71990b272a15e2bbadf1df5d01c11563fb7271f00cfbc12cd07b", func := "loop.example/treadle/laws.FnExactTruth", spec := "fnExactTruth", unfollowed := true, recurses := true, apart := false }
def FnExactTruthSaid : Prop := fnExactTruthRow.holds Try.pinned (OpenSpec.ofChange fnExactTruthSpec)

/-- ITS FALSE NEIGHBOUR: 'it returns false'. Refute it at one input. -/
def fnExactTruthWrong : ChangeSpec := { name := "fnExactTruth", fn := fun _ => fun
  | [d1, d2] => { results := [.lit (.bool false)], args := [d1, d2] }
  | _ => none }
def FnExactTruthWrongFalsely : Prop := fnExactTruthRow.holds Try.pinned (OpenSpec.ofChange fnExactTruthWrong)

/-- 'laws.FnJust': WHATEVER THE INPUT: true; the input reads as it did. -/
def fnJustSpec : ChangeSpec := { name := "fnJust", fn := fun _ => fun
  | [d] => { results := [.lit (.bool true)], args := [d] }
  | _ => none }
def fnJustRow : OpenClaim := { program := "ytpdnabhpkdchjaa", sum := "18ab5b6e5b6e71990b272a15e2bbadf1df5d01c11563fb7271f00cfbc12cd07b", func := "loop.example/treadle/laws.FnJust", spec := "fnJust", unfollowed := true, recurses := true, apart := false }
def FnJustSaid : Prop := fnJustRow.holds Try.pinned (OpenSpec.ofChange fnJustSpec)

/-- ITS FALSE NEIGHBOUR: 'it returns false'. Refute it at one input. -/
def fnJustWrong : ChangeSpec := { name := "fnJust", fn := fun _ => fun
  | [d] => { results := [.lit (.bool false)], args := [d] }
  | _ => none }
def FnJustWrongFalsely : Prop := fnJustRow.holds Try.pinned (OpenSpec.ofChange fnJustWrong)

/-- 'laws.FnSafe': WHATEVER THE INPUT: true; the input reads as it did. -/
def fnSafeSpec : ChangeSpec := { name := "fnSafe", fn := fun _ => fun
  | [d] => { results := [.lit (.bool true)], args := [d] }
  | _ => none }
def fnSafeRow : OpenClaim := { program := "ytpdnabhpkdchjaa", sum := "18ab5b6e5b6e71990b272a15e2bbadf1df5d01c11563fb7271f00cfbc12cd07b", func := "loop.example/treadle/laws.FnSafe", spec := "fnSafe", unfollowed := true, recurses := true, apart := false }
def FnSafeSaid : Prop := fnSafeRow.holds Try.pinned (OpenSpec.ofChange fnSafeSpec)

/-- ITS FALSE NEIGHBOUR: 'it returns false'. Refute it at one input. -/
def fnSafeWrong : ChangeSpec := { name := "fnSafe", fn := fun _ => fun
  | [d] => { results := [.lit (.bool false)], args := [d] }
  | _ => none }
def FnSafeWrongFalsely : Prop := fnSafeRow.holds Try.pinned (OpenSpec.ofChange fnSafeWrong)

/-- 'laws.FnSwap': WHATEVER THE INPUT: true; the input reads as it did. -/
def fnSwapSpec : ChangeSpec := { name := "fnSwap", fn := fun _ => fun
  | [d1, d2] => { results := [.lit (.bool true)], args := [d1, d2] }
  | _ => none }
def fnSwapRow : OpenClaim := { program := "ytpdnabhpkdchjaa", sum := "18ab5b6e5b6e71990b272a15e2bbadf1df5d01c11563fb7271f00cfbc12cd07b", func := "loop.example/treadle/laws.FnSwap", spec := "fnSwap", unfollowed := true, recurses := true, apart := false }
def FnSwapSaid : Prop := fnSwapRow.holds Try.pinned (OpenSpec.ofChange fnSwapSpec)

/-- ITS FALSE NEIGHBOUR: 'it returns false'. Refute it at one input. -/
def fnSwapWrong : ChangeSpec := { name := "fnSwap", fn := fun _ => fun
  | [d1, d2] => { results := [.lit (.bool false)], args := [d1, d2] }
  | _ => none }
def FnSwapWrongFalsely : Prop := fnSwapRow.holds Try.pinned (OpenSpec.ofChange fnSwapWrong)

/-- 'laws.FnExactGaps': WHATEVER THE INPUT: true; the input reads as it did. -/
def fnExactGapsSpec : ChangeSpec := { name := "fnExactGaps", fn := fun _ => fun
  | [d1, d2] => { results := [.lit (.bool true)], args := [d1, d2] }
  | _ => none }
def fnExactGapsRow : OpenClaim := { program := "ytpdnabhpkdchjaa", sum := "18ab5b6e5b6e71990b272a15e2bbadf1df5d01c11563fb7271f00cfbc12cd07b", func := "loop.example/treadle/laws.FnExactGaps", spec := "fnExactGaps", unfollowed := true, recurses := true, apart := false }
def FnExactGapsSaid : Prop := fnExactGapsRow.holds Try.pinned (OpenSpec.ofChange fnExactGapsSpec)

/-- ITS FALSE NEIGHBOUR: 'it returns false'. Refute it at one input. -/
def fnExactGapsWrong : ChangeSpec := { name := "fnExactGaps", fn := fun _ => fun
  | [d1, d2] => { results := [.lit (.bool false)], args := [d1, d2] }
  | _ => none }
def FnExactGapsWrongFalsely : Prop := fnExactGapsRow.holds Try.pinned (OpenSpec.ofChange fnExactGapsWrong)

/-- 'laws.FnExactDo': WHATEVER THE INPUT: true; the input reads as it did. -/
def fnExactDoSpec : ChangeSpec := { name := "fnExactDo", fn := fun _ => fun
  | [d1, d2, d3] => { results := [.lit (.bool true)], args := [d1, d2, d3] }
  | _ => none }
def fnExactDoRow : OpenClaim := { program := "ytpdnabhpkdchjaa", sum := "18ab5b6e5b6e71990b272a15e2bbadf1df5d01c11563fb7271f00cfbc12cd07b", func := "loop.example/treadle/laws.FnExactDo", spec := "fnExactDo", unfollowed := true, recurses := true, apart := false }
def FnExactDoSaid : Prop := fnExactDoRow.holds Try.pinned (OpenSpec.ofChange fnExactDoSpec)

/-- ITS FALSE NEIGHBOUR: 'it returns false'. Refute it at one input. -/
def fnExactDoWrong : ChangeSpec := { name := "fnExactDo", fn := fun _ => fun
  | [d1, d2, d3] => { results := [.lit (.bool false)], args := [d1, d2, d3] }
  | _ => none }
def FnExactDoWrongFalsely : Prop := fnExactDoRow.holds Try.pinned (OpenSpec.ofChange fnExactDoWrong)

/-- 'laws.FnTrain': WHATEVER THE INPUT: true; the input reads as it did. -/
def fnTrainSpec : ChangeSpec := { name := "fnTrain", fn := fun _ => fun
  | [d] => { results := [.lit (.bool true)], args := [d] }
  | _ => none }
def fnTrainRow : OpenClaim := { program := "ytpdnabhpkdchjaa", sum := "18ab5b6e5b6e71990b272a15e2bbadf1df5d01c11563fb7271f00cfbc12cd07b", func := "loop.example/treadle/laws.FnTrain", spec := "fnTrain", unfollowed := true, recurses := true, apart := false }
def FnTrainSaid : Prop := fnTrainRow.holds Try.pinned (OpenSpec.ofChange fnTrainSpec)

/-- ITS FALSE NEIGHBOUR: 'it returns false'. Refute it at one input. -/
def fnTrainWrong : ChangeSpec := { name := "fnTrain", fn := fun _ => fun
  | [d] => { results := [.lit (.bool false)], args := [d] }
  | _ => none }
def FnTrainWrongFalsely : Prop := fnTrainRow.holds Try.pinned (OpenSpec.ofChange fnTrainWrong)

/-- 'laws.FnExactRun': WHATEVER THE INPUT: true; the input reads as it did. -/
def fnExactRunSpec : ChangeSpec := { name := "fnExactRun", fn := fun _ => fun
  | [d1, d2] => { results := [.lit (.bool true)], args := [d1, d2] }
  | _ => none }
def fnExactRunRow : OpenClaim := { program := "ytpdnabhpkdchjaa", sum := "18ab5b6e5b6e71990b272a15e2bbadf1df5d01c11563fb7271f00cfbc12cd07b", func := "loop.example/treadle/laws.FnExactRun", spec := "fnExactRun", unfollowed := true, recurses := true, apart := false }
def FnExactRunSaid : Prop := fnExactRunRow.holds Try.pinned (OpenSpec.ofChange fnExactRunSpec)

/-- ITS FALSE NEIGHBOUR: 'it returns false'. Refute it at one input. -/
def fnExactRunWrong : ChangeSpec := { name := "fnExactRun", fn := fun _ => fun
  | [d1, d2] => { results := [.lit (.bool false)], args := [d1, d2] }
  | _ => none }
def FnExactRunWrongFalsely : Prop := fnExactRunRow.holds Try.pinned (OpenSpec.ofChange fnExactRunWrong)

/-- 'laws.FnExactPassing': WHATEVER THE INPUT: true; the input reads as it did. -/
def fnExactPassingSpec : ChangeSpec := { name := "fnExactPassing", fn := fun _ => fun
  | [d1, d2, d3, d4, d5] => { results := [.lit (.bool true)], args := [d1, d2, d3, d4, d5] }
  | _ => none }
def fnExactPassingRow : OpenClaim := { program := "ytpdnabhpkdchjaa", sum := "18ab5b6e5b6e71990b272a15e2bbadf1df5d01c11563fb7271f00cfbc12cd07b", func := "loop.example/treadle/laws.FnExactPassing", spec := "fnExactPassing", unfollowed := true, recurses := true, apart := false }
def FnExactPassingSaid : Prop := fnExactPassingRow.holds Try.pinned (OpenSpec.ofChange fnExactPassingSpec)

/-- ITS FALSE NEIGHBOUR: 'it returns false'. Refute it at one input. -/
def fnExactPassingWrong : ChangeSpec := { name := "fnExactPassing", fn := fun _ => fun
  | [d1, d2, d3, d4, d5] => { results := [.lit (.bool false)], args := [d1, d2, d3, d4, d5] }
  | _ => none }
def FnExactPassingWrongFalsely : Prop := fnExactPassingRow.holds Try.pinned (OpenSpec.ofChange fnExactPassingWrong)

/-- 'laws.FnSweep': WHATEVER THE INPUT: true; the input reads as it did. -/
def fnSweepSpec : ChangeSpec := { name := "fnSweep", fn := fun _ => fun
  | [d] => { results := [.lit (.bool true)], args := [d] }
  | _ => none }
def fnSweepRow : OpenClaim := { program := "ytpdnabhpkdchjaa", sum := "18ab5b6e5b6e71990b272a15e2bbadf1df5d01c11563fb7271f00cfbc12cd07b", func := "loop.example/treadle/laws.FnSweep", spec := "fnSweep", unfollowed := true, recurses := true, apart := false }
def FnSweepSaid : Prop := fnSweepRow.holds Try.pinned (OpenSpec.ofChange fnSweepSpec)

/-- ITS FALSE NEIGHBOUR: 'it returns false'. Refute it at one input. -/
def fnSweepWrong : ChangeSpec := { name := "fnSweep", fn := fun _ => fun
  | [d] => { results := [.lit (.bool false)], args := [d] }
  | _ => none }
def FnSweepWrongFalsely : Prop := fnSweepRow.holds Try.pinned (OpenSpec.ofChange fnSweepWrong)

/- THE SECOND FORM. 'bulk': how many values and letters a reading holds, each counted each time it is reached (what is shared counts as often as it is met; a slice's spare places count too). A statement '..UptoSaid' is the law's where the arguments, and the package variables that the reading takes, are together of bulk at most 1048576: NARROWER than '..Said'. Prove '..Said' where nothing that the law and all that it calls make is longer than what came in: it says more and counts as full. Else prove '..UptoSaid'. A law counts once. -/
mutual
def uptoBulk {H : Type} : DataW H → Nat
  | .lit (.string bytes) => bytes.length + 1
  | .lit _ => 1
  | .nil => 1
  | .ptr d => uptoBulk d + 1
  | .slice elems spare => uptoBulkAll elems + uptoBulkAll spare + 1
  | .agg parts => uptoBulkAll parts + 1
  | .iface _ d => uptoBulk d + 1
  | .map entries => uptoBulkEntries entries + 1
  | .held _ => 1
def uptoBulkAll {H : Type} : List (DataW H) → Nat
  | [] => 0
  | d :: r => uptoBulk d + uptoBulkAll r
def uptoBulkEntries {H : Type} : List (Lit × DataW H) → Nat
  | [] => 0
  | x :: r => uptoBulkEntry x + uptoBulkEntries r
def uptoBulkEntry {H : Type} : Lit × DataW H → Nat
  | (.string bytes, d) => bytes.length + uptoBulk d + 1
  | (_, d) => uptoBulk d + 1
 end
def uptoSmall : (H : Type) → List (DataW H) → Bool := fun _ ds => decide (uptoBulkAll ds ≤ 1048576)
def OpenSpec.upto (s : _root_.Go.ChangeSpec) : _root_.Go.OpenSpec := { _root_.Go.OpenSpec.ofChange s with cond := some uptoSmall }

/-- 'laws.FnExactConstants', WHERE WHAT IT READS IS OF BULK AT MOST 1048576: true; the input reads as it did. -/
def fnExactConstantsUptoRow : OpenClaim := { program := "ytpdnabhpkdchjaa", sum := "18ab5b6e5b6e71990b272a15e2bbadf1df5d01c11563fb7271f00cfbc12cd07b", func := "loop.example/treadle/laws.FnExactConstants", spec := "fnExactConstants", apart := false, narrowed := true }
def FnExactConstantsUptoSaid : Prop := fnExactConstantsUptoRow.holds Try.pinned (OpenSpec.upto fnExactConstantsSpec)

/-- 'laws.FnExactLayoutOk', WHERE WHAT IT READS IS OF BULK AT MOST 1048576: true; the input reads as it did. -/
def fnExactLayoutOkUptoRow : OpenClaim := { program := "ytpdnabhpkdchjaa", sum := "18ab5b6e5b6e71990b272a15e2bbadf1df5d01c11563fb7271f00cfbc12cd07b", func := "loop.example/treadle/laws.FnExactLayoutOk", spec := "fnExactLayoutOk", unfollowed := true, recurses := true, apart := false, narrowed := true }
def FnExactLayoutOkUptoSaid : Prop := fnExactLayoutOkUptoRow.holds Try.pinned (OpenSpec.upto fnExactLayoutOkSpec)

/-- 'laws.FnTop', WHERE WHAT IT READS IS OF BULK AT MOST 1048576: true; the input reads as it did. -/
def fnTopUptoRow : OpenClaim := { program := "ytpdnabhpkdchjaa", sum := "18ab5b6e5b6e71990b272a15e2bbadf1df5d01c11563fb7271f00cfbc12cd07b", func := "loop.example/treadle/laws.FnTop", spec := "fnTop", unfollowed := true, recurses := true, apart := false, narrowed := true }
def FnTopUptoSaid : Prop := fnTopUptoRow.holds Try.pinned (OpenSpec.upto fnTopSpec)

/-- 'laws.FnExactEventOk', WHERE WHAT IT READS IS OF BULK AT MOST 1048576: true; the input reads as it did. -/
def fnExactEventOkUptoRow : OpenClaim := { program := "ytpdnabhpkdchjaa", sum := "18ab5b6e5b6e71990b272a15e2bbadf1df5d01c11563fb7271f00cfbc12cd07b", func := "loop.example/treadle/laws.FnExactEventOk", spec := "fnExactEventOk", unfollowed := true, recurses := true, apart := false, narrowed := true }
def FnExactEventOkUptoSaid : Prop := fnExactEventOkUptoRow.holds Try.pinned (OpenSpec.upto fnExactEventOkSpec)

/-- 'laws.FnExactAround', WHERE WHAT IT READS IS OF BULK AT MOST 1048576: true; the input reads as it did. -/
def fnExactAroundUptoRow : OpenClaim := { program := "ytpdnabhpkdchjaa", sum := "18ab5b6e5b6e71990b272a15e2bbadf1df5d01c11563fb7271f00cfbc12cd07b", func := "loop.example/treadle/laws.FnExactAround", spec := "fnExactAround", unfollowed := true, recurses := true, apart := false, narrowed := true }
def FnExactAroundUptoSaid : Prop := fnExactAroundUptoRow.holds Try.pinned (OpenSpec.upto fnExactAroundSpec)

/-- 'laws.FnExactBegin', WHERE WHAT IT READS IS OF BULK AT MOST 1048576: true; the input reads as it did. -/
def fnExactBeginUptoRow : OpenClaim := { program := "ytpdnabhpkdchjaa", sum := "18ab5b6e5b6e71990b272a15e2bbadf1df5d01c11563fb7271f00cfbc12cd07b", func := "loop.example/treadle/laws.FnExactBegin", spec := "fnExactBegin", unfollowed := true, recurses := true, apart := false, narrowed := true }
def FnExactBeginUptoSaid : Prop := fnExactBeginUptoRow.holds Try.pinned (OpenSpec.upto fnExactBeginSpec)

/-- 'laws.FnExactHonest', WHERE WHAT IT READS IS OF BULK AT MOST 1048576: true; the input reads as it did. -/
def fnExactHonestUptoRow : OpenClaim := { program := "ytpdnabhpkdchjaa", sum := "18ab5b6e5b6e71990b272a15e2bbadf1df5d01c11563fb7271f00cfbc12cd07b", func := "loop.example/treadle/laws.FnExactHonest", spec := "fnExactHonest", unfollowed := true, recurses := true, apart := false, narrowed := true }
def FnExactHonestUptoSaid : Prop := fnExactHonestUptoRow.holds Try.pinned (OpenSpec.upto fnExactHonestSpec)

/-- 'laws.FnSpoilt', WHERE WHAT IT READS IS OF BULK AT MOST 1048576: true; the input reads as it did. -/
def fnSpoiltUptoRow : OpenClaim := { program := "ytpdnabhpkdchjaa", sum := "18ab5b6e5b6e71990b272a15e2bbadf1df5d01c11563fb7271f00cfbc12cd07b", func := "loop.example/treadle/laws.FnSpoilt", spec := "fnSpoilt", unfollowed := true, recurses := true, apart := false, narrowed := true }
def FnSpoiltUptoSaid : Prop := fnSpoiltUptoRow.holds Try.pinned (OpenSpec.upto fnSpoiltSpec)

/-- 'laws.FnExactStateOk', WHERE WHAT IT READS IS OF BULK AT MOST 1048576: true; the input reads as it did. -/
def fnExactStateOkUptoRow : OpenClaim := { program := "ytpdnabhpkdchjaa", sum := "18ab5b6e5b6e71990b272a15e2bbadf1df5d01c11563fb7271f00cfbc12cd07b", func := "loop.example/treadle/laws.FnExactStateOk", spec := "fnExactStateOk", unfollowed := true, recurses := true, apart := false, narrowed := true }
def FnExactStateOkUptoSaid : Prop := fnExactStateOkUptoRow.holds Try.pinned (OpenSpec.upto fnExactStateOkSpec)

/-- 'laws.FnExactTruth', WHERE WHAT IT READS IS OF BULK AT MOST 1048576: true; the input reads as it did. -/
def fnExactTruthUptoRow : OpenClaim := { program := "ytpdnabhpkdchjaa", sum := "18ab5b6e5b6e71990b272a15e2bbadf1df5d01c11563fb7271f00cfbc12cd07b", func := "loop.example/treadle/laws.FnExactTruth", spec := "fnExactTruth", unfollowed := true, recurses := true, apart := false, narrowed := true }
def FnExactTruthUptoSaid : Prop := fnExactTruthUptoRow.holds Try.pinned (OpenSpec.upto fnExactTruthSpec)

/-- 'laws.FnJust', WHERE WHAT IT READS IS OF BULK AT MOST 1048576: true; the input reads as it did. -/
def fnJustUptoRow : OpenClaim := { program := "ytpdnabhpkdchjaa", sum := "18ab5b6e5b6e71990b272a15e2bbadf1df5d01c11563fb7271f00cfbc12cd07b", func := "loop.example/treadle/laws.FnJust", spec := "fnJust", unfollowed := true, recurses := true, apart := false, narrowed := true }
def FnJustUptoSaid : Prop := fnJustUptoRow.holds Try.pinned (OpenSpec.upto fnJustSpec)

/-- 'laws.FnSafe', WHERE WHAT IT READS IS OF BULK AT MOST 1048576: true; the input reads as it did. -/
def fnSafeUptoRow : OpenClaim := { program := "ytpdnabhpkdchjaa", sum := "18ab5b6e5b6e71990b272a15e2bbadf1df5d01c11563fb7271f00cfbc12cd07b", func := "loop.example/treadle/laws.FnSafe", spec := "fnSafe", unfollowed := true, recurses := true, apart := false, narrowed := true }
def FnSafeUptoSaid : Prop := fnSafeUptoRow.holds Try.pinned (OpenSpec.upto fnSafeSpec)

/-- 'laws.FnSwap', WHERE WHAT IT READS IS OF BULK AT MOST 1048576: true; the input reads as it did. -/
def fnSwapUptoRow : OpenClaim := { program := "ytpdnabhpkdchjaa", sum := "18ab5b6e5b6e71990b272a15e2bbadf1df5d01c11563fb7271f00cfbc12cd07b", func := "loop.example/treadle/laws.FnSwap", spec := "fnSwap", unfollowed := true, recurses := true, apart := false, narrowed := true }
def FnSwapUptoSaid : Prop := fnSwapUptoRow.holds Try.pinned (OpenSpec.upto fnSwapSpec)

/-- 'laws.FnExactGaps', WHERE WHAT IT READS IS OF BULK AT MOST 1048576: true; the input reads as it did. -/
def fnExactGapsUptoRow : OpenClaim := { program := "ytpdnabhpkdchjaa", sum := "18ab5b6e5b6e71990b272a15e2bbadf1df5d01c11563fb7271f00cfbc12cd07b", func := "loop.example/treadle/laws.FnExactGaps", spec := "fnExactGaps", unfollowed := true, recurses := true, apart := false, narrowed := true }
def FnExactGapsUptoSaid : Prop := fnExactGapsUptoRow.holds Try.pinned (OpenSpec.upto fnExactGapsSpec)

/-- 'laws.FnExactDo', WHERE WHAT IT READS IS OF BULK AT MOST 1048576: true; the input reads as it did. -/
def fnExactDoUptoRow : OpenClaim := { program := "ytpdnabhpkdchjaa", sum := "18ab5b6e5b6e71990b272a15e2bbadf1df5d01c11563fb7271f00cfbc12cd07b", func := "loop.example/treadle/laws.FnExactDo", spec := "fnExactDo", unfollowed := true, recurses := true, apart := false, narrowed := true }
def FnExactDoUptoSaid : Prop := fnExactDoUptoRow.holds Try.pinned (OpenSpec.upto fnExactDoSpec)

/-- 'laws.FnTrain', WHERE WHAT IT READS IS OF BULK AT MOST 1048576: true; the input reads as it did. -/
def fnTrainUptoRow : OpenClaim := { program := "ytpdnabhpkdchjaa", sum := "18ab5b6e5b6e71990b272a15e2bbadf1df5d01c11563fb7271f00cfbc12cd07b", func := "loop.example/treadle/laws.FnTrain", spec := "fnTrain", unfollowed := true, recurses := true, apart := false, narrowed := true }
def FnTrainUptoSaid : Prop := fnTrainUptoRow.holds Try.pinned (OpenSpec.upto fnTrainSpec)

/-- 'laws.FnExactRun', WHERE WHAT IT READS IS OF BULK AT MOST 1048576: true; the input reads as it did. -/
def fnExactRunUptoRow : OpenClaim := { program := "ytpdnabhpkdchjaa", sum := "18ab5b6e5b6e71990b272a15e2bbadf1df5d01c11563fb7271f00cfbc12cd07b", func := "loop.example/treadle/laws.FnExactRun", spec := "fnExactRun", unfollowed := true, recurses := true, apart := false, narrowed := true }
def FnExactRunUptoSaid : Prop := fnExactRunUptoRow.holds Try.pinned (OpenSpec.upto fnExactRunSpec)

/-- 'laws.FnExactPassing', WHERE WHAT IT READS IS OF BULK AT MOST 1048576: true; the input reads as it did. -/
def fnExactPassingUptoRow : OpenClaim := { program := "ytpdnabhpkdchjaa", sum := "18ab5b6e5b6e71990b272a15e2bbadf1df5d01c11563fb7271f00cfbc12cd07b", func := "loop.example/treadle/laws.FnExactPassing", spec := "fnExactPassing", unfollowed := true, recurses := true, apart := false, narrowed := true }
def FnExactPassingUptoSaid : Prop := fnExactPassingUptoRow.holds Try.pinned (OpenSpec.upto fnExactPassingSpec)

/-- 'laws.FnSweep', WHERE WHAT IT READS IS OF BULK AT MOST 1048576: true; the input reads as it did. -/
def fnSweepUptoRow : OpenClaim := { program := "ytpdnabhpkdchjaa", sum := "18ab5b6e5b6e71990b272a15e2bbadf1df5d01c11563fb7271f00cfbc12cd07b", func := "loop.example/treadle/laws.FnSweep", spec := "fnSweep", unfollowed := true, recurses := true, apart := false, narrowed := true }
def FnSweepUptoSaid : Prop := fnSweepUptoRow.holds Try.pinned (OpenSpec.upto fnSweepSpec)

end Rows
end Go.Proofs.Ytpdnabhpkdchjaa
