/-
  No cell of these rows narrows 'for every input' (looked for: loops, veiled, ifaces, maps, wideKeys, modest, calm, conditions, laid).
  DERIVED. THE GIVEN ROWS OF THIS SEAT. 11 by the template 'for every input the law returns true; each argument reads behind the call as it read before'; 0 by the template 'total and deterministic' (their statements: YtabfdgpldcegiaaTotals.lean).
  GIVEN WITH THE SEED: the statements are not yours to turn. If you find one false, say at which input.
  Laid BY PROGRAM, IN A SANDBOX (cutbox-rows.mjs): the forced cells as the released guide's own fill.sh prints them over the translation b2e718d1bd0c2336… (all of the seat's roots in one cut). By AI agents, Wed Nov 11 2026. No macro, syntax, notation, axiom, sorry.
-/
import Derived.Test.YtabfdgpldcegiaaChecked
import GoSem.Claim
import GoSem.ClaimJoined
import GoSem.ClaimMapViews
import Derived.JoinedTies
import Derived.KernelRfl
namespace Go.Proofs.Ytabfdgpldcegiaa
/- THE CELL 'sum', in the pinned program and in every row, IS THE sha256 OF THE DUMP (.gsa) THAT YtabfdgpldcegiaaProg.lean LOADS. Nothing in Lean hashes anything: it is a label: what it is worth is what the hold of that sum in a sandbox is worth. -/
noncomputable def Try.pinned : Pinned := { name := "ytabfdgpldcegiaa", sum := "b2e718d1bd0c2336d05aaf77d42fa4342a1eced45d7e5c079d77c0b3631703c4", checked := Try.checked }
namespace Rows
def none {H : Type} : Left H := { results := [], args := [] }

/-- 'laws.FnSilence': WHATEVER THE INPUT: true; the input reads as it did. -/
def fnSilenceSpec : ChangeSpec := { name := "fnSilence", fn := fun _ => fun
  | [d1, d2] => { results := [.lit (.bool true)], args := [d1, d2] }
  | _ => none }
def fnSilenceRow : OpenClaim := { program := "ytabfdgpldcegiaa", sum := "b2e718d1bd0c2336d05aaf77d42fa4342a1eced45d7e5c079d77c0b3631703c4", func := "loop.example/g01173/laws.FnSilence", spec := "fnSilence", inPlace := ["math.archFloor", "math.Float64bits", "math.Float64frombits", "math.archTrunc", "math.Float32bits", "math.Float32frombits"], unfollowed := true, recurses := true, apart := false }
def FnSilenceSaid : Prop := fnSilenceRow.holds Try.pinned (OpenSpec.ofChange fnSilenceSpec)

/-- ITS FALSE NEIGHBOUR: 'it returns false'. Refute it at one input. -/
def fnSilenceWrong : ChangeSpec := { name := "fnSilence", fn := fun _ => fun
  | [d1, d2] => { results := [.lit (.bool false)], args := [d1, d2] }
  | _ => none }
def FnSilenceWrongFalsely : Prop := fnSilenceRow.holds Try.pinned (OpenSpec.ofChange fnSilenceWrong)

/-- 'laws.FnExactNoiseString': WHATEVER THE INPUT: true; the input reads as it did. -/
def fnExactNoiseStringSpec : ChangeSpec := { name := "fnExactNoiseString", fn := fun _ => fun
  | [d1, d2, d3] => { results := [.lit (.bool true)], args := [d1, d2, d3] }
  | _ => none }
def fnExactNoiseStringRow : OpenClaim := { program := "ytabfdgpldcegiaa", sum := "b2e718d1bd0c2336d05aaf77d42fa4342a1eced45d7e5c079d77c0b3631703c4", func := "loop.example/g01173/laws.FnExactNoiseString", spec := "fnExactNoiseString", inPlace := ["math.Float32bits"], unfollowed := true, recurses := true, apart := false }
def FnExactNoiseStringSaid : Prop := fnExactNoiseStringRow.holds Try.pinned (OpenSpec.ofChange fnExactNoiseStringSpec)

/-- ITS FALSE NEIGHBOUR: 'it returns false'. Refute it at one input. -/
def fnExactNoiseStringWrong : ChangeSpec := { name := "fnExactNoiseString", fn := fun _ => fun
  | [d1, d2, d3] => { results := [.lit (.bool false)], args := [d1, d2, d3] }
  | _ => none }
def FnExactNoiseStringWrongFalsely : Prop := fnExactNoiseStringRow.holds Try.pinned (OpenSpec.ofChange fnExactNoiseStringWrong)

/-- 'laws.FnExactPluckString': WHATEVER THE INPUT: true; the input reads as it did. -/
def fnExactPluckStringSpec : ChangeSpec := { name := "fnExactPluckString", fn := fun _ => fun
  | [d1, d2, d3] => { results := [.lit (.bool true)], args := [d1, d2, d3] }
  | _ => none }
def fnExactPluckStringRow : OpenClaim := { program := "ytabfdgpldcegiaa", sum := "b2e718d1bd0c2336d05aaf77d42fa4342a1eced45d7e5c079d77c0b3631703c4", func := "loop.example/g01173/laws.FnExactPluckString", spec := "fnExactPluckString", inPlace := ["math.Float32bits"], unfollowed := true, recurses := true, apart := false }
def FnExactPluckStringSaid : Prop := fnExactPluckStringRow.holds Try.pinned (OpenSpec.ofChange fnExactPluckStringSpec)

/-- ITS FALSE NEIGHBOUR: 'it returns false'. Refute it at one input. -/
def fnExactPluckStringWrong : ChangeSpec := { name := "fnExactPluckString", fn := fun _ => fun
  | [d1, d2, d3] => { results := [.lit (.bool false)], args := [d1, d2, d3] }
  | _ => none }
def FnExactPluckStringWrongFalsely : Prop := fnExactPluckStringRow.holds Try.pinned (OpenSpec.ofChange fnExactPluckStringWrong)

/-- 'laws.FnBridges': WHATEVER THE INPUT: true; the input reads as it did. -/
def fnBridgesSpec : ChangeSpec := { name := "fnBridges", fn := fun _ => fun
  | [d1, d2] => { results := [.lit (.bool true)], args := [d1, d2] }
  | _ => none }
def fnBridgesRow : OpenClaim := { program := "ytabfdgpldcegiaa", sum := "b2e718d1bd0c2336d05aaf77d42fa4342a1eced45d7e5c079d77c0b3631703c4", func := "loop.example/g01173/laws.FnBridges", spec := "fnBridges", inPlace := ["math.Float32bits", "math.Float32frombits", "math.Float64bits", "math.Float64frombits"], unfollowed := true, recurses := true, apart := false }
def FnBridgesSaid : Prop := fnBridgesRow.holds Try.pinned (OpenSpec.ofChange fnBridgesSpec)

/-- ITS FALSE NEIGHBOUR: 'it returns false'. Refute it at one input. -/
def fnBridgesWrong : ChangeSpec := { name := "fnBridges", fn := fun _ => fun
  | [d1, d2] => { results := [.lit (.bool false)], args := [d1, d2] }
  | _ => none }
def FnBridgesWrongFalsely : Prop := fnBridgesRow.holds Try.pinned (OpenSpec.ofChange fnBridgesWrong)

/-- 'laws.FnExactStepString': WHATEVER THE INPUT: true; the input reads as it did. -/
def fnExactStepStringSpec : ChangeSpec := { name := "fnExactStepString", fn := fun _ => fun
  | [d1, d2] => { results := [.lit (.bool true)], args := [d1, d2] }
  | _ => none }
def fnExactStepStringRow : OpenClaim := { program := "ytabfdgpldcegiaa", sum := "b2e718d1bd0c2336d05aaf77d42fa4342a1eced45d7e5c079d77c0b3631703c4", func := "loop.example/g01173/laws.FnExactStepString", spec := "fnExactStepString", inPlace := ["math.Float32bits", "math.Float32frombits", "math.Float64bits", "math.Float64frombits"], apart := false }
def FnExactStepStringSaid : Prop := fnExactStepStringRow.holds Try.pinned (OpenSpec.ofChange fnExactStepStringSpec)

/-- ITS FALSE NEIGHBOUR: 'it returns false'. Refute it at one input. -/
def fnExactStepStringWrong : ChangeSpec := { name := "fnExactStepString", fn := fun _ => fun
  | [d1, d2] => { results := [.lit (.bool false)], args := [d1, d2] }
  | _ => none }
def FnExactStepStringWrongFalsely : Prop := fnExactStepStringRow.holds Try.pinned (OpenSpec.ofChange fnExactStepStringWrong)

/-- 'laws.FnExactStrikeString': WHATEVER THE INPUT: true; the input reads as it did. -/
def fnExactStrikeStringSpec : ChangeSpec := { name := "fnExactStrikeString", fn := fun _ => fun
  | [d1, d2, d3] => { results := [.lit (.bool true)], args := [d1, d2, d3] }
  | _ => none }
def fnExactStrikeStringRow : OpenClaim := { program := "ytabfdgpldcegiaa", sum := "b2e718d1bd0c2336d05aaf77d42fa4342a1eced45d7e5c079d77c0b3631703c4", func := "loop.example/g01173/laws.FnExactStrikeString", spec := "fnExactStrikeString", inPlace := ["math.Float32bits", "math.archFloor", "math.Float64bits", "math.Float64frombits", "math.archTrunc"], unfollowed := true, recurses := true, apart := false }
def FnExactStrikeStringSaid : Prop := fnExactStrikeStringRow.holds Try.pinned (OpenSpec.ofChange fnExactStrikeStringSpec)

/-- ITS FALSE NEIGHBOUR: 'it returns false'. Refute it at one input. -/
def fnExactStrikeStringWrong : ChangeSpec := { name := "fnExactStrikeString", fn := fun _ => fun
  | [d1, d2, d3] => { results := [.lit (.bool false)], args := [d1, d2, d3] }
  | _ => none }
def FnExactStrikeStringWrongFalsely : Prop := fnExactStrikeStringRow.holds Try.pinned (OpenSpec.ofChange fnExactStrikeStringWrong)

/-- 'laws.FnExactPlayString': WHATEVER THE INPUT: true; the input reads as it did. -/
def fnExactPlayStringSpec : ChangeSpec := { name := "fnExactPlayString", fn := fun _ => fun
  | [d1, d2] => { results := [.lit (.bool true)], args := [d1, d2] }
  | _ => none }
def fnExactPlayStringRow : OpenClaim := { program := "ytabfdgpldcegiaa", sum := "b2e718d1bd0c2336d05aaf77d42fa4342a1eced45d7e5c079d77c0b3631703c4", func := "loop.example/g01173/laws.FnExactPlayString", spec := "fnExactPlayString", inPlace := ["math.Float32bits", "math.Float32frombits", "math.Float64bits", "math.Float64frombits"], apart := false }
def FnExactPlayStringSaid : Prop := fnExactPlayStringRow.holds Try.pinned (OpenSpec.ofChange fnExactPlayStringSpec)

/-- ITS FALSE NEIGHBOUR: 'it returns false'. Refute it at one input. -/
def fnExactPlayStringWrong : ChangeSpec := { name := "fnExactPlayString", fn := fun _ => fun
  | [d1, d2] => { results := [.lit (.bool false)], args := [d1, d2] }
  | _ => none }
def FnExactPlayStringWrongFalsely : Prop := fnExactPlayStringRow.holds Try.pinned (OpenSpec.ofChange fnExactPlayStringWrong)

/-- 'laws.FnExactStepsToSilence': WHATEVER THE INPUT: true; the input reads as it did. -/
def fnExactStepsToSilenceSpec : ChangeSpec := { name := "fnExactStepsToSilence", fn := fun _ => fun
  | [d1, d2] => { results := [.lit (.bool true)], args := [d1, d2] }
  | _ => none }
def fnExactStepsToSilenceRow : OpenClaim := { program := "ytabfdgpldcegiaa", sum := "b2e718d1bd0c2336d05aaf77d42fa4342a1eced45d7e5c079d77c0b3631703c4", func := "loop.example/g01173/laws.FnExactStepsToSilence", spec := "fnExactStepsToSilence", inPlace := ["math.Float32bits", "math.Float32frombits", "math.Float64bits", "math.Float64frombits"], unfollowed := true, recurses := true, apart := false }
def FnExactStepsToSilenceSaid : Prop := fnExactStepsToSilenceRow.holds Try.pinned (OpenSpec.ofChange fnExactStepsToSilenceSpec)

/-- ITS FALSE NEIGHBOUR: 'it returns false'. Refute it at one input. -/
def fnExactStepsToSilenceWrong : ChangeSpec := { name := "fnExactStepsToSilence", fn := fun _ => fun
  | [d1, d2] => { results := [.lit (.bool false)], args := [d1, d2] }
  | _ => none }
def FnExactStepsToSilenceWrongFalsely : Prop := fnExactStepsToSilenceRow.holds Try.pinned (OpenSpec.ofChange fnExactStepsToSilenceWrong)

/-- 'laws.FnExactBlockOfString': WHATEVER THE INPUT: true; the input reads as it did. -/
def fnExactBlockOfStringSpec : ChangeSpec := { name := "fnExactBlockOfString", fn := fun _ => fun
  | [d1, d2] => { results := [.lit (.bool true)], args := [d1, d2] }
  | _ => none }
def fnExactBlockOfStringRow : OpenClaim := { program := "ytabfdgpldcegiaa", sum := "b2e718d1bd0c2336d05aaf77d42fa4342a1eced45d7e5c079d77c0b3631703c4", func := "loop.example/g01173/laws.FnExactBlockOfString", spec := "fnExactBlockOfString", inPlace := ["math.Float32bits", "math.Float32frombits", "math.Float64bits", "math.Float64frombits"], unfollowed := true, recurses := true, apart := false }
def FnExactBlockOfStringSaid : Prop := fnExactBlockOfStringRow.holds Try.pinned (OpenSpec.ofChange fnExactBlockOfStringSpec)

/-- ITS FALSE NEIGHBOUR: 'it returns false'. Refute it at one input. -/
def fnExactBlockOfStringWrong : ChangeSpec := { name := "fnExactBlockOfString", fn := fun _ => fun
  | [d1, d2] => { results := [.lit (.bool false)], args := [d1, d2] }
  | _ => none }
def FnExactBlockOfStringWrongFalsely : Prop := fnExactBlockOfStringRow.holds Try.pinned (OpenSpec.ofChange fnExactBlockOfStringWrong)

/-- 'laws.FnTuned': WHATEVER THE INPUT: true; the input reads as it did. -/
def fnTunedSpec : ChangeSpec := { name := "fnTuned", fn := fun _ => fun
  | [d1, d2] => { results := [.lit (.bool true)], args := [d1, d2] }
  | _ => none }
def fnTunedRow : OpenClaim := { program := "ytabfdgpldcegiaa", sum := "b2e718d1bd0c2336d05aaf77d42fa4342a1eced45d7e5c079d77c0b3631703c4", func := "loop.example/g01173/laws.FnTuned", spec := "fnTuned", inPlace := ["math.archFloor", "math.Float64bits", "math.Float64frombits", "math.archTrunc", "math.Float32bits"], unfollowed := true, recurses := true, apart := false }
def FnTunedSaid : Prop := fnTunedRow.holds Try.pinned (OpenSpec.ofChange fnTunedSpec)

/-- ITS FALSE NEIGHBOUR: 'it returns false'. Refute it at one input. -/
def fnTunedWrong : ChangeSpec := { name := "fnTuned", fn := fun _ => fun
  | [d1, d2] => { results := [.lit (.bool false)], args := [d1, d2] }
  | _ => none }
def FnTunedWrongFalsely : Prop := fnTunedRow.holds Try.pinned (OpenSpec.ofChange fnTunedWrong)

/-- 'laws.FnExactStepBridge': WHATEVER THE INPUT: true; the input reads as it did. -/
def fnExactStepBridgeSpec : ChangeSpec := { name := "fnExactStepBridge", fn := fun _ => fun
  | [d1, d2, d3] => { results := [.lit (.bool true)], args := [d1, d2, d3] }
  | _ => none }
def fnExactStepBridgeRow : OpenClaim := { program := "ytabfdgpldcegiaa", sum := "b2e718d1bd0c2336d05aaf77d42fa4342a1eced45d7e5c079d77c0b3631703c4", func := "loop.example/g01173/laws.FnExactStepBridge", spec := "fnExactStepBridge", inPlace := ["math.Float32bits", "math.Float32frombits", "math.Float64bits", "math.Float64frombits"], unfollowed := true, recurses := true, apart := false }
def FnExactStepBridgeSaid : Prop := fnExactStepBridgeRow.holds Try.pinned (OpenSpec.ofChange fnExactStepBridgeSpec)

/-- ITS FALSE NEIGHBOUR: 'it returns false'. Refute it at one input. -/
def fnExactStepBridgeWrong : ChangeSpec := { name := "fnExactStepBridge", fn := fun _ => fun
  | [d1, d2, d3] => { results := [.lit (.bool false)], args := [d1, d2, d3] }
  | _ => none }
def FnExactStepBridgeWrongFalsely : Prop := fnExactStepBridgeRow.holds Try.pinned (OpenSpec.ofChange fnExactStepBridgeWrong)

/- THE SECOND FORM. 'bulk': how many values and letters a reading holds, each counted each time it is reached (what is shared counts as often as it is met; a slice's spare places count too). A statement '..UptoSaid' is the law's where the arguments, and the package variables that the reading takes, are together of bulk at most 1048576: NARROWER than '..Said'. Prove '..Said' where nothing that the law and all that it calls make is longer than what came in: it says more and counts as full. Else prove '..UptoSaid'. A law counts once. -/
mutual
def uptoBulk {H : Type} : DataW H → Nat
  | .lit (.string bytes) => bytes.length + 1
  | .lit _ => 1
  | .nil => 1
  | .ptr d => uptoBulk d + 1
  | .slice elems spare => uptoBulkAll elems + uptoBulkAll spare + 1
  | .agg parts => uptoBulkAll parts + 1
  | .iface _ d => uptoBulk d + 1
  | .map entries => uptoBulkEntries entries + 1
  | .held _ => 1
def uptoBulkAll {H : Type} : List (DataW H) → Nat
  | [] => 0
  | d :: r => uptoBulk d + uptoBulkAll r
def uptoBulkEntries {H : Type} : List (Lit × DataW H) → Nat
  | [] => 0
  | x :: r => uptoBulkEntry x + uptoBulkEntries r
def uptoBulkEntry {H : Type} : Lit × DataW H → Nat
  | (.string bytes, d) => bytes.length + uptoBulk d + 1
  | (_, d) => uptoBulk d + 1
 end
def uptoSmall : (H : Type) → List (DataW H) → Bool := fun _ ds => decide (uptoBulkAll ds ≤ 1048576)
def OpenSpec.upto (s : _root_.Go.ChangeSpec) : _root_.Go.OpenSpec := { _root_.Go.OpenSpec.ofChange s with cond := some uptoSmall }

/-- 'laws.FnSilence', WHERE WHAT IT READS IS OF BULK AT MOST 1048576: true; the input reads as it did. -/
def fnSilenceUptoRow : OpenClaim := { program := "ytabfdgpldcegiaa", sum := "b2e718d1bd0c2336d05aaf77d42fa4342a1eced45d7e5c079d77c0b3631703c4", func := "loop.example/g01173/laws.FnSilence", spec := "fnSilence", inPlace := ["math.archFloor", "math.Float64bits", "math.Float64frombits", "math.archTrunc", "math.Float32bits", "math.Float32frombits"], unfollowed := true, recurses := true, apart := false, narrowed := true }
def FnSilenceUptoSaid : Prop := fnSilenceUptoRow.holds Try.pinned (OpenSpec.upto fnSilenceSpec)

/-- 'laws.FnExactNoiseString', WHERE WHAT IT READS IS OF BULK AT MOST 1048576: true; the input reads as it did. -/
def fnExactNoiseStringUptoRow : OpenClaim := { program := "ytabfdgpldcegiaa", sum := "b2e718d1bd0c2336d05aaf77d42fa4342a1eced45d7e5c079d77c0b3631703c4", func := "loop.example/g01173/laws.FnExactNoiseString", spec := "fnExactNoiseString", inPlace := ["math.Float32bits"], unfollowed := true, recurses := true, apart := false, narrowed := true }
def FnExactNoiseStringUptoSaid : Prop := fnExactNoiseStringUptoRow.holds Try.pinned (OpenSpec.upto fnExactNoiseStringSpec)

/-- 'laws.FnExactPluckString', WHERE WHAT IT READS IS OF BULK AT MOST 1048576: true; the input reads as it did. -/
def fnExactPluckStringUptoRow : OpenClaim := { program := "ytabfdgpldcegiaa", sum := "b2e718d1bd0c2336d05aaf77d42fa4342a1eced45d7e5c079d77c0b3631703c4", func := "loop.example/g01173/laws.FnExactPluckString", spec := "fnExactPluckString", inPlace := ["math.Float32bits"], unfollowed := true, recurses := true, apart := false, narrowed := true }
def FnExactPluckStringUptoSaid : Prop := fnExactPluckStringUptoRow.holds Try.pinned (OpenSpec.upto fnExactPluckStringSpec)

/-- 'laws.FnBridges', WHERE WHAT IT READS IS OF BULK AT MOST 1048576: true; the input reads as it did. -/
def fnBridgesUptoRow : OpenClaim := { program := "ytabfdgpldcegiaa", sum := "b2e718d1bd0c2336d05aaf77d42fa4342a1eced45d7e5c079d77c0b3631703c4", func := "loop.example/g01173/laws.FnBridges", spec := "fnBridges", inPlace := ["math.Float32bits", "math.Float32frombits", "math.Float64bits", "math.Float64frombits"], unfollowed := true, recurses := true, apart := false, narrowed := true }
def FnBridgesUptoSaid : Prop := fnBridgesUptoRow.holds Try.pinned (OpenSpec.upto fnBridgesSpec)

/-- 'laws.FnExactStepString', WHERE WHAT IT READS IS OF BULK AT MOST 1048576: true; the input reads as it did. -/
def fnExactStepStringUptoRow : OpenClaim := { program := "ytabfdgpldcegiaa", sum := "b2e718d1bd0c2336d05aaf77d42fa4342a1eced45d7e5c079d77c0b3631703c4", func := "loop.example/g01173/laws.FnExactStepString", spec := "fnExactStepString", inPlace := ["math.Float32bits", "math.Float32frombits", "math.Float64bits", "math.Float64frombits"], apart := false, narrowed := true }
def FnExactStepStringUptoSaid : Prop := fnExactStepStringUptoRow.holds Try.pinned (OpenSpec.upto fnExactStepStringSpec)

/-- 'laws.FnExactStrikeString', WHERE WHAT IT READS IS OF BULK AT MOST 1048576: true; the input reads as it did. -/
def fnExactStrikeStringUptoRow : OpenClaim := { program := "ytabfdgpldcegiaa", sum := "b2e718d1bd0c2336d05aaf77d42fa4342a1eced45d7e5c079d77c0b3631703c4", func := "loop.example/g01173/laws.FnExactStrikeString", spec := "fnExactStrikeString", inPlace := ["math.Float32bits", "math.archFloor", "math.Float64bits", "math.Float64frombits", "math.archTrunc"], unfollowed := true, recurses := true, apart := false, narrowed := true }
def FnExactStrikeStringUptoSaid : Prop := fnExactStrikeStringUptoRow.holds Try.pinned (OpenSpec.upto fnExactStrikeStringSpec)

/-- 'laws.FnExactPlayString', WHERE WHAT IT READS IS OF BULK AT MOST 1048576: true; the input reads as it did. -/
def fnExactPlayStringUptoRow : OpenClaim := { program := "ytabfdgpldcegiaa", sum := "b2e718d1bd0c2336d05aaf77d42fa4342a1eced45d7e5c079d77c0b3631703c4", func := "loop.example/g01173/laws.FnExactPlayString", spec := "fnExactPlayString", inPlace := ["math.Float32bits", "math.Float32frombits", "math.Float64bits", "math.Float64frombits"], apart := false, narrowed := true }
def FnExactPlayStringUptoSaid : Prop := fnExactPlayStringUptoRow.holds Try.pinned (OpenSpec.upto fnExactPlayStringSpec)

/-- 'laws.FnExactStepsToSilence', WHERE WHAT IT READS IS OF BULK AT MOST 1048576: true; the input reads as it did. -/
def fnExactStepsToSilenceUptoRow : OpenClaim := { program := "ytabfdgpldcegiaa", sum := "b2e718d1bd0c2336d05aaf77d42fa4342a1eced45d7e5c079d77c0b3631703c4", func := "loop.example/g01173/laws.FnExactStepsToSilence", spec := "fnExactStepsToSilence", inPlace := ["math.Float32bits", "math.Float32frombits", "math.Float64bits", "math.Float64frombits"], unfollowed := true, recurses := true, apart := false, narrowed := true }
def FnExactStepsToSilenceUptoSaid : Prop := fnExactStepsToSilenceUptoRow.holds Try.pinned (OpenSpec.upto fnExactStepsToSilenceSpec)

/-- 'laws.FnExactBlockOfString', WHERE WHAT IT READS IS OF BULK AT MOST 1048576: true; the input reads as it did. -/
def fnExactBlockOfStringUptoRow : OpenClaim := { program := "ytabfdgpldcegiaa", sum := "b2e718d1bd0c2336d05aaf77d42fa4342a1eced45d7e5c079d77c0b3631703c4", func := "loop.example/g01173/laws.FnExactBlockOfString", spec := "fnExactBlockOfString", inPlace := ["math.Float32bits", "math.Float32frombits", "math.Float64bits", "math.Float64frombits"], unfollowed := true, recurses := true, apart := false, narrowed := true }
def FnExactBlockOfStringUptoSaid : Prop := fnExactBlockOfStringUptoRow.holds Try.pinned (OpenSpec.upto fnExactBlockOfStringSpec)

/-- 'laws.FnTuned', WHERE WHAT IT READS IS OF BULK AT MOST 1048576: true; the input reads as it did. -/
def fnTunedUptoRow : OpenClaim := { program := "ytabfdgpldcegiaa", sum := "b2e718d1bd0c2336d05aaf77d42fa4342a1eced45d7e5c079d77c0b3631703c4", func := "loop.example/g01173/laws.FnTuned", spec := "fnTuned", inPlace := ["math.archFloor", "math.Float64bits", "math.Float64frombits", "math.archTrunc", "math.Float32bits"], unfollowed := true, recurses := true, apart := false, narrowed := true }
def FnTunedUptoSaid : Prop := fnTunedUptoRow.holds Try.pinned (OpenSpec.upto fnTunedSpec)

/-- 'laws.FnExactStepBridge', WHERE WHAT IT READS IS OF BULK AT MOST 1048576: true; the input reads as it did. -/
def fnExactStepBridgeUptoRow : OpenClaim := { program := "ytabfdgpldcegiaa", sum := "b2e718d1bd0c2336d05aaf77d42fa4342a1eced45d7e5c079d77c0b3631703c4", func := "loop.example/g01173/laws.FnExactStepBridge", spec := "fnExactStepBridge", inPlace := ["math.Float32bits", "math.Float32frombits", "math.Float64bits", "math.Float64frombits"], unfollowed := true, recurses := true, apart := false, narrowed := true }
def FnExactStepBridgeUptoSaid : Prop := fnExactStepBridgeUptoRow.holds Try.pinned (OpenSpec.upto fnExactStepBridgeSpec)

end Rows
end Go.Proofs.Ytabfdgpldcegiaa
