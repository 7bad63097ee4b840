/-
  No cell of these rows narrows 'for every input' (looked for: loops, veiled, ifaces, maps, wideKeys, modest, calm, conditions, laid).
  DERIVED. THE GIVEN ROWS OF THIS SEAT. 10 by the template 'for every input the law returns true; each argument reads behind the call as it read before'; 0 by the template 'total and deterministic' (their statements: YtnahhdnkbbdceaaTotals.lean).
  GIVEN WITH THE SEED: the statements are not yours to turn. If you find one false, say at which input.
  Laid BY PROGRAM, IN A SANDBOX (cutbox-rows.mjs): the forced cells as the released guide's own fill.sh prints them over the translation 6ef945e8f108dc4f… (all of the seat's roots in one cut). By AI agents, Wed Nov 11 2026. No macro, syntax, notation, axiom, sorry.
-/
import Derived.Test.YtnahhdnkbbdceaaChecked
import GoSem.Claim
import GoSem.ClaimJoined
import GoSem.ClaimMapViews
import Derived.JoinedTies
import Derived.KernelRfl
namespace Go.Proofs.Ytnahhdnkbbdceaa
/- THE CELL 'sum', in the pinned program and in every row, IS THE sha256 OF THE DUMP (.gsa) THAT YtnahhdnkbbdceaaProg.lean LOADS. Nothing in Lean hashes anything: it is a label: what it is worth is what the hold of that sum in a sandbox is worth. -/
noncomputable def Try.pinned : Pinned := { name := "ytnahhdnkbbdceaa", sum := "6ef945e8f108dc4f07d9a5a5e917c2d58e6f22bed421d32021142e6ad6bc9e61", checked := Try.checked }
namespace Rows
def none {H : Type} : Left H := { results := [], args := [] }

/-- 'laws.FnPipeSilence': WHATEVER THE INPUT: true; the input reads as it did. -/
def fnPipeSilenceSpec : ChangeSpec := { name := "fnPipeSilence", fn := fun _ => fun
  | [d1, d2] => { results := [.lit (.bool true)], args := [d1, d2] }
  | _ => none }
def fnPipeSilenceRow : OpenClaim := { program := "ytnahhdnkbbdceaa", sum := "6ef945e8f108dc4f07d9a5a5e917c2d58e6f22bed421d32021142e6ad6bc9e61", func := "loop.example/g01173/laws.FnPipeSilence", spec := "fnPipeSilence", inPlace := ["math.Float32bits", "math.Float32frombits", "math.Float64bits", "math.Float64frombits"], unfollowed := true, recurses := true, apart := false }
def FnPipeSilenceSaid : Prop := fnPipeSilenceRow.holds Try.pinned (OpenSpec.ofChange fnPipeSilenceSpec)

/-- ITS FALSE NEIGHBOUR: 'it returns false'. Refute it at one input. -/
def fnPipeSilenceWrong : ChangeSpec := { name := "fnPipeSilence", fn := fun _ => fun
  | [d1, d2] => { results := [.lit (.bool false)], args := [d1, d2] }
  | _ => none }
def FnPipeSilenceWrongFalsely : Prop := fnPipeSilenceRow.holds Try.pinned (OpenSpec.ofChange fnPipeSilenceWrong)

/-- 'laws.FnNotScattered': WHATEVER THE INPUT: true; the input reads as it did. -/
def fnNotScatteredSpec : ChangeSpec := { name := "fnNotScattered", fn := fun _ => fun
  | [d1, d2] => { results := [.lit (.bool true)], args := [d1, d2] }
  | _ => none }
def fnNotScatteredRow : OpenClaim := { program := "ytnahhdnkbbdceaa", sum := "6ef945e8f108dc4f07d9a5a5e917c2d58e6f22bed421d32021142e6ad6bc9e61", func := "loop.example/g01173/laws.FnNotScattered", spec := "fnNotScattered", inPlace := ["math.Float32bits", "math.Float64bits", "math.Float64frombits", "math.Float32frombits"], unfollowed := true, recurses := true, apart := false }
def FnNotScatteredSaid : Prop := fnNotScatteredRow.holds Try.pinned (OpenSpec.ofChange fnNotScatteredSpec)

/-- ITS FALSE NEIGHBOUR: 'it returns false'. Refute it at one input. -/
def fnNotScatteredWrong : ChangeSpec := { name := "fnNotScattered", fn := fun _ => fun
  | [d1, d2] => { results := [.lit (.bool false)], args := [d1, d2] }
  | _ => none }
def FnNotScatteredWrongFalsely : Prop := fnNotScatteredRow.holds Try.pinned (OpenSpec.ofChange fnNotScatteredWrong)

/-- 'laws.FnExactWithReed': WHATEVER THE INPUT: true; the input reads as it did. -/
def fnExactWithReedSpec : ChangeSpec := { name := "fnExactWithReed", fn := fun _ => fun
  | [d1, d2, d3] => { results := [.lit (.bool true)], args := [d1, d2, d3] }
  | _ => none }
def fnExactWithReedRow : OpenClaim := { program := "ytnahhdnkbbdceaa", sum := "6ef945e8f108dc4f07d9a5a5e917c2d58e6f22bed421d32021142e6ad6bc9e61", func := "loop.example/g01173/laws.FnExactWithReed", spec := "fnExactWithReed", inPlace := ["math.Float32bits"], unfollowed := true, recurses := true, apart := false }
def FnExactWithReedSaid : Prop := fnExactWithReedRow.holds Try.pinned (OpenSpec.ofChange fnExactWithReedSpec)

/-- ITS FALSE NEIGHBOUR: 'it returns false'. Refute it at one input. -/
def fnExactWithReedWrong : ChangeSpec := { name := "fnExactWithReed", fn := fun _ => fun
  | [d1, d2, d3] => { results := [.lit (.bool false)], args := [d1, d2, d3] }
  | _ => none }
def FnExactWithReedWrongFalsely : Prop := fnExactWithReedRow.holds Try.pinned (OpenSpec.ofChange fnExactWithReedWrong)

/-- 'laws.FnExactMutePipe': WHATEVER THE INPUT: true; the input reads as it did. -/
def fnExactMutePipeSpec : ChangeSpec := { name := "fnExactMutePipe", fn := fun _ => fun
  | [d] => { results := [.lit (.bool true)], args := [d] }
  | _ => none }
def fnExactMutePipeRow : OpenClaim := { program := "ytnahhdnkbbdceaa", sum := "6ef945e8f108dc4f07d9a5a5e917c2d58e6f22bed421d32021142e6ad6bc9e61", func := "loop.example/g01173/laws.FnExactMutePipe", spec := "fnExactMutePipe", inPlace := ["math.Float32bits"], unfollowed := true, recurses := true, apart := false }
def FnExactMutePipeSaid : Prop := fnExactMutePipeRow.holds Try.pinned (OpenSpec.ofChange fnExactMutePipeSpec)

/-- ITS FALSE NEIGHBOUR: 'it returns false'. Refute it at one input. -/
def fnExactMutePipeWrong : ChangeSpec := { name := "fnExactMutePipe", fn := fun _ => fun
  | [d] => { results := [.lit (.bool false)], args := [d] }
  | _ => none }
def FnExactMutePipeWrongFalsely : Prop := fnExactMutePipeRow.holds Try.pinned (OpenSpec.ofChange fnExactMutePipeWrong)

/-- 'laws.FnPulse': WHATEVER THE INPUT: true; the input reads as it did. -/
def fnPulseSpec : ChangeSpec := { name := "fnPulse", fn := fun _ => fun
  | [d1, d2] => { results := [.lit (.bool true)], args := [d1, d2] }
  | _ => none }
def fnPulseRow : OpenClaim := { program := "ytnahhdnkbbdceaa", sum := "6ef945e8f108dc4f07d9a5a5e917c2d58e6f22bed421d32021142e6ad6bc9e61", func := "loop.example/g01173/laws.FnPulse", spec := "fnPulse", inPlace := ["math.Float32bits", "math.Float32frombits", "math.Float64bits", "math.Float64frombits"], unfollowed := true, recurses := true, apart := false }
def FnPulseSaid : Prop := fnPulseRow.holds Try.pinned (OpenSpec.ofChange fnPulseSpec)

/-- ITS FALSE NEIGHBOUR: 'it returns false'. Refute it at one input. -/
def fnPulseWrong : ChangeSpec := { name := "fnPulse", fn := fun _ => fun
  | [d1, d2] => { results := [.lit (.bool false)], args := [d1, d2] }
  | _ => none }
def FnPulseWrongFalsely : Prop := fnPulseRow.holds Try.pinned (OpenSpec.ofChange fnPulseWrong)

/-- 'laws.FnExactPulsePipe': WHATEVER THE INPUT: true; the input reads as it did. -/
def fnExactPulsePipeSpec : ChangeSpec := { name := "fnExactPulsePipe", fn := fun _ => fun
  | [d1, d2, d3, d4] => { results := [.lit (.bool true)], args := [d1, d2, d3, d4] }
  | _ => none }
def fnExactPulsePipeRow : OpenClaim := { program := "ytnahhdnkbbdceaa", sum := "6ef945e8f108dc4f07d9a5a5e917c2d58e6f22bed421d32021142e6ad6bc9e61", func := "loop.example/g01173/laws.FnExactPulsePipe", spec := "fnExactPulsePipe", inPlace := ["math.Float32bits", "math.Float32frombits", "math.Float64bits", "math.Float64frombits"], unfollowed := true, recurses := true, apart := false }
def FnExactPulsePipeSaid : Prop := fnExactPulsePipeRow.holds Try.pinned (OpenSpec.ofChange fnExactPulsePipeSpec)

/-- ITS FALSE NEIGHBOUR: 'it returns false'. Refute it at one input. -/
def fnExactPulsePipeWrong : ChangeSpec := { name := "fnExactPulsePipe", fn := fun _ => fun
  | [d1, d2, d3, d4] => { results := [.lit (.bool false)], args := [d1, d2, d3, d4] }
  | _ => none }
def FnExactPulsePipeWrongFalsely : Prop := fnExactPulsePipeRow.holds Try.pinned (OpenSpec.ofChange fnExactPulsePipeWrong)

/-- 'laws.FnPipeBlocks': WHATEVER THE INPUT: true; the input reads as it did. -/
def fnPipeBlocksSpec : ChangeSpec := { name := "fnPipeBlocks", fn := fun _ => fun
  | [d1, d2] => { results := [.lit (.bool true)], args := [d1, d2] }
  | _ => none }
def fnPipeBlocksRow : OpenClaim := { program := "ytnahhdnkbbdceaa", sum := "6ef945e8f108dc4f07d9a5a5e917c2d58e6f22bed421d32021142e6ad6bc9e61", func := "loop.example/g01173/laws.FnPipeBlocks", spec := "fnPipeBlocks", inPlace := ["math.Float32bits", "math.Float32frombits", "math.Float64bits", "math.Float64frombits"], unfollowed := true, recurses := true, apart := false }
def FnPipeBlocksSaid : Prop := fnPipeBlocksRow.holds Try.pinned (OpenSpec.ofChange fnPipeBlocksSpec)

/-- ITS FALSE NEIGHBOUR: 'it returns false'. Refute it at one input. -/
def fnPipeBlocksWrong : ChangeSpec := { name := "fnPipeBlocks", fn := fun _ => fun
  | [d1, d2] => { results := [.lit (.bool false)], args := [d1, d2] }
  | _ => none }
def FnPipeBlocksWrongFalsely : Prop := fnPipeBlocksRow.holds Try.pinned (OpenSpec.ofChange fnPipeBlocksWrong)

/-- 'laws.FnExactStepPipe': WHATEVER THE INPUT: true; the input reads as it did. -/
def fnExactStepPipeSpec : ChangeSpec := { name := "fnExactStepPipe", fn := fun _ => fun
  | [d1, d2] => { results := [.lit (.bool true)], args := [d1, d2] }
  | _ => none }
def fnExactStepPipeRow : OpenClaim := { program := "ytnahhdnkbbdceaa", sum := "6ef945e8f108dc4f07d9a5a5e917c2d58e6f22bed421d32021142e6ad6bc9e61", func := "loop.example/g01173/laws.FnExactStepPipe", spec := "fnExactStepPipe", inPlace := ["math.Float32bits", "math.Float32frombits", "math.Float64bits", "math.Float64frombits"], unfollowed := true, recurses := true, apart := false }
def FnExactStepPipeSaid : Prop := fnExactStepPipeRow.holds Try.pinned (OpenSpec.ofChange fnExactStepPipeSpec)

/-- ITS FALSE NEIGHBOUR: 'it returns false'. Refute it at one input. -/
def fnExactStepPipeWrong : ChangeSpec := { name := "fnExactStepPipe", fn := fun _ => fun
  | [d1, d2] => { results := [.lit (.bool false)], args := [d1, d2] }
  | _ => none }
def FnExactStepPipeWrongFalsely : Prop := fnExactStepPipeRow.holds Try.pinned (OpenSpec.ofChange fnExactStepPipeWrong)

/-- 'laws.FnExactStepsToSilentPipe': WHATEVER THE INPUT: true; the input reads as it did. -/
def fnExactStepsToSilentPipeSpec : ChangeSpec := { name := "fnExactStepsToSilentPipe", fn := fun _ => fun
  | [d1, d2] => { results := [.lit (.bool true)], args := [d1, d2] }
  | _ => none }
def fnExactStepsToSilentPipeRow : OpenClaim := { program := "ytnahhdnkbbdceaa", sum := "6ef945e8f108dc4f07d9a5a5e917c2d58e6f22bed421d32021142e6ad6bc9e61", func := "loop.example/g01173/laws.FnExactStepsToSilentPipe", spec := "fnExactStepsToSilentPipe", inPlace := ["math.Float32bits", "math.Float32frombits", "math.Float64bits", "math.Float64frombits"], unfollowed := true, recurses := true, apart := false }
def FnExactStepsToSilentPipeSaid : Prop := fnExactStepsToSilentPipeRow.holds Try.pinned (OpenSpec.ofChange fnExactStepsToSilentPipeSpec)

/-- ITS FALSE NEIGHBOUR: 'it returns false'. Refute it at one input. -/
def fnExactStepsToSilentPipeWrong : ChangeSpec := { name := "fnExactStepsToSilentPipe", fn := fun _ => fun
  | [d1, d2] => { results := [.lit (.bool false)], args := [d1, d2] }
  | _ => none }
def FnExactStepsToSilentPipeWrongFalsely : Prop := fnExactStepsToSilentPipeRow.holds Try.pinned (OpenSpec.ofChange fnExactStepsToSilentPipeWrong)

/-- 'laws.FnExactPlayPipe': WHATEVER THE INPUT: true; the input reads as it did. -/
def fnExactPlayPipeSpec : ChangeSpec := { name := "fnExactPlayPipe", fn := fun _ => fun
  | [d1, d2] => { results := [.lit (.bool true)], args := [d1, d2] }
  | _ => none }
def fnExactPlayPipeRow : OpenClaim := { program := "ytnahhdnkbbdceaa", sum := "6ef945e8f108dc4f07d9a5a5e917c2d58e6f22bed421d32021142e6ad6bc9e61", func := "loop.example/g01173/laws.FnExactPlayPipe", spec := "fnExactPlayPipe", inPlace := ["math.Float32bits", "math.Float32frombits", "math.Float64bits", "math.Float64frombits"], unfollowed := true, recurses := true, apart := false }
def FnExactPlayPipeSaid : Prop := fnExactPlayPipeRow.holds Try.pinned (OpenSpec.ofChange fnExactPlayPipeSpec)

/-- ITS FALSE NEIGHBOUR: 'it returns false'. Refute it at one input. -/
def fnExactPlayPipeWrong : ChangeSpec := { name := "fnExactPlayPipe", fn := fun _ => fun
  | [d1, d2] => { results := [.lit (.bool false)], args := [d1, d2] }
  | _ => none }
def FnExactPlayPipeWrongFalsely : Prop := fnExactPlayPipeRow.holds Try.pinned (OpenSpec.ofChange fnExactPlayPipeWrong)

/- THE SECOND FORM. 'bulk': how many values and letters a reading holds, each counted each time it is reached (what is shared counts as often as it is met; a slice's spare places count too). A statement '..UptoSaid' is the law's where the arguments, and the package variables that the reading takes, are together of bulk at most 1048576: NARROWER than '..Said'. Prove '..Said' where nothing that the law and all that it calls make is longer than what came in: it says more and counts as full. Else prove '..UptoSaid'. A law counts once. -/
mutual
def uptoBulk {H : Type} : DataW H → Nat
  | .lit (.string bytes) => bytes.length + 1
  | .lit _ => 1
  | .nil => 1
  | .ptr d => uptoBulk d + 1
  | .slice elems spare => uptoBulkAll elems + uptoBulkAll spare + 1
  | .agg parts => uptoBulkAll parts + 1
  | .iface _ d => uptoBulk d + 1
  | .map entries => uptoBulkEntries entries + 1
  | .held _ => 1
def uptoBulkAll {H : Type} : List (DataW H) → Nat
  | [] => 0
  | d :: r => uptoBulk d + uptoBulkAll r
def uptoBulkEntries {H : Type} : List (Lit × DataW H) → Nat
  | [] => 0
  | x :: r => uptoBulkEntry x + uptoBulkEntries r
def uptoBulkEntry {H : Type} : Lit × DataW H → Nat
  | (.string bytes, d) => bytes.length + uptoBulk d + 1
  | (_, d) => uptoBulk d + 1
 end
def uptoSmall : (H : Type) → List (DataW H) → Bool := fun _ ds => decide (uptoBulkAll ds ≤ 1048576)
def OpenSpec.upto (s : _root_.Go.ChangeSpec) : _root_.Go.OpenSpec := { _root_.Go.OpenSpec.ofChange s with cond := some uptoSmall }

/-- 'laws.FnPipeSilence', WHERE WHAT IT READS IS OF BULK AT MOST 1048576: true; the input reads as it did. -/
def fnPipeSilenceUptoRow : OpenClaim := { program := "ytnahhdnkbbdceaa", sum := "6ef945e8f108dc4f07d9a5a5e917c2d58e6f22bed421d32021142e6ad6bc9e61", func := "loop.example/g01173/laws.FnPipeSilence", spec := "fnPipeSilence", inPlace := ["math.Float32bits", "math.Float32frombits", "math.Float64bits", "math.Float64frombits"], unfollowed := true, recurses := true, apart := false, narrowed := true }
def FnPipeSilenceUptoSaid : Prop := fnPipeSilenceUptoRow.holds Try.pinned (OpenSpec.upto fnPipeSilenceSpec)

/-- 'laws.FnNotScattered', WHERE WHAT IT READS IS OF BULK AT MOST 1048576: true; the input reads as it did. -/
def fnNotScatteredUptoRow : OpenClaim := { program := "ytnahhdnkbbdceaa", sum := "6ef945e8f108dc4f07d9a5a5e917c2d58e6f22bed421d32021142e6ad6bc9e61", func := "loop.example/g01173/laws.FnNotScattered", spec := "fnNotScattered", inPlace := ["math.Float32bits", "math.Float64bits", "math.Float64frombits", "math.Float32frombits"], unfollowed := true, recurses := true, apart := false, narrowed := true }
def FnNotScatteredUptoSaid : Prop := fnNotScatteredUptoRow.holds Try.pinned (OpenSpec.upto fnNotScatteredSpec)

/-- 'laws.FnExactWithReed', WHERE WHAT IT READS IS OF BULK AT MOST 1048576: true; the input reads as it did. -/
def fnExactWithReedUptoRow : OpenClaim := { program := "ytnahhdnkbbdceaa", sum := "6ef945e8f108dc4f07d9a5a5e917c2d58e6f22bed421d32021142e6ad6bc9e61", func := "loop.example/g01173/laws.FnExactWithReed", spec := "fnExactWithReed", inPlace := ["math.Float32bits"], unfollowed := true, recurses := true, apart := false, narrowed := true }
def FnExactWithReedUptoSaid : Prop := fnExactWithReedUptoRow.holds Try.pinned (OpenSpec.upto fnExactWithReedSpec)

/-- 'laws.FnExactMutePipe', WHERE WHAT IT READS IS OF BULK AT MOST 1048576: true; the input reads as it did. -/
def fnExactMutePipeUptoRow : OpenClaim := { program := "ytnahhdnkbbdceaa", sum := "6ef945e8f108dc4f07d9a5a5e917c2d58e6f22bed421d32021142e6ad6bc9e61", func := "loop.example/g01173/laws.FnExactMutePipe", spec := "fnExactMutePipe", inPlace := ["math.Float32bits"], unfollowed := true, recurses := true, apart := false, narrowed := true }
def FnExactMutePipeUptoSaid : Prop := fnExactMutePipeUptoRow.holds Try.pinned (OpenSpec.upto fnExactMutePipeSpec)

/-- 'laws.FnPulse', WHERE WHAT IT READS IS OF BULK AT MOST 1048576: true; the input reads as it did. -/
def fnPulseUptoRow : OpenClaim := { program := "ytnahhdnkbbdceaa", sum := "6ef945e8f108dc4f07d9a5a5e917c2d58e6f22bed421d32021142e6ad6bc9e61", func := "loop.example/g01173/laws.FnPulse", spec := "fnPulse", inPlace := ["math.Float32bits", "math.Float32frombits", "math.Float64bits", "math.Float64frombits"], unfollowed := true, recurses := true, apart := false, narrowed := true }
def FnPulseUptoSaid : Prop := fnPulseUptoRow.holds Try.pinned (OpenSpec.upto fnPulseSpec)

/-- 'laws.FnExactPulsePipe', WHERE WHAT IT READS IS OF BULK AT MOST 1048576: true; the input reads as it did. -/
def fnExactPulsePipeUptoRow : OpenClaim := { program := "ytnahhdnkbbdceaa", sum := "6ef945e8f108dc4f07d9a5a5e917c2d58e6f22bed421d32021142e6ad6bc9e61", func := "loop.example/g01173/laws.FnExactPulsePipe", spec := "fnExactPulsePipe", inPlace := ["math.Float32bits", "math.Float32frombits", "math.Float64bits", "math.Float64frombits"], unfollowed := true, recurses := true, apart := false, narrowed := true }
def FnExactPulsePipeUptoSaid : Prop := fnExactPulsePipeUptoRow.holds Try.pinned (OpenSpec.upto fnExactPulsePipeSpec)

/-- 'laws.FnPipeBlocks', WHERE WHAT IT READS IS OF BULK AT MOST 1048576: true; the input reads as it did. -/
def fnPipeBlocksUptoRow : OpenClaim := { program := "ytnahhdnkbbdceaa", sum := "6ef945e8f108dc4f07d9a5a5e917c2d58e6f22bed421d32021142e6ad6bc9e61", func := "loop.example/g01173/laws.FnPipeBlocks", spec := "fnPipeBlocks", inPlace := ["math.Float32bits", "math.Float32frombits", "math.Float64bits", "math.Float64frombits"], unfollowed := true, recurses := true, apart := false, narrowed := true }
def FnPipeBlocksUptoSaid : Prop := fnPipeBlocksUptoRow.holds Try.pinned (OpenSpec.upto fnPipeBlocksSpec)

/-- 'laws.FnExactStepPipe', WHERE WHAT IT READS IS OF BULK AT MOST 1048576: true; the input reads as it did. -/
def fnExactStepPipeUptoRow : OpenClaim := { program := "ytnahhdnkbbdceaa", sum := "6ef945e8f108dc4f07d9a5a5e917c2d58e6f22bed421d32021142e6ad6bc9e61", func := "loop.example/g01173/laws.FnExactStepPipe", spec := "fnExactStepPipe", inPlace := ["math.Float32bits", "math.Float32frombits", "math.Float64bits", "math.Float64frombits"], unfollowed := true, recurses := true, apart := false, narrowed := true }
def FnExactStepPipeUptoSaid : Prop := fnExactStepPipeUptoRow.holds Try.pinned (OpenSpec.upto fnExactStepPipeSpec)

/-- 'laws.FnExactStepsToSilentPipe', WHERE WHAT IT READS IS OF BULK AT MOST 1048576: true; the input reads as it did. -/
def fnExactStepsToSilentPipeUptoRow : OpenClaim := { program := "ytnahhdnkbbdceaa", sum := "6ef945e8f108dc4f07d9a5a5e917c2d58e6f22bed421d32021142e6ad6bc9e61", func := "loop.example/g01173/laws.FnExactStepsToSilentPipe", spec := "fnExactStepsToSilentPipe", inPlace := ["math.Float32bits", "math.Float32frombits", "math.Float64bits", "math.Float64frombits"], unfollowed := true, recurses := true, apart := false, narrowed := true }
def FnExactStepsToSilentPipeUptoSaid : Prop := fnExactStepsToSilentPipeUptoRow.holds Try.pinned (OpenSpec.upto fnExactStepsToSilentPipeSpec)

/-- 'laws.FnExactPlayPipe', WHERE WHAT IT READS IS OF BULK AT MOST 1048576: true; the input reads as it did. -/
def fnExactPlayPipeUptoRow : OpenClaim := { program := "ytnahhdnkbbdceaa", sum := "6ef945e8f108dc4f07d9a5a5e917c2d58e6f22bed421d32021142e6ad6bc9e61", func := "loop.example/g01173/laws.FnExactPlayPipe", spec := "fnExactPlayPipe", inPlace := ["math.Float32bits", "math.Float32frombits", "math.Float64bits", "math.Float64frombits"], unfollowed := true, recurses := true, apart := false, narrowed := true }
def FnExactPlayPipeUptoSaid : Prop := fnExactPlayPipeUptoRow.holds Try.pinned (OpenSpec.upto fnExactPlayPipeSpec)

end Rows
end Go.Proofs.Ytnahhdnkbbdceaa
