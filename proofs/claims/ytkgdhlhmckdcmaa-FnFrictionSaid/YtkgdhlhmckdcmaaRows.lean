/-
  No cell of these rows narrows 'for every input' (looked for: loops, veiled, ifaces, maps, wideKeys, modest, calm, conditions, laid).
  DERIVED. THE GIVEN ROWS OF THIS SEAT. 9 by the template 'for every input the law returns true; each argument reads behind the call as it read before'; 0 by the template 'total and deterministic' (their statements: YtkgdhlhmckdcmaaTotals.lean).
  GIVEN WITH THE SEED: the statements are not yours to turn. If you find one false, say at which input.
  Laid BY PROGRAM, IN A SANDBOX (cutbox-rows.mjs): the forced cells as the released guide's own fill.sh prints them over the translation 53867c7d7a45522e… (all of the seat's roots in one cut). By AI agents, Wed Nov 11 2026. No macro, syntax, notation, axiom, sorry.
-/
import Derived.Test.YtkgdhlhmckdcmaaChecked
import GoSem.Claim
import GoSem.ClaimJoined
import GoSem.ClaimMapViews
import Derived.JoinedTies
import Derived.KernelRfl
namespace Go.Proofs.Ytkgdhlhmckdcmaa
/- THE CELL 'sum', in the pinned program and in every row, IS THE sha256 OF THE DUMP (.gsa) THAT YtkgdhlhmckdcmaaProg.lean LOADS. Nothing in Lean hashes anything: it is a label: what it is worth is what the hold of that sum in a sandbox is worth. -/
noncomputable def Try.pinned : Pinned := { name := "ytkgdhlhmckdcmaa", sum := "53867c7d7a45522e144b5f6eb6f295ae6c52bc1750f4628bcceeab0b2596fb6d", checked := Try.checked }
namespace Rows
def none {H : Type} : Left H := { results := [], args := [] }

/-- 'laws.FnExactPullBow': WHATEVER THE INPUT: true; the input reads as it did. -/
def fnExactPullBowSpec : ChangeSpec := { name := "fnExactPullBow", fn := fun _ => fun
  | [d1, d2] => { results := [.lit (.bool true)], args := [d1, d2] }
  | _ => none }
def fnExactPullBowRow : OpenClaim := { program := "ytkgdhlhmckdcmaa", sum := "53867c7d7a45522e144b5f6eb6f295ae6c52bc1750f4628bcceeab0b2596fb6d", func := "loop.example/g01173/laws.FnExactPullBow", spec := "fnExactPullBow", inPlace := ["math.Float32bits", "math.Float32frombits", "math.Float64bits", "math.Float64frombits"], unfollowed := true, recurses := true, apart := false }
def FnExactPullBowSaid : Prop := fnExactPullBowRow.holds Try.pinned (OpenSpec.ofChange fnExactPullBowSpec)

/-- ITS FALSE NEIGHBOUR: 'it returns false'. Refute it at one input. -/
def fnExactPullBowWrong : ChangeSpec := { name := "fnExactPullBow", fn := fun _ => fun
  | [d1, d2] => { results := [.lit (.bool false)], args := [d1, d2] }
  | _ => none }
def FnExactPullBowWrongFalsely : Prop := fnExactPullBowRow.holds Try.pinned (OpenSpec.ofChange fnExactPullBowWrong)

/-- 'laws.FnExactSticksAt': WHATEVER THE INPUT: true; the input reads as it did. -/
def fnExactSticksAtSpec : ChangeSpec := { name := "fnExactSticksAt", fn := fun _ => fun
  | [d1, d2] => { results := [.lit (.bool true)], args := [d1, d2] }
  | _ => none }
def fnExactSticksAtRow : OpenClaim := { program := "ytkgdhlhmckdcmaa", sum := "53867c7d7a45522e144b5f6eb6f295ae6c52bc1750f4628bcceeab0b2596fb6d", func := "loop.example/g01173/laws.FnExactSticksAt", spec := "fnExactSticksAt", inPlace := ["math.Float32bits", "math.Float32frombits", "math.Float64bits", "math.Float64frombits"], unfollowed := true, recurses := true, apart := false }
def FnExactSticksAtSaid : Prop := fnExactSticksAtRow.holds Try.pinned (OpenSpec.ofChange fnExactSticksAtSpec)

/-- ITS FALSE NEIGHBOUR: 'it returns false'. Refute it at one input. -/
def fnExactSticksAtWrong : ChangeSpec := { name := "fnExactSticksAt", fn := fun _ => fun
  | [d1, d2] => { results := [.lit (.bool false)], args := [d1, d2] }
  | _ => none }
def FnExactSticksAtWrongFalsely : Prop := fnExactSticksAtRow.holds Try.pinned (OpenSpec.ofChange fnExactSticksAtWrong)

/-- 'laws.FnFriction': WHATEVER THE INPUT: true; the input reads as it did. -/
def fnFrictionSpec : ChangeSpec := { name := "fnFriction", fn := fun _ => fun
  | [d1, d2] => { results := [.lit (.bool true)], args := [d1, d2] }
  | _ => none }
def fnFrictionRow : OpenClaim := { program := "ytkgdhlhmckdcmaa", sum := "53867c7d7a45522e144b5f6eb6f295ae6c52bc1750f4628bcceeab0b2596fb6d", func := "loop.example/g01173/laws.FnFriction", spec := "fnFriction", inPlace := ["math.Float64bits", "math.Float64frombits", "math.Float32bits", "math.Float32frombits", "math.archFloor", "math.archTrunc"], unfollowed := true, recurses := true, apart := false }
def FnFrictionSaid : Prop := fnFrictionRow.holds Try.pinned (OpenSpec.ofChange fnFrictionSpec)

/-- ITS FALSE NEIGHBOUR: 'it returns false'. Refute it at one input. -/
def fnFrictionWrong : ChangeSpec := { name := "fnFriction", fn := fun _ => fun
  | [d1, d2] => { results := [.lit (.bool false)], args := [d1, d2] }
  | _ => none }
def FnFrictionWrongFalsely : Prop := fnFrictionRow.holds Try.pinned (OpenSpec.ofChange fnFrictionWrong)

/-- 'laws.FnExactStepJet': WHATEVER THE INPUT: true; the input reads as it did. -/
def fnExactStepJetSpec : ChangeSpec := { name := "fnExactStepJet", fn := fun _ => fun
  | [d1, d2] => { results := [.lit (.bool true)], args := [d1, d2] }
  | _ => none }
def fnExactStepJetRow : OpenClaim := { program := "ytkgdhlhmckdcmaa", sum := "53867c7d7a45522e144b5f6eb6f295ae6c52bc1750f4628bcceeab0b2596fb6d", func := "loop.example/g01173/laws.FnExactStepJet", spec := "fnExactStepJet", inPlace := ["math.Float32bits", "math.Float32frombits", "math.Float64bits", "math.Float64frombits"], unfollowed := true, recurses := true, apart := false }
def FnExactStepJetSaid : Prop := fnExactStepJetRow.holds Try.pinned (OpenSpec.ofChange fnExactStepJetSpec)

/-- ITS FALSE NEIGHBOUR: 'it returns false'. Refute it at one input. -/
def fnExactStepJetWrong : ChangeSpec := { name := "fnExactStepJet", fn := fun _ => fun
  | [d1, d2] => { results := [.lit (.bool false)], args := [d1, d2] }
  | _ => none }
def FnExactStepJetWrongFalsely : Prop := fnExactStepJetRow.holds Try.pinned (OpenSpec.ofChange fnExactStepJetWrong)

/-- 'laws.FnExactStepBow': WHATEVER THE INPUT: true; the input reads as it did. -/
def fnExactStepBowSpec : ChangeSpec := { name := "fnExactStepBow", fn := fun _ => fun
  | [d1, d2] => { results := [.lit (.bool true)], args := [d1, d2] }
  | _ => none }
def fnExactStepBowRow : OpenClaim := { program := "ytkgdhlhmckdcmaa", sum := "53867c7d7a45522e144b5f6eb6f295ae6c52bc1750f4628bcceeab0b2596fb6d", func := "loop.example/g01173/laws.FnExactStepBow", spec := "fnExactStepBow", inPlace := ["math.Float32bits", "math.Float32frombits", "math.Float64bits", "math.Float64frombits"], unfollowed := true, recurses := true, apart := false }
def FnExactStepBowSaid : Prop := fnExactStepBowRow.holds Try.pinned (OpenSpec.ofChange fnExactStepBowSpec)

/-- ITS FALSE NEIGHBOUR: 'it returns false'. Refute it at one input. -/
def fnExactStepBowWrong : ChangeSpec := { name := "fnExactStepBow", fn := fun _ => fun
  | [d1, d2] => { results := [.lit (.bool false)], args := [d1, d2] }
  | _ => none }
def FnExactStepBowWrongFalsely : Prop := fnExactStepBowRow.holds Try.pinned (OpenSpec.ofChange fnExactStepBowWrong)

/-- 'laws.FnExactPlayJet': WHATEVER THE INPUT: true; the input reads as it did. -/
def fnExactPlayJetSpec : ChangeSpec := { name := "fnExactPlayJet", fn := fun _ => fun
  | [d1, d2] => { results := [.lit (.bool true)], args := [d1, d2] }
  | _ => none }
def fnExactPlayJetRow : OpenClaim := { program := "ytkgdhlhmckdcmaa", sum := "53867c7d7a45522e144b5f6eb6f295ae6c52bc1750f4628bcceeab0b2596fb6d", func := "loop.example/g01173/laws.FnExactPlayJet", spec := "fnExactPlayJet", inPlace := ["math.Float32bits", "math.Float32frombits", "math.Float64bits", "math.Float64frombits"], unfollowed := true, recurses := true, apart := false }
def FnExactPlayJetSaid : Prop := fnExactPlayJetRow.holds Try.pinned (OpenSpec.ofChange fnExactPlayJetSpec)

/-- ITS FALSE NEIGHBOUR: 'it returns false'. Refute it at one input. -/
def fnExactPlayJetWrong : ChangeSpec := { name := "fnExactPlayJet", fn := fun _ => fun
  | [d1, d2] => { results := [.lit (.bool false)], args := [d1, d2] }
  | _ => none }
def FnExactPlayJetWrongFalsely : Prop := fnExactPlayJetRow.holds Try.pinned (OpenSpec.ofChange fnExactPlayJetWrong)

/-- 'laws.FnExactPlayBow': WHATEVER THE INPUT: true; the input reads as it did. -/
def fnExactPlayBowSpec : ChangeSpec := { name := "fnExactPlayBow", fn := fun _ => fun
  | [d1, d2] => { results := [.lit (.bool true)], args := [d1, d2] }
  | _ => none }
def fnExactPlayBowRow : OpenClaim := { program := "ytkgdhlhmckdcmaa", sum := "53867c7d7a45522e144b5f6eb6f295ae6c52bc1750f4628bcceeab0b2596fb6d", func := "loop.example/g01173/laws.FnExactPlayBow", spec := "fnExactPlayBow", inPlace := ["math.Float32bits", "math.Float32frombits", "math.Float64bits", "math.Float64frombits"], unfollowed := true, recurses := true, apart := false }
def FnExactPlayBowSaid : Prop := fnExactPlayBowRow.holds Try.pinned (OpenSpec.ofChange fnExactPlayBowSpec)

/-- ITS FALSE NEIGHBOUR: 'it returns false'. Refute it at one input. -/
def fnExactPlayBowWrong : ChangeSpec := { name := "fnExactPlayBow", fn := fun _ => fun
  | [d1, d2] => { results := [.lit (.bool false)], args := [d1, d2] }
  | _ => none }
def FnExactPlayBowWrongFalsely : Prop := fnExactPlayBowRow.holds Try.pinned (OpenSpec.ofChange fnExactPlayBowWrong)

/-- 'laws.FnExactBlockOfJet': WHATEVER THE INPUT: true; the input reads as it did. -/
def fnExactBlockOfJetSpec : ChangeSpec := { name := "fnExactBlockOfJet", fn := fun _ => fun
  | [d1, d2] => { results := [.lit (.bool true)], args := [d1, d2] }
  | _ => none }
def fnExactBlockOfJetRow : OpenClaim := { program := "ytkgdhlhmckdcmaa", sum := "53867c7d7a45522e144b5f6eb6f295ae6c52bc1750f4628bcceeab0b2596fb6d", func := "loop.example/g01173/laws.FnExactBlockOfJet", spec := "fnExactBlockOfJet", inPlace := ["math.Float32bits", "math.Float32frombits", "math.Float64bits", "math.Float64frombits"], unfollowed := true, recurses := true, apart := false }
def FnExactBlockOfJetSaid : Prop := fnExactBlockOfJetRow.holds Try.pinned (OpenSpec.ofChange fnExactBlockOfJetSpec)

/-- ITS FALSE NEIGHBOUR: 'it returns false'. Refute it at one input. -/
def fnExactBlockOfJetWrong : ChangeSpec := { name := "fnExactBlockOfJet", fn := fun _ => fun
  | [d1, d2] => { results := [.lit (.bool false)], args := [d1, d2] }
  | _ => none }
def FnExactBlockOfJetWrongFalsely : Prop := fnExactBlockOfJetRow.holds Try.pinned (OpenSpec.ofChange fnExactBlockOfJetWrong)

/-- 'laws.FnExactBlockOfBow': WHATEVER THE INPUT: true; the input reads as it did. -/
def fnExactBlockOfBowSpec : ChangeSpec := { name := "fnExactBlockOfBow", fn := fun _ => fun
  | [d1, d2] => { results := [.lit (.bool true)], args := [d1, d2] }
  | _ => none }
def fnExactBlockOfBowRow : OpenClaim := { program := "ytkgdhlhmckdcmaa", sum := "53867c7d7a45522e144b5f6eb6f295ae6c52bc1750f4628bcceeab0b2596fb6d", func := "loop.example/g01173/laws.FnExactBlockOfBow", spec := "fnExactBlockOfBow", inPlace := ["math.Float32bits", "math.Float32frombits", "math.Float64bits", "math.Float64frombits"], unfollowed := true, recurses := true, apart := false }
def FnExactBlockOfBowSaid : Prop := fnExactBlockOfBowRow.holds Try.pinned (OpenSpec.ofChange fnExactBlockOfBowSpec)

/-- ITS FALSE NEIGHBOUR: 'it returns false'. Refute it at one input. -/
def fnExactBlockOfBowWrong : ChangeSpec := { name := "fnExactBlockOfBow", fn := fun _ => fun
  | [d1, d2] => { results := [.lit (.bool false)], args := [d1, d2] }
  | _ => none }
def FnExactBlockOfBowWrongFalsely : Prop := fnExactBlockOfBowRow.holds Try.pinned (OpenSpec.ofChange fnExactBlockOfBowWrong)

/- THE SECOND FORM. 'bulk': how many values and letters a reading holds, each counted each time it is reached (what is shared counts as often as it is met; a slice's spare places count too). A statement '..UptoSaid' is the law's where the arguments, and the package variables that the reading takes, are together of bulk at most 1048576: NARROWER than '..Said'. Prove '..Said' where nothing that the law and all that it calls make is longer than what came in: it says more and counts as full. Else prove '..UptoSaid'. A law counts once. -/
mutual
def uptoBulk {H : Type} : DataW H → Nat
  | .lit (.string bytes) => bytes.length + 1
  | .lit _ => 1
  | .nil => 1
  | .ptr d => uptoBulk d + 1
  | .slice elems spare => uptoBulkAll elems + uptoBulkAll spare + 1
  | .agg parts => uptoBulkAll parts + 1
  | .iface _ d => uptoBulk d + 1
  | .map entries => uptoBulkEntries entries + 1
  | .held _ => 1
def uptoBulkAll {H : Type} : List (DataW H) → Nat
  | [] => 0
  | d :: r => uptoBulk d + uptoBulkAll r
def uptoBulkEntries {H : Type} : List (Lit × DataW H) → Nat
  | [] => 0
  | x :: r => uptoBulkEntry x + uptoBulkEntries r
def uptoBulkEntry {H : Type} : Lit × DataW H → Nat
  | (.string bytes, d) => bytes.length + uptoBulk d + 1
  | (_, d) => uptoBulk d + 1
 end
def uptoSmall : (H : Type) → List (DataW H) → Bool := fun _ ds => decide (uptoBulkAll ds ≤ 1048576)
def OpenSpec.upto (s : _root_.Go.ChangeSpec) : _root_.Go.OpenSpec := { _root_.Go.OpenSpec.ofChange s with cond := some uptoSmall }

/-- 'laws.FnExactPullBow', WHERE WHAT IT READS IS OF BULK AT MOST 1048576: true; the input reads as it did. -/
def fnExactPullBowUptoRow : OpenClaim := { program := "ytkgdhlhmckdcmaa", sum := "53867c7d7a45522e144b5f6eb6f295ae6c52bc1750f4628bcceeab0b2596fb6d", func := "loop.example/g01173/laws.FnExactPullBow", spec := "fnExactPullBow", inPlace := ["math.Float32bits", "math.Float32frombits", "math.Float64bits", "math.Float64frombits"], unfollowed := true, recurses := true, apart := false, narrowed := true }
def FnExactPullBowUptoSaid : Prop := fnExactPullBowUptoRow.holds Try.pinned (OpenSpec.upto fnExactPullBowSpec)

/-- 'laws.FnExactSticksAt', WHERE WHAT IT READS IS OF BULK AT MOST 1048576: true; the input reads as it did. -/
def fnExactSticksAtUptoRow : OpenClaim := { program := "ytkgdhlhmckdcmaa", sum := "53867c7d7a45522e144b5f6eb6f295ae6c52bc1750f4628bcceeab0b2596fb6d", func := "loop.example/g01173/laws.FnExactSticksAt", spec := "fnExactSticksAt", inPlace := ["math.Float32bits", "math.Float32frombits", "math.Float64bits", "math.Float64frombits"], unfollowed := true, recurses := true, apart := false, narrowed := true }
def FnExactSticksAtUptoSaid : Prop := fnExactSticksAtUptoRow.holds Try.pinned (OpenSpec.upto fnExactSticksAtSpec)

/-- 'laws.FnFriction', WHERE WHAT IT READS IS OF BULK AT MOST 1048576: true; the input reads as it did. -/
def fnFrictionUptoRow : OpenClaim := { program := "ytkgdhlhmckdcmaa", sum := "53867c7d7a45522e144b5f6eb6f295ae6c52bc1750f4628bcceeab0b2596fb6d", func := "loop.example/g01173/laws.FnFriction", spec := "fnFriction", inPlace := ["math.Float64bits", "math.Float64frombits", "math.Float32bits", "math.Float32frombits", "math.archFloor", "math.archTrunc"], unfollowed := true, recurses := true, apart := false, narrowed := true }
def FnFrictionUptoSaid : Prop := fnFrictionUptoRow.holds Try.pinned (OpenSpec.upto fnFrictionSpec)

/-- 'laws.FnExactStepJet', WHERE WHAT IT READS IS OF BULK AT MOST 1048576: true; the input reads as it did. -/
def fnExactStepJetUptoRow : OpenClaim := { program := "ytkgdhlhmckdcmaa", sum := "53867c7d7a45522e144b5f6eb6f295ae6c52bc1750f4628bcceeab0b2596fb6d", func := "loop.example/g01173/laws.FnExactStepJet", spec := "fnExactStepJet", inPlace := ["math.Float32bits", "math.Float32frombits", "math.Float64bits", "math.Float64frombits"], unfollowed := true, recurses := true, apart := false, narrowed := true }
def FnExactStepJetUptoSaid : Prop := fnExactStepJetUptoRow.holds Try.pinned (OpenSpec.upto fnExactStepJetSpec)

/-- 'laws.FnExactStepBow', WHERE WHAT IT READS IS OF BULK AT MOST 1048576: true; the input reads as it did. -/
def fnExactStepBowUptoRow : OpenClaim := { program := "ytkgdhlhmckdcmaa", sum := "53867c7d7a45522e144b5f6eb6f295ae6c52bc1750f4628bcceeab0b2596fb6d", func := "loop.example/g01173/laws.FnExactStepBow", spec := "fnExactStepBow", inPlace := ["math.Float32bits", "math.Float32frombits", "math.Float64bits", "math.Float64frombits"], unfollowed := true, recurses := true, apart := false, narrowed := true }
def FnExactStepBowUptoSaid : Prop := fnExactStepBowUptoRow.holds Try.pinned (OpenSpec.upto fnExactStepBowSpec)

/-- 'laws.FnExactPlayJet', WHERE WHAT IT READS IS OF BULK AT MOST 1048576: true; the input reads as it did. -/
def fnExactPlayJetUptoRow : OpenClaim := { program := "ytkgdhlhmckdcmaa", sum := "53867c7d7a45522e144b5f6eb6f295ae6c52bc1750f4628bcceeab0b2596fb6d", func := "loop.example/g01173/laws.FnExactPlayJet", spec := "fnExactPlayJet", inPlace := ["math.Float32bits", "math.Float32frombits", "math.Float64bits", "math.Float64frombits"], unfollowed := true, recurses := true, apart := false, narrowed := true }
def FnExactPlayJetUptoSaid : Prop := fnExactPlayJetUptoRow.holds Try.pinned (OpenSpec.upto fnExactPlayJetSpec)

/-- 'laws.FnExactPlayBow', WHERE WHAT IT READS IS OF BULK AT MOST 1048576: true; the input reads as it did. -/
def fnExactPlayBowUptoRow : OpenClaim := { program := "ytkgdhlhmckdcmaa", sum := "53867c7d7a45522e144b5f6eb6f295ae6c52bc1750f4628bcceeab0b2596fb6d", func := "loop.example/g01173/laws.FnExactPlayBow", spec := "fnExactPlayBow", inPlace := ["math.Float32bits", "math.Float32frombits", "math.Float64bits", "math.Float64frombits"], unfollowed := true, recurses := true, apart := false, narrowed := true }
def FnExactPlayBowUptoSaid : Prop := fnExactPlayBowUptoRow.holds Try.pinned (OpenSpec.upto fnExactPlayBowSpec)

/-- 'laws.FnExactBlockOfJet', WHERE WHAT IT READS IS OF BULK AT MOST 1048576: true; the input reads as it did. -/
def fnExactBlockOfJetUptoRow : OpenClaim := { program := "ytkgdhlhmckdcmaa", sum := "53867c7d7a45522e144b5f6eb6f295ae6c52bc1750f4628bcceeab0b2596fb6d", func := "loop.example/g01173/laws.FnExactBlockOfJet", spec := "fnExactBlockOfJet", inPlace := ["math.Float32bits", "math.Float32frombits", "math.Float64bits", "math.Float64frombits"], unfollowed := true, recurses := true, apart := false, narrowed := true }
def FnExactBlockOfJetUptoSaid : Prop := fnExactBlockOfJetUptoRow.holds Try.pinned (OpenSpec.upto fnExactBlockOfJetSpec)

/-- 'laws.FnExactBlockOfBow', WHERE WHAT IT READS IS OF BULK AT MOST 1048576: true; the input reads as it did. -/
def fnExactBlockOfBowUptoRow : OpenClaim := { program := "ytkgdhlhmckdcmaa", sum := "53867c7d7a45522e144b5f6eb6f295ae6c52bc1750f4628bcceeab0b2596fb6d", func := "loop.example/g01173/laws.FnExactBlockOfBow", spec := "fnExactBlockOfBow", inPlace := ["math.Float32bits", "math.Float32frombits", "math.Float64bits", "math.Float64frombits"], unfollowed := true, recurses := true, apart := false, narrowed := true }
def FnExactBlockOfBowUptoSaid : Prop := fnExactBlockOfBowUptoRow.holds Try.pinned (OpenSpec.upto fnExactBlockOfBowSpec)

end Rows
end Go.Proofs.Ytkgdhlhmckdcmaa
