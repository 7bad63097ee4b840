/-
  No cell of these rows narrows 'for every input' (looked for: loops, veiled, ifaces, maps, wideKeys, modest, calm, conditions, laid).
  DERIVED. THE GIVEN ROWS OF THIS SEAT. 6 by the template 'for every input the law returns true; each argument reads behind the call as it read before'; 0 by the template 'total and deterministic' (their statements: YtdjmhecijopfmaaTotals.lean).
  GIVEN WITH THE SEED: the statements are not yours to turn. If you find one false, say at which input.
  Laid BY PROGRAM, IN A SANDBOX (cutbox-rows.mjs): the forced cells as the released guide's own fill.sh prints them over the translation b7c39e0bb4f0df28… (all of the seat's roots in one cut). By AI agents, Wed Nov 11 2026. No macro, syntax, notation, axiom, sorry.
-/
import Derived.Test.YtdjmhecijopfmaaChecked
import GoSem.Claim
import GoSem.ClaimJoined
import GoSem.ClaimMapViews
import Derived.JoinedTies
import Derived.KernelRfl
namespace Go.Proofs.Ytdjmhecijopfmaa
/- THE CELL 'sum', in the pinned program and in every row, IS THE sha256 OF THE DUMP (.gsa) THAT YtdjmhecijopfmaaProg.lean LOADS. Nothing in Lean hashes anything: it is a label: what it is worth is what the hold of that sum in a sandbox is worth. -/
noncomputable def Try.pinned : Pinned := { name := "ytdjmhecijopfmaa", sum := "b7c39e0bb4f0df281840d722aef7ba6e207deb8c834077ff7ee6f36baee93034", checked := Try.checked }
namespace Rows
def none {H : Type} : Left H := { results := [], args := [] }

/-- 'laws.FnExactPushSample': WHATEVER THE INPUT: true; the input reads as it did. -/
def fnExactPushSampleSpec : ChangeSpec := { name := "fnExactPushSample", fn := fun _ => fun
  | [d1, d2] => { results := [.lit (.bool true)], args := [d1, d2] }
  | _ => none }
def fnExactPushSampleRow : OpenClaim := { program := "ytdjmhecijopfmaa", sum := "b7c39e0bb4f0df281840d722aef7ba6e207deb8c834077ff7ee6f36baee93034", func := "loop.example/g01173/laws.FnExactPushSample", spec := "fnExactPushSample", apart := false }
def FnExactPushSampleSaid : Prop := fnExactPushSampleRow.holds Try.pinned (OpenSpec.ofChange fnExactPushSampleSpec)

/-- ITS FALSE NEIGHBOUR: 'it returns false'. Refute it at one input. -/
def fnExactPushSampleWrong : ChangeSpec := { name := "fnExactPushSample", fn := fun _ => fun
  | [d1, d2] => { results := [.lit (.bool false)], args := [d1, d2] }
  | _ => none }
def FnExactPushSampleWrongFalsely : Prop := fnExactPushSampleRow.holds Try.pinned (OpenSpec.ofChange fnExactPushSampleWrong)

/-- 'laws.FnCombs': WHATEVER THE INPUT: true; the input reads as it did. -/
def fnCombsSpec : ChangeSpec := { name := "fnCombs", fn := fun _ => fun
  | [d1, d2] => { results := [.lit (.bool true)], args := [d1, d2] }
  | _ => none }
def fnCombsRow : OpenClaim := { program := "ytdjmhecijopfmaa", sum := "b7c39e0bb4f0df281840d722aef7ba6e207deb8c834077ff7ee6f36baee93034", func := "loop.example/g01173/laws.FnCombs", spec := "fnCombs", inPlace := ["math.Float64bits", "math.Float64frombits", "math.Float32bits", "math.Float32frombits"], unfollowed := true, recurses := true, apart := false }
def FnCombsSaid : Prop := fnCombsRow.holds Try.pinned (OpenSpec.ofChange fnCombsSpec)

/-- ITS FALSE NEIGHBOUR: 'it returns false'. Refute it at one input. -/
def fnCombsWrong : ChangeSpec := { name := "fnCombs", fn := fun _ => fun
  | [d1, d2] => { results := [.lit (.bool false)], args := [d1, d2] }
  | _ => none }
def FnCombsWrongFalsely : Prop := fnCombsRow.holds Try.pinned (OpenSpec.ofChange fnCombsWrong)

/-- 'laws.FnExactStepsToStill': WHATEVER THE INPUT: true; the input reads as it did. -/
def fnExactStepsToStillSpec : ChangeSpec := { name := "fnExactStepsToStill", fn := fun _ => fun
  | [d1, d2] => { results := [.lit (.bool true)], args := [d1, d2] }
  | _ => none }
def fnExactStepsToStillRow : OpenClaim := { program := "ytdjmhecijopfmaa", sum := "b7c39e0bb4f0df281840d722aef7ba6e207deb8c834077ff7ee6f36baee93034", func := "loop.example/g01173/laws.FnExactStepsToStill", spec := "fnExactStepsToStill", inPlace := ["math.Float32bits", "math.Float32frombits", "math.Float64bits", "math.Float64frombits"], apart := false }
def FnExactStepsToStillSaid : Prop := fnExactStepsToStillRow.holds Try.pinned (OpenSpec.ofChange fnExactStepsToStillSpec)

/-- ITS FALSE NEIGHBOUR: 'it returns false'. Refute it at one input. -/
def fnExactStepsToStillWrong : ChangeSpec := { name := "fnExactStepsToStill", fn := fun _ => fun
  | [d1, d2] => { results := [.lit (.bool false)], args := [d1, d2] }
  | _ => none }
def FnExactStepsToStillWrongFalsely : Prop := fnExactStepsToStillRow.holds Try.pinned (OpenSpec.ofChange fnExactStepsToStillWrong)

/-- 'laws.FnExactStepFilter': WHATEVER THE INPUT: true; the input reads as it did. -/
def fnExactStepFilterSpec : ChangeSpec := { name := "fnExactStepFilter", fn := fun _ => fun
  | [d1, d2] => { results := [.lit (.bool true)], args := [d1, d2] }
  | _ => none }
def fnExactStepFilterRow : OpenClaim := { program := "ytdjmhecijopfmaa", sum := "b7c39e0bb4f0df281840d722aef7ba6e207deb8c834077ff7ee6f36baee93034", func := "loop.example/g01173/laws.FnExactStepFilter", spec := "fnExactStepFilter", inPlace := ["math.Float32bits", "math.Float32frombits", "math.Float64bits", "math.Float64frombits"], apart := false }
def FnExactStepFilterSaid : Prop := fnExactStepFilterRow.holds Try.pinned (OpenSpec.ofChange fnExactStepFilterSpec)

/-- ITS FALSE NEIGHBOUR: 'it returns false'. Refute it at one input. -/
def fnExactStepFilterWrong : ChangeSpec := { name := "fnExactStepFilter", fn := fun _ => fun
  | [d1, d2] => { results := [.lit (.bool false)], args := [d1, d2] }
  | _ => none }
def FnExactStepFilterWrongFalsely : Prop := fnExactStepFilterRow.holds Try.pinned (OpenSpec.ofChange fnExactStepFilterWrong)

/-- 'laws.FnExactRunFilter': WHATEVER THE INPUT: true; the input reads as it did. -/
def fnExactRunFilterSpec : ChangeSpec := { name := "fnExactRunFilter", fn := fun _ => fun
  | [d1, d2] => { results := [.lit (.bool true)], args := [d1, d2] }
  | _ => none }
def fnExactRunFilterRow : OpenClaim := { program := "ytdjmhecijopfmaa", sum := "b7c39e0bb4f0df281840d722aef7ba6e207deb8c834077ff7ee6f36baee93034", func := "loop.example/g01173/laws.FnExactRunFilter", spec := "fnExactRunFilter", inPlace := ["math.Float32bits", "math.Float32frombits", "math.Float64bits", "math.Float64frombits"], unfollowed := true, recurses := true, apart := false }
def FnExactRunFilterSaid : Prop := fnExactRunFilterRow.holds Try.pinned (OpenSpec.ofChange fnExactRunFilterSpec)

/-- ITS FALSE NEIGHBOUR: 'it returns false'. Refute it at one input. -/
def fnExactRunFilterWrong : ChangeSpec := { name := "fnExactRunFilter", fn := fun _ => fun
  | [d1, d2] => { results := [.lit (.bool false)], args := [d1, d2] }
  | _ => none }
def FnExactRunFilterWrongFalsely : Prop := fnExactRunFilterRow.holds Try.pinned (OpenSpec.ofChange fnExactRunFilterWrong)

/-- 'laws.FnExactStepComb': WHATEVER THE INPUT: true; the input reads as it did. -/
def fnExactStepCombSpec : ChangeSpec := { name := "fnExactStepComb", fn := fun _ => fun
  | [d1, d2] => { results := [.lit (.bool true)], args := [d1, d2] }
  | _ => none }
def fnExactStepCombRow : OpenClaim := { program := "ytdjmhecijopfmaa", sum := "b7c39e0bb4f0df281840d722aef7ba6e207deb8c834077ff7ee6f36baee93034", func := "loop.example/g01173/laws.FnExactStepComb", spec := "fnExactStepComb", inPlace := ["math.Float32bits", "math.Float32frombits", "math.Float64bits", "math.Float64frombits"], unfollowed := true, recurses := true, apart := false }
def FnExactStepCombSaid : Prop := fnExactStepCombRow.holds Try.pinned (OpenSpec.ofChange fnExactStepCombSpec)

/-- ITS FALSE NEIGHBOUR: 'it returns false'. Refute it at one input. -/
def fnExactStepCombWrong : ChangeSpec := { name := "fnExactStepComb", fn := fun _ => fun
  | [d1, d2] => { results := [.lit (.bool false)], args := [d1, d2] }
  | _ => none }
def FnExactStepCombWrongFalsely : Prop := fnExactStepCombRow.holds Try.pinned (OpenSpec.ofChange fnExactStepCombWrong)

/- THE SECOND FORM. 'bulk': how many values and letters a reading holds, each counted each time it is reached (what is shared counts as often as it is met; a slice's spare places count too). A statement '..UptoSaid' is the law's where the arguments, and the package variables that the reading takes, are together of bulk at most 1048576: NARROWER than '..Said'. Prove '..Said' where nothing that the law and all that it calls make is longer than what came in: it says more and counts as full. Else prove '..UptoSaid'. A law counts once. -/
mutual
def uptoBulk {H : Type} : DataW H → Nat
  | .lit (.string bytes) => bytes.length + 1
  | .lit _ => 1
  | .nil => 1
  | .ptr d => uptoBulk d + 1
  | .slice elems spare => uptoBulkAll elems + uptoBulkAll spare + 1
  | .agg parts => uptoBulkAll parts + 1
  | .iface _ d => uptoBulk d + 1
  | .map entries => uptoBulkEntries entries + 1
  | .held _ => 1
def uptoBulkAll {H : Type} : List (DataW H) → Nat
  | [] => 0
  | d :: r => uptoBulk d + uptoBulkAll r
def uptoBulkEntries {H : Type} : List (Lit × DataW H) → Nat
  | [] => 0
  | x :: r => uptoBulkEntry x + uptoBulkEntries r
def uptoBulkEntry {H : Type} : Lit × DataW H → Nat
  | (.string bytes, d) => bytes.length + uptoBulk d + 1
  | (_, d) => uptoBulk d + 1
 end
def uptoSmall : (H : Type) → List (DataW H) → Bool := fun _ ds => decide (uptoBulkAll ds ≤ 1048576)
def OpenSpec.upto (s : _root_.Go.ChangeSpec) : _root_.Go.OpenSpec := { _root_.Go.OpenSpec.ofChange s with cond := some uptoSmall }

/-- 'laws.FnExactPushSample', WHERE WHAT IT READS IS OF BULK AT MOST 1048576: true; the input reads as it did. -/
def fnExactPushSampleUptoRow : OpenClaim := { program := "ytdjmhecijopfmaa", sum := "b7c39e0bb4f0df281840d722aef7ba6e207deb8c834077ff7ee6f36baee93034", func := "loop.example/g01173/laws.FnExactPushSample", spec := "fnExactPushSample", apart := false, narrowed := true }
def FnExactPushSampleUptoSaid : Prop := fnExactPushSampleUptoRow.holds Try.pinned (OpenSpec.upto fnExactPushSampleSpec)

/-- 'laws.FnCombs', WHERE WHAT IT READS IS OF BULK AT MOST 1048576: true; the input reads as it did. -/
def fnCombsUptoRow : OpenClaim := { program := "ytdjmhecijopfmaa", sum := "b7c39e0bb4f0df281840d722aef7ba6e207deb8c834077ff7ee6f36baee93034", func := "loop.example/g01173/laws.FnCombs", spec := "fnCombs", inPlace := ["math.Float64bits", "math.Float64frombits", "math.Float32bits", "math.Float32frombits"], unfollowed := true, recurses := true, apart := false, narrowed := true }
def FnCombsUptoSaid : Prop := fnCombsUptoRow.holds Try.pinned (OpenSpec.upto fnCombsSpec)

/-- 'laws.FnExactStepsToStill', WHERE WHAT IT READS IS OF BULK AT MOST 1048576: true; the input reads as it did. -/
def fnExactStepsToStillUptoRow : OpenClaim := { program := "ytdjmhecijopfmaa", sum := "b7c39e0bb4f0df281840d722aef7ba6e207deb8c834077ff7ee6f36baee93034", func := "loop.example/g01173/laws.FnExactStepsToStill", spec := "fnExactStepsToStill", inPlace := ["math.Float32bits", "math.Float32frombits", "math.Float64bits", "math.Float64frombits"], apart := false, narrowed := true }
def FnExactStepsToStillUptoSaid : Prop := fnExactStepsToStillUptoRow.holds Try.pinned (OpenSpec.upto fnExactStepsToStillSpec)

/-- 'laws.FnExactStepFilter', WHERE WHAT IT READS IS OF BULK AT MOST 1048576: true; the input reads as it did. -/
def fnExactStepFilterUptoRow : OpenClaim := { program := "ytdjmhecijopfmaa", sum := "b7c39e0bb4f0df281840d722aef7ba6e207deb8c834077ff7ee6f36baee93034", func := "loop.example/g01173/laws.FnExactStepFilter", spec := "fnExactStepFilter", inPlace := ["math.Float32bits", "math.Float32frombits", "math.Float64bits", "math.Float64frombits"], apart := false, narrowed := true }
def FnExactStepFilterUptoSaid : Prop := fnExactStepFilterUptoRow.holds Try.pinned (OpenSpec.upto fnExactStepFilterSpec)

/-- 'laws.FnExactRunFilter', WHERE WHAT IT READS IS OF BULK AT MOST 1048576: true; the input reads as it did. -/
def fnExactRunFilterUptoRow : OpenClaim := { program := "ytdjmhecijopfmaa", sum := "b7c39e0bb4f0df281840d722aef7ba6e207deb8c834077ff7ee6f36baee93034", func := "loop.example/g01173/laws.FnExactRunFilter", spec := "fnExactRunFilter", inPlace := ["math.Float32bits", "math.Float32frombits", "math.Float64bits", "math.Float64frombits"], unfollowed := true, recurses := true, apart := false, narrowed := true }
def FnExactRunFilterUptoSaid : Prop := fnExactRunFilterUptoRow.holds Try.pinned (OpenSpec.upto fnExactRunFilterSpec)

/-- 'laws.FnExactStepComb', WHERE WHAT IT READS IS OF BULK AT MOST 1048576: true; the input reads as it did. -/
def fnExactStepCombUptoRow : OpenClaim := { program := "ytdjmhecijopfmaa", sum := "b7c39e0bb4f0df281840d722aef7ba6e207deb8c834077ff7ee6f36baee93034", func := "loop.example/g01173/laws.FnExactStepComb", spec := "fnExactStepComb", inPlace := ["math.Float32bits", "math.Float32frombits", "math.Float64bits", "math.Float64frombits"], unfollowed := true, recurses := true, apart := false, narrowed := true }
def FnExactStepCombUptoSaid : Prop := fnExactStepCombUptoRow.holds Try.pinned (OpenSpec.upto fnExactStepCombSpec)

end Rows
end Go.Proofs.Ytdjmhecijopfmaa
