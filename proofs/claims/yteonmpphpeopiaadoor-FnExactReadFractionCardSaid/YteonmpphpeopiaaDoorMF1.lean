/- The law on fractions in texts, for whatever comes in. -/
import Derived.Test.YteonmpphpeopiaaDoorLF1
import Derived.Test.YteonmpphpeopiaaDoorE13
set_option linter.unusedVariables false
namespace Go.Proofs.YteonmpphpeopiaaDoor

theorem lawM_law_frac (w : World) (T : LibR w LB 0 []) (v0 : Value) (h0 : Cells w [isS] [v0]) : Cl Tryd.prog 4 #[v0] w fun v w' => v = .bool true ∧ Mod [] w w' := by
  obtain ⟨u0_0, r0_0, e0, ⟨s, rfl, hsm⟩, k0_0⟩ := Cells.cons h0
  obtain rfl := Cells.nil k0_0
  obtain rfl : v0 = _ := by simpa using e0
  by_cases h1 : s.size ≤ 1048576
  · exact law_frac s h1 w T
  · exact law_frac_over s (by omega) w

end Go.Proofs.YteonmpphpeopiaaDoor
