/- The law on texts of tunings, for whatever comes in. -/
import Derived.Test.YteonmpphpeopiaaDoorLT1
set_option linter.unusedVariables false
namespace Go.Proofs.YteonmpphpeopiaaDoor

theorem lawM_law_tun (w : World) (T : LibT w LB 0 []) (cs0 : Array Value) (h0 : Cells w [isF .f32, isF .f32, isSl [isF .f32]] cs0.toList) : Cl Tryd.prog 3 #[.agg cs0] w fun v w' => v = .bool true ∧ Mod [] w w' := by
  obtain ⟨u0_0, r0_0, e0, ⟨ba, rfl, lba⟩, k0_0⟩ := Cells.cons h0
  obtain ⟨u0_1, r0_1, rfl, ⟨oc, rfl, loc⟩, k0_1⟩ := Cells.cons k0_0
  obtain ⟨u0_2, r0_2, rfl, s0_2, k0_2⟩ := Cells.cons k0_1
  obtain rfl := Cells.nil k0_2
  obtain ⟨AD, nD, cD, bD, oD, xD, rfl, hAD, hnD, hcD, hzD, lnD, rD, wD⟩ := isSl_floats s0_2
  rw [agg_of e0]
  have hm : nD ≤ 9223372036854775807 := Nat.le_trans hnD hcD
  by_cases h1 : nD ≤ 1048576
  · cases hv : tunF ba oc xD nD
    · exact law_tun_bad ba oc nD cD AD bD oD xD lnD hAD wD lba loc h1 hv w rD T
    · exact law_tun ba oc nD cD AD bD oD xD lnD hAD wD lba loc h1 hv w rD T
  · exact law_tun_o ba oc nD cD AD bD oD xD lnD hAD wD (by omega) hm w rD

end Go.Proofs.YteonmpphpeopiaaDoor
