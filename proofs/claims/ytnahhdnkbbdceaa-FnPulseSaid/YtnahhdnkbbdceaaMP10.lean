/- The law on pulses, for whatever comes in. -/
import Derived.Test.YtnahhdnkbbdceaaLP10a
set_option linter.unusedVariables false
namespace Go.Proofs.Ytnahhdnkbbdceaa

theorem lawM_P10 (w : World) (v0 : Value) (v1 : Value) (h0 : Cells w [isSl [isI .u8]] [v0]) (h1 : Cells w [isSl [isI .u8]] [v1]) : Cl Try.prog 7 #[v0, v1] w fun v w' => v = .bool true ∧ Mod [] w w' := by
  obtain ⟨u0_0, r0_0, e0, s0_0, k0_0⟩ := Cells.cons h0
  obtain rfl := Cells.nil k0_0
  obtain ⟨Au, nu, cu, bu, ou, xsu, rfl, hAu, hnu, hcu, hzu, lnu, ru, hBu⟩ := isSl_bytes s0_0
  obtain rfl : v0 = _ := by simpa using e0
  obtain ⟨u1_0, r1_0, e1, s1_0, k1_0⟩ := Cells.cons h1
  obtain rfl := Cells.nil k1_0
  obtain ⟨Av, nv, cv, bv, ov, xsv, rfl, hAv, hnv, hcv, hzv, lnv, rv, hBv⟩ := isSl_bytes s1_0
  obtain rfl : v1 = _ := by simpa using e1
  by_cases h1 : 4096 < nu
  · exact law_pul_b1 nu cu Au bu ou xsu nv cv Av bv ov xsv lnu hAu hBu lnv hAv hBv h1 w ru rv
  · by_cases h2 : 4096 < nv
    · exact law_pul_b2 nu cu Au bu ou xsu nv cv Av bv ov xsv lnu hAu hBu lnv hAv hBv (by omega) h2 w ru rv
    · exact law_pul nu cu Au bu ou xsu nv cv Av bv ov xsv lnu hAu hBu lnv hAv hBv (by omega) (by omega) w ru rv

end Go.Proofs.Ytnahhdnkbbdceaa
