/- The law on bridges, for whatever comes in. -/
import Derived.Test.YtabfdgpldcegiaaLSb
import Derived.Test.YtabfdgpldcegiaaE14
set_option linter.unusedVariables false
namespace Go.Proofs.Ytabfdgpldcegiaa

theorem lawM_law_bridges (w : World) (v0 : Value) (v1 : Value) (h0 : Cells w [isSl [isI .u8]] [v0]) (h1 : Cells w [isSl [isI .u8]] [v1]) : Cl Try.prog 6 #[v0, v1] w fun v w' => v = .bool true ∧ Mod [] w w' := by
  obtain ⟨u0_0, r0_0, e0, s0_0, k0_0⟩ := Cells.cons h0
  obtain rfl := Cells.nil k0_0
  obtain ⟨Au, nu, cu, bu, ou, xsu, rfl, hAu, hnu, hcu, hzu, lnu, ru, hBu⟩ := isSl_bytes s0_0
  obtain rfl : v0 = _ := by simpa using e0
  obtain ⟨u1_0, r1_0, e1, s1_0, k1_0⟩ := Cells.cons h1
  obtain rfl := Cells.nil k1_0
  obtain ⟨Av, nv, cv, bv, ov, xsv, rfl, hAv, hnv, hcv, hzv, lnv, rv, hBv⟩ := isSl_bytes s1_0
  obtain rfl : v1 = _ := by simpa using e1
  by_cases h1 : nu ≤ 3000
  · by_cases h2 : nv ≤ 3000
    · exact law_bridges nu cu Au bu ou xsu nv cv Av bv ov xsv lnu hAu hBu lnv hAv hBv h1 h2 w ru rv
    · exact law_bridges_over nu cu Au bu ou xsu nv cv Av bv ov xsv lnu hAu hBu lnv hAv hBv (.inr (by omega)) w ru rv
  · exact law_bridges_over nu cu Au bu ou xsu nv cv Av bv ov xsv lnu hAu hBu lnv hAv hBv (.inl (by omega)) w ru rv

end Go.Proofs.Ytabfdgpldcegiaa
