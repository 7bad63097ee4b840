/- The law on the energy of combs, for whatever comes in. -/
import Derived.Test.YtdjmhecijopfmaaL6
import Derived.Test.YtdjmhecijopfmaaE14
set_option linter.unusedVariables false
namespace Go.Proofs.Ytdjmhecijopfmaa

theorem lawM_law_combs (w : World) (v0 : Value) (v1 : Value) (h0 : Cells w [isSl [isI .u8]] [v0]) (h1 : Cells w [isSl [isI .u8]] [v1]) : Cl Try.prog 4 #[v0, v1] w fun v w' => v = .bool true ∧ Mod [] w w' := by
  obtain ⟨u0_0, r0_0, e0, s0_0, k0_0⟩ := Cells.cons h0
  obtain rfl := Cells.nil k0_0
  obtain ⟨A1, n1, c1, b1, o1, xs1, rfl, hA1, hn1, hc1, hz1, ln1, r1, hB1⟩ := isSl_bytes s0_0
  obtain rfl : v0 = _ := by simpa using e0
  obtain ⟨u1_0, r1_0, e1, s1_0, k1_0⟩ := Cells.cons h1
  obtain rfl := Cells.nil k1_0
  obtain ⟨A2, n2, c2, b2, o2, xs2, rfl, hA2, hn2, hc2, hz2, ln2, r2, hB2⟩ := isSl_bytes s1_0
  obtain rfl : v1 = _ := by simpa using e1
  by_cases h1 : 4096 < n1
  · exact law_combs_b1 n1 c1 A1 b1 o1 xs1 n2 c2 A2 b2 o2 xs2 ln1 hA1 hB1 ln2 hA2 hB2 h1 w r1 r2
  · by_cases h2 : 4096 < n2
    · exact law_combs_b2 n1 c1 A1 b1 o1 xs1 n2 c2 A2 b2 o2 xs2 ln1 hA1 hB1 ln2 hA2 hB2 (by omega) h2 w r1 r2
    · exact law_combs n1 c1 A1 b1 o1 xs1 n2 c2 A2 b2 o2 xs2 ln1 hA1 hB1 ln2 hA2 hB2 (by omega) (by omega) w r1 r2

end Go.Proofs.Ytdjmhecijopfmaa
