/- The law on a step of a comb, for whatever comes in. -/
import Derived.Test.YtdjmhecijopfmaaL5
set_option linter.unusedVariables false
namespace Go.Proofs.Ytdjmhecijopfmaa

theorem lawM_comb (w : World) (cs0 : Array Value) (v1 : Value) (h0 : Cells w [isSl [isF .f32], isI .i64, isF .f32] cs0.toList) (h1 : Cells w [isF .f32] [v1]) : Cl Try.prog 8 #[.agg cs0, v1] w fun v w' => v = .bool true ∧ Mod [] w w' := by
  obtain ⟨u0_0, r0_0, e0, s0_0, k0_0⟩ := Cells.cons h0
  obtain ⟨u0_1, r0_1, rfl, ⟨Rj, rfl, q0, q1⟩, k0_1⟩ := Cells.cons k0_0
  obtain ⟨u0_2, r0_2, rfl, ⟨g, rfl, lg⟩, k0_2⟩ := Cells.cons k0_1
  obtain rfl := Cells.nil k0_2
  obtain ⟨ARr, nRr, cRr, bRr, oRr, xRr, rfl, hARr, hnRr, hcRr, hzRr, lnRr, rRr, wRr⟩ := isSl_floats s0_0
  rw [agg_of e0]
  obtain ⟨u1_0, r1_0, e1, ⟨a, rfl, la⟩, k1_0⟩ := Cells.cons h1
  obtain rfl := Cells.nil k1_0
  obtain rfl : v1 = _ := by simpa using e1
  have hm : nRr ≤ 9223372036854775807 := Nat.le_trans hnRr hcRr
  cases hv : vComb nRr Rj xRr g
  · exact law_comb_bad nRr cRr ARr bRr oRr xRr Rj g a lnRr hARr wRr hv hm la w rRr
  · obtain ⟨i1, i2, i3, i4⟩ := vComb_t hv
    obtain ⟨i, rfl⟩ := Int.eq_ofNat_of_zero_le i3
    exact law_comb nRr cRr ARr bRr oRr xRr g i a lnRr hARr wRr (by omega) i2 hv la w rRr

end Go.Proofs.Ytdjmhecijopfmaa
