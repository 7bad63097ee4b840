/- The law on the steps to stillness, for whatever comes in. -/
import Derived.Test.YtdjmhecijopfmaaL3
set_option linter.unusedVariables false
namespace Go.Proofs.Ytdjmhecijopfmaa

theorem lawM_steps (w : World) (cs0 : Array Value) (v1 : Value) (h0 : Cells w [isI .i64, isF .f32, isF .f32, isF .f32, isF .f32, isF .f32] cs0.toList) (h1 : Cells w [isI .i64] [v1]) : Cl Try.prog 5 #[.agg cs0, v1] w fun v w' => v = .bool true ∧ Mod [] w w' := by
  obtain ⟨u0_0, r0_0, e0, ⟨kd, rfl, k0, k1⟩, k0_0⟩ := Cells.cons h0
  obtain ⟨u0_1, r0_1, rfl, ⟨c0, rfl, m0⟩, k0_1⟩ := Cells.cons k0_0
  obtain ⟨u0_2, r0_2, rfl, ⟨c1, rfl, m1⟩, k0_2⟩ := Cells.cons k0_1
  obtain ⟨u0_3, r0_3, rfl, ⟨c2, rfl, m2⟩, k0_3⟩ := Cells.cons k0_2
  obtain ⟨u0_4, r0_4, rfl, ⟨s0, rfl, l0⟩, k0_4⟩ := Cells.cons k0_3
  obtain ⟨u0_5, r0_5, rfl, ⟨s1, rfl, l1⟩, k0_5⟩ := Cells.cons k0_4
  obtain rfl := Cells.nil k0_5
  rw [agg_of e0]
  obtain ⟨u1_0, r1_0, e1, ⟨most, rfl, q0, q1⟩, k1_0⟩ := Cells.cons h1
  obtain rfl := Cells.nil k1_0
  obtain rfl : v1 = _ := by simpa using e1
  cases hm : vIn most 0 100000
  · exact law_steps_out kd c0 c1 c2 s0 s1 most l0 l1 hm w
  · cases hv : vFil kd c0 c1 c2 s0 s1
    · exact law_steps_bad kd c0 c1 c2 s0 s1 most l0 l1 hv w
    · rw [vIn_t] at hm
      obtain ⟨k, rfl⟩ := Int.eq_ofNat_of_zero_le hm.1
      exact law_steps kd c0 c1 c2 s0 s1 k l0 l1 (by omega) hv w

end Go.Proofs.Ytdjmhecijopfmaa
