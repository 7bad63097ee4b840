/- The law on a step of a filter, for whatever comes in. -/
import Derived.Test.YtdjmhecijopfmaaL2
set_option linter.unusedVariables false
namespace Go.Proofs.Ytdjmhecijopfmaa

theorem lawM_stepF (w : World) (cs0 : Array Value) (v1 : Value) (h0 : Cells w [isI .i64, isF .f32, isF .f32, isF .f32, isF .f32, isF .f32] cs0.toList) (h1 : Cells w [isF .f32] [v1]) : Cl Try.prog 6 #[.agg cs0, v1] w fun v w' => v = .bool true ∧ Mod [] w w' := by
  obtain ⟨u0_0, r0_0, e0, ⟨kd, rfl, k0, k1⟩, k0_0⟩ := Cells.cons h0
  obtain ⟨u0_1, r0_1, rfl, ⟨c0, rfl, m0⟩, k0_1⟩ := Cells.cons k0_0
  obtain ⟨u0_2, r0_2, rfl, ⟨c1, rfl, m1⟩, k0_2⟩ := Cells.cons k0_1
  obtain ⟨u0_3, r0_3, rfl, ⟨c2, rfl, m2⟩, k0_3⟩ := Cells.cons k0_2
  obtain ⟨u0_4, r0_4, rfl, ⟨s0, rfl, l0⟩, k0_4⟩ := Cells.cons k0_3
  obtain ⟨u0_5, r0_5, rfl, ⟨s1, rfl, l1⟩, k0_5⟩ := Cells.cons k0_4
  obtain rfl := Cells.nil k0_5
  rw [agg_of e0]
  obtain ⟨u1_0, r1_0, e1, ⟨a, rfl, la⟩, k1_0⟩ := Cells.cons h1
  obtain rfl := Cells.nil k1_0
  obtain rfl : v1 = _ := by simpa using e1
  exact law_stepF kd c0 c1 c2 s0 s1 a l0 l1 la w

end Go.Proofs.Ytdjmhecijopfmaa
