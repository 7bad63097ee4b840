/- The law on valid instruments, for whatever comes in. -/
import Derived.Test.YtdopidalhkcefaaDoorLI1
import Derived.Test.YtdopidalhkcefaaDoorE13
set_option linter.unusedVariables false
namespace Go.Proofs.YtdopidalhkcefaaDoor

theorem lawM_law_instr (w : World) (cs0 : Array Value) (h0 : Cells w [isS, isI .i64, isF .f32, isF .f32, isF .f32] cs0.toList) : Cl Tryd.prog 3 #[.agg cs0] w fun v w' => v = .bool true ∧ Mod [] w w' := by
  obtain ⟨u0_0, r0_0, e0, ⟨nm, rfl, hnm⟩, k0_0⟩ := Cells.cons h0
  obtain ⟨u0_1, r0_1, rfl, ⟨kd, rfl, k0, k1⟩, k0_1⟩ := Cells.cons k0_0
  obtain ⟨u0_2, r0_2, rfl, ⟨fa, rfl, lfa⟩, k0_2⟩ := Cells.cons k0_1
  obtain ⟨u0_3, r0_3, rfl, ⟨fb, rfl, lfb⟩, k0_3⟩ := Cells.cons k0_2
  obtain ⟨u0_4, r0_4, rfl, ⟨fc, rfl, lfc⟩, k0_4⟩ := Cells.cons k0_3
  obtain rfl := Cells.nil k0_4
  rw [agg_of e0]
  have hs2 : nm.size ≤ 9223372036854775807 := Nat.le_trans hnm (by decide)
  by_cases h1 : nm.size ≤ 1048576
  · exact law_instr nm kd fa fb fc hs2 h1 w
  · exact law_instr_over nm kd fa fb fc hs2 (by omega) w

end Go.Proofs.YtdopidalhkcefaaDoor
