/- The law on a block of a bow, for whatever comes in. -/
import Derived.Test.YtkgdhlhmckdcmaaLW5
import Derived.Test.YtkgdhlhmckdcmaaLW5b
set_option linter.unusedVariables false
namespace Go.Proofs.Ytkgdhlhmckdcmaa

theorem lawM_law_blockbow (w : World) (cs0 : Array Value) (cs1 : Array Value) (h0 : Cells w [isSl [isF .f32], isI .i64, isSl [isF .f32], isI .i64, isI .i64, isF .f32, isF .f32, isF .f32, isF .f32, isF .f32, isF .f32, isF .f32] cs0.toList) (h1 : Cells w (List.replicate 16 (isF .f32)) cs1.toList) : Cl Try.prog 11 #[.agg cs0, .agg cs1] w fun v w' => v = .bool true ∧ Mod [] w w' := by
  obtain ⟨u0_0, r0_0, e0, s0_0, k0_0⟩ := Cells.cons h0
  obtain ⟨u0_1, r0_1, rfl, ⟨Nj, rfl, q0, q1⟩, k0_1⟩ := Cells.cons k0_0
  obtain ⟨u0_2, r0_2, rfl, s0_2, k0_2⟩ := Cells.cons k0_1
  obtain ⟨u0_3, r0_3, rfl, ⟨Bj, rfl, q2, q3⟩, k0_3⟩ := Cells.cons k0_2
  obtain ⟨u0_4, r0_4, rfl, ⟨Dk, rfl, q4, q5⟩, k0_4⟩ := Cells.cons k0_3
  obtain ⟨u0_5, r0_5, rfl, ⟨Dc0, rfl, lDc0⟩, k0_5⟩ := Cells.cons k0_4
  obtain ⟨u0_6, r0_6, rfl, ⟨Dc1, rfl, lDc1⟩, k0_6⟩ := Cells.cons k0_5
  obtain ⟨u0_7, r0_7, rfl, ⟨Dc2, rfl, lDc2⟩, k0_7⟩ := Cells.cons k0_6
  obtain ⟨u0_8, r0_8, rfl, ⟨Ds0, rfl, lDs0⟩, k0_8⟩ := Cells.cons k0_7
  obtain ⟨u0_9, r0_9, rfl, ⟨Ds1, rfl, lDs1⟩, k0_9⟩ := Cells.cons k0_8
  obtain ⟨u0_10, r0_10, rfl, ⟨sl, rfl, lsl⟩, k0_10⟩ := Cells.cons k0_9
  obtain ⟨u0_11, r0_11, rfl, ⟨lo, rfl, llo⟩, k0_11⟩ := Cells.cons k0_10
  obtain rfl := Cells.nil k0_11
  obtain ⟨ANr, nNr, cNr, bNr, oNr, xNr, rfl, hANr, hnNr, hcNr, hzNr, lnNr, rNr, wNr⟩ := isSl_floats s0_0
  obtain ⟨ABr, nBr, cBr, bBr, oBr, xBr, rfl, hABr, hnBr, hcBr, hzBr, lnBr, rBr, wBr⟩ := isSl_floats s0_2
  rw [agg_of e0]
  obtain ⟨bs, e1, lb, wb⟩ := Cells.floats 16 h1
  rw [agg_of (l := fl bs) e1]
  have hn : nNr ≤ 9223372036854775807 := Nat.le_trans hnNr hcNr
  have hm : nBr ≤ 9223372036854775807 := Nat.le_trans hnBr hcBr
  cases hv : vBow nNr Nj nBr Bj xNr xBr Dk Dc0 Dc1 Dc2 Ds0 Ds1 sl lo
  · exact law_blockbow_bad nNr cNr ANr bNr oNr xNr Nj nBr cBr ABr bBr oBr xBr Bj Dk Dc0 Dc1 Dc2 Ds0 Ds1 sl lo bs lnNr hANr lnBr hABr wNr wBr lDs0 lDs1 hv hn hm lb wb w rNr rBr
  · obtain ⟨⟨i1, i2, i3, i4⟩, j1, j2, j3, j4⟩ := vBow_t hv
    obtain ⟨i, rfl⟩ := Int.eq_ofNat_of_zero_le i3
    obtain ⟨h, rfl⟩ := Int.eq_ofNat_of_zero_le j3
    exact law_blockbow nNr cNr ANr bNr oNr xNr nBr cBr ABr bBr oBr xBr Dk Dc0 Dc1 Dc2 Ds0 Ds1 sl lo i h bs _ _ lnNr hANr lnBr hABr wNr wBr (by omega) (by omega) i2 j2 lDs0 lDs1 hv lb wb rfl rfl w rNr rBr

end Go.Proofs.Ytkgdhlhmckdcmaa
