/- The law on a block of a jet, for whatever comes in. -/
import Derived.Test.YtkgdhlhmckdcmaaLJ3
import Derived.Test.YtkgdhlhmckdcmaaLJ3b
set_option linter.unusedVariables false
namespace Go.Proofs.Ytkgdhlhmckdcmaa

theorem lawM_law_blockjet (w : World) (cs0 : Array Value) (cs1 : Array Value) (h0 : Cells w [isSl [isF .f32], isI .i64, isSl [isF .f32], isI .i64, isI .i64, isF .f32, isF .f32, isF .f32, isF .f32, isF .f32, isI .i64, isF .f32, isF .f32, isF .f32, isF .f32, isF .f32, isF .f32, isF .f32] cs0.toList) (h1 : Cells w (List.replicate 16 (isF .f32)) cs1.toList) : Cl Try.prog 10 #[.agg cs0, .agg cs1] w fun v w' => v = .bool true ∧ Mod [] w w' := by
  obtain ⟨u0_0, r0_0, e0, s0_0, k0_0⟩ := Cells.cons h0
  obtain ⟨u0_1, r0_1, rfl, ⟨Tj, rfl, q0, q1⟩, k0_1⟩ := Cells.cons k0_0
  obtain ⟨u0_2, r0_2, rfl, s0_2, k0_2⟩ := Cells.cons k0_1
  obtain ⟨u0_3, r0_3, rfl, ⟨Bj, rfl, q2, q3⟩, k0_3⟩ := Cells.cons k0_2
  obtain ⟨u0_4, r0_4, rfl, ⟨Lk, rfl, q4, q5⟩, k0_4⟩ := Cells.cons k0_3
  obtain ⟨u0_5, r0_5, rfl, ⟨Lc0, rfl, lLc0⟩, k0_5⟩ := Cells.cons k0_4
  obtain ⟨u0_6, r0_6, rfl, ⟨Lc1, rfl, lLc1⟩, k0_6⟩ := Cells.cons k0_5
  obtain ⟨u0_7, r0_7, rfl, ⟨Lc2, rfl, lLc2⟩, k0_7⟩ := Cells.cons k0_6
  obtain ⟨u0_8, r0_8, rfl, ⟨Ls0, rfl, lLs0⟩, k0_8⟩ := Cells.cons k0_7
  obtain ⟨u0_9, r0_9, rfl, ⟨Ls1, rfl, lLs1⟩, k0_9⟩ := Cells.cons k0_8
  obtain ⟨u0_10, r0_10, rfl, ⟨Dk, rfl, q6, q7⟩, k0_10⟩ := Cells.cons k0_9
  obtain ⟨u0_11, r0_11, rfl, ⟨Dc0, rfl, lDc0⟩, k0_11⟩ := Cells.cons k0_10
  obtain ⟨u0_12, r0_12, rfl, ⟨Dc1, rfl, lDc1⟩, k0_12⟩ := Cells.cons k0_11
  obtain ⟨u0_13, r0_13, rfl, ⟨Dc2, rfl, lDc2⟩, k0_13⟩ := Cells.cons k0_12
  obtain ⟨u0_14, r0_14, rfl, ⟨Ds0, rfl, lDs0⟩, k0_14⟩ := Cells.cons k0_13
  obtain ⟨u0_15, r0_15, rfl, ⟨Ds1, rfl, lDs1⟩, k0_15⟩ := Cells.cons k0_14
  obtain ⟨u0_16, r0_16, rfl, ⟨ne, rfl, lne⟩, k0_16⟩ := Cells.cons k0_15
  obtain ⟨u0_17, r0_17, rfl, ⟨fa, rfl, lfa⟩, k0_17⟩ := Cells.cons k0_16
  obtain rfl := Cells.nil k0_17
  obtain ⟨ATr, nTr, cTr, bTr, oTr, xTr, rfl, hATr, hnTr, hcTr, hzTr, lnTr, rTr, wTr⟩ := isSl_floats s0_0
  obtain ⟨ABr, nBr, cBr, bBr, oBr, xBr, rfl, hABr, hnBr, hcBr, hzBr, lnBr, rBr, wBr⟩ := isSl_floats s0_2
  rw [agg_of e0]
  obtain ⟨bs, e1, lb, wb⟩ := Cells.floats 16 h1
  rw [agg_of (l := fl bs) e1]
  have hn : nTr ≤ 9223372036854775807 := Nat.le_trans hnTr hcTr
  have hm : nBr ≤ 9223372036854775807 := Nat.le_trans hnBr hcBr
  cases hv : vJet nTr Tj nBr Bj xTr xBr Lk Lc0 Lc1 Lc2 Ls0 Ls1 Dk Dc0 Dc1 Dc2 Ds0 Ds1 ne fa
  · exact law_blockjet_bad nTr cTr ATr bTr oTr xTr Tj nBr cBr ABr bBr oBr xBr Bj Lk Lc0 Lc1 Lc2 Ls0 Ls1 Dk Dc0 Dc1 Dc2 Ds0 Ds1 ne fa bs lnTr hATr lnBr hABr wTr wBr lLs0 lLs1 lDs0 lDs1 hv hn hm lb wb w rTr rBr
  · obtain ⟨⟨i1, i2, i3, i4⟩, j1, j2, j3, j4⟩ := vJet_t hv
    obtain ⟨i, rfl⟩ := Int.eq_ofNat_of_zero_le i3
    obtain ⟨h, rfl⟩ := Int.eq_ofNat_of_zero_le j3
    exact law_blockjet nTr cTr ATr bTr oTr xTr nBr cBr ABr bBr oBr xBr Lk Lc0 Lc1 Lc2 Ls0 Ls1 Dk Dc0 Dc1 Dc2 Ds0 Ds1 ne fa i h bs _ _ lnTr hATr lnBr hABr wTr wBr (by omega) (by omega) i2 j2 lLs0 lLs1 lDs0 lDs1 hv lb wb rfl rfl w rTr rBr

end Go.Proofs.Ytkgdhlhmckdcmaa
