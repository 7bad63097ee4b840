/- The law on striking a string, for whatever comes in. -/
import Derived.Test.YtabfdgpldcegiaaLS7
import Derived.Test.YtabfdgpldcegiaaLS7b
set_option linter.unusedVariables false
namespace Go.Proofs.Ytabfdgpldcegiaa

theorem lawM_law_strike (w : World) (cs0 : Array Value) (v1 : Value) (v2 : Value) (h0 : Cells w [isSl [isF .f32], isI .i64, isI .i64, isF .f32, isF .f32, isF .f32, isF .f32, isF .f32, isI .i64, isF .f32, isF .f32, isF .f32, isF .f32, isF .f32, isF .f32] cs0.toList) (h1 : Cells w [isF .f32] [v1]) (h2 : Cells w [isSl [isF .f32]] [v2]) : Cl Try.prog 8 #[.agg cs0, v1, v2] w fun v w' => v = .bool true ∧ Mod [] w w' := by
  obtain ⟨u0_0, r0_0, e0, s0_0, k0_0⟩ := Cells.cons h0
  obtain ⟨u0_1, r0_1, rfl, ⟨Lj, rfl, q0, q1⟩, k0_1⟩ := Cells.cons k0_0
  obtain ⟨u0_2, r0_2, rfl, ⟨Tk, rfl, q2, q3⟩, k0_2⟩ := Cells.cons k0_1
  obtain ⟨u0_3, r0_3, rfl, ⟨Tc0, rfl, lTc0⟩, k0_3⟩ := Cells.cons k0_2
  obtain ⟨u0_4, r0_4, rfl, ⟨Tc1, rfl, lTc1⟩, k0_4⟩ := Cells.cons k0_3
  obtain ⟨u0_5, r0_5, rfl, ⟨Tc2, rfl, lTc2⟩, k0_5⟩ := Cells.cons k0_4
  obtain ⟨u0_6, r0_6, rfl, ⟨Ts0, rfl, lTs0⟩, k0_6⟩ := Cells.cons k0_5
  obtain ⟨u0_7, r0_7, rfl, ⟨Ts1, rfl, lTs1⟩, k0_7⟩ := Cells.cons k0_6
  obtain ⟨u0_8, r0_8, rfl, ⟨Dk, rfl, q4, q5⟩, k0_8⟩ := Cells.cons k0_7
  obtain ⟨u0_9, r0_9, rfl, ⟨Dc0, rfl, lDc0⟩, k0_9⟩ := Cells.cons k0_8
  obtain ⟨u0_10, r0_10, rfl, ⟨Dc1, rfl, lDc1⟩, k0_10⟩ := Cells.cons k0_9
  obtain ⟨u0_11, r0_11, rfl, ⟨Dc2, rfl, lDc2⟩, k0_11⟩ := Cells.cons k0_10
  obtain ⟨u0_12, r0_12, rfl, ⟨Ds0, rfl, lDs0⟩, k0_12⟩ := Cells.cons k0_11
  obtain ⟨u0_13, r0_13, rfl, ⟨Ds1, rfl, lDs1⟩, k0_13⟩ := Cells.cons k0_12
  obtain ⟨u0_14, r0_14, rfl, ⟨g, rfl, lg⟩, k0_14⟩ := Cells.cons k0_13
  obtain rfl := Cells.nil k0_14
  obtain ⟨ALr, nLr, cLr, bLr, oLr, xLr, rfl, hALr, hnLr, hcLr, hzLr, lnLr, rLr, wLr⟩ := isSl_floats s0_0
  rw [agg_of e0]
  obtain ⟨u1_0, r1_0, e1, ⟨pl, rfl, lpl⟩, k1_0⟩ := Cells.cons h1
  obtain rfl := Cells.nil k1_0
  obtain rfl : v1 = _ := by simpa using e1
  obtain ⟨u2_0, r2_0, e2, s2_0, k2_0⟩ := Cells.cons h2
  obtain rfl := Cells.nil k2_0
  obtain ⟨AH, nH, cH, bH, oH, xH, rfl, hAH, hnH, hcH, hzH, lnH, rH, wH⟩ := isSl_floats s2_0
  obtain rfl : v2 = _ := by simpa using e2
  have hm : nLr ≤ 9223372036854775807 := Nat.le_trans hnLr hcLr
  have hmH : nH ≤ 9223372036854775807 := Nat.le_trans hnH hcH
  by_cases hov : 1048576 < nH
  · exact law_strike_over nLr cLr ALr bLr oLr xLr Lj Tk Tc0 Tc1 Tc2 Ts0 Ts1 Dk Dc0 Dc1 Dc2 Ds0 Ds1 g pl nH cH AH bH oH xH lnLr hALr wLr lTs0 lTs1 lDs0 lDs1 hov hmH lpl lnH hAH wH w rLr rH
  · have hnH' : nH ≤ 1048576 := by omega
    cases hv : vStr nLr Lj Tk Tc0 Tc1 Tc2 Ts0 Ts1 Dk Dc0 Dc1 Dc2 Ds0 Ds1 g
    · exact law_strike_bad nLr cLr ALr bLr oLr xLr Lj Tk Tc0 Tc1 Tc2 Ts0 Ts1 Dk Dc0 Dc1 Dc2 Ds0 Ds1 g pl nH cH AH bH oH xH lnLr hALr wLr lTs0 lTs1 lDs0 lDs1 hv hm hnH' lpl lnH hAH wH w rLr rH
    · obtain ⟨i1, i2, i3, i4⟩ := vStr_t hv
      cases hp : placeF pl
      · exact law_strike_out nLr cLr ALr bLr oLr xLr Lj Tk Tc0 Tc1 Tc2 Ts0 Ts1 Dk Dc0 Dc1 Dc2 Ds0 Ds1 g pl nH cH AH bH oH xH lnLr hALr wLr i2 lTs0 lTs1 lDs0 lDs1 hv hnH' hp lpl lnH hAH wH w rLr rH
      · cases hf : allF xH nH
        · exact law_strike_inf nLr cLr ALr bLr oLr xLr Lj Tk Tc0 Tc1 Tc2 Ts0 Ts1 Dk Dc0 Dc1 Dc2 Ds0 Ds1 g pl nH cH AH bH oH xH lnLr hALr wLr i2 lTs0 lTs1 lDs0 lDs1 hv hnH' hp hf lpl lnH hAH wH w rLr rH
        · obtain ⟨i, rfl⟩ := Int.eq_ofNat_of_zero_le i3
          exact law_strike nLr cLr ALr bLr oLr xLr Tk Tc0 Tc1 Tc2 Ts0 Ts1 Dk Dc0 Dc1 Dc2 Ds0 Ds1 g i pl nH cH AH bH oH xH lnLr hALr wLr (by omega) i2 lTs0 lTs1 lDs0 lDs1 hv (by omega) hnH' hp hf lpl lnH hAH wH w rLr rH

end Go.Proofs.Ytabfdgpldcegiaa
