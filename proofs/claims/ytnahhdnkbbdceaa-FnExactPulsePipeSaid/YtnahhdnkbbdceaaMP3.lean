/- The law on a pulse, for whatever comes in. -/
import Derived.Test.YtnahhdnkbbdceaaLP3a
import Derived.Test.YtnahhdnkbbdceaaLP3b
import Derived.Test.YtnahhdnkbbdceaaLP3c
import Derived.Test.YtnahhdnkbbdceaaLP3d
set_option linter.unusedVariables false
namespace Go.Proofs.Ytnahhdnkbbdceaa

theorem lawM_P3 (w : World) (cs0 : Array Value) (v1 : Value) (v2 : Value) (v3 : Value) (h0 : Cells w [isSl [isSl [isF .f32], isI .i64], isSl [isSl [isF .f32], isI .i64], isSl [isF .f32], isI .i64, isF .f32, isF .f32, isF .f32, isF .f32, isF .f32, isB, isF .f32, isF .f32, isF .f32] cs0.toList) (h1 : Cells w [isI .i64] [v1]) (h2 : Cells w [isI .i64] [v2]) (h3 : Cells w [isF .f32] [v3]) : Cl Try.prog 8 #[.agg cs0, v1, v2, v3] w fun v w' => v = .bool true ∧ Mod [] w w' := by
  obtain ⟨u0_0, r0_0, e0, s0_0, k0_0⟩ := Cells.cons h0
  obtain ⟨u0_1, r0_1, rfl, s0_1, k0_1⟩ := Cells.cons k0_0
  obtain ⟨u0_2, r0_2, rfl, s0_2, k0_2⟩ := Cells.cons k0_1
  obtain ⟨u0_3, r0_3, rfl, ⟨k, rfl, k0, k1⟩, k0_3⟩ := Cells.cons k0_2
  obtain ⟨u0_4, r0_4, rfl, ⟨kc0, rfl, lkc0⟩, k0_4⟩ := Cells.cons k0_3
  obtain ⟨u0_5, r0_5, rfl, ⟨kc1, rfl, lkc1⟩, k0_5⟩ := Cells.cons k0_4
  obtain ⟨u0_6, r0_6, rfl, ⟨kc2, rfl, lkc2⟩, k0_6⟩ := Cells.cons k0_5
  obtain ⟨u0_7, r0_7, rfl, ⟨ks0, rfl, lks0⟩, k0_7⟩ := Cells.cons k0_6
  obtain ⟨u0_8, r0_8, rfl, ⟨ks1, rfl, lks1⟩, k0_8⟩ := Cells.cons k0_7
  obtain ⟨u0_9, r0_9, rfl, ⟨op, rfl⟩, k0_9⟩ := Cells.cons k0_8
  obtain ⟨u0_10, r0_10, rfl, ⟨lo, rfl, llo⟩, k0_10⟩ := Cells.cons k0_9
  obtain ⟨u0_11, r0_11, rfl, ⟨re, rfl, lre⟩, k0_11⟩ := Cells.cons k0_10
  obtain ⟨u0_12, r0_12, rfl, ⟨sl, rfl, lsl⟩, k0_12⟩ := Cells.cons k0_11
  obtain rfl := Cells.nil k0_12
  obtain ⟨AR, nR, cR, bR, oR, esR, rfl, hAR, hnR, hcR, hzzR, lnR, rR, okR⟩ := isSl_recs RiR.of s0_0
  obtain ⟨AL, nL, cL, bL, oL, esL, rfl, hAL, hnL, hcL, hzzL, lnL, rL, okL⟩ := isSl_recs RiR.of s0_1
  obtain ⟨AS, nS, cS, bS, oS, xS, rfl, hAS, hnS, hcS, hzzS, lnS, rS, wS⟩ := isSl_floats s0_2
  rw [agg_of e0]
  obtain ⟨u1_0, r1_0, e1, ⟨m, rfl, m0, m1⟩, k1_0⟩ := Cells.cons h1
  obtain rfl := Cells.nil k1_0
  obtain rfl : v1 = _ := by simpa using e1
  obtain ⟨u2_0, r2_0, e2, ⟨pl, rfl, pl0, pl1⟩, k2_0⟩ := Cells.cons h2
  obtain rfl := Cells.nil k2_0
  obtain rfl : v2 = _ := by simpa using e2
  obtain ⟨u3_0, r3_0, e3, ⟨a, rfl, la⟩, k3_0⟩ := Cells.cons h3
  obtain rfl := Cells.nil k3_0
  obtain rfl : v3 = _ := by simpa using e3
  have fesR := InF.of okR
  have fesL := InF.of okL
  have uR : nR ≤ 9223372036854775807 := Nat.le_trans hnR hcR
  have uL : nL ≤ 9223372036854775807 := Nat.le_trans hnL hcL
  have uS : nS ≤ 9223372036854775807 := Nat.le_trans hnS hcS
  by_cases hT : 1048576 < nR + sumR esR nR + (nL + sumR esL nL) + nS
  · exact law_pulse_over nR cR AR bR oR esR nL cL AL bL oL esL nS cS AS bS oS xS k kc0 kc1 kc2 ks0 ks1 op lo re sl m pl a (by first | assumption | omega) (by first | assumption | omega) (by first | assumption | omega) (by first | assumption | omega) (by first | assumption | omega) (by first | assumption | omega) (by first | assumption | omega) (by first | assumption | omega) (by first | assumption | omega) (by first | assumption | omega) (by first | assumption | omega) w rR rL rS fesR fesL
  have zR : ∀ i, (esR.getD i RiR.d).n ≤ 1048576 := fun i => by have := sumR_get lnR i; omega
  have zL : ∀ i, (esL.getD i RiR.d).n ≤ 1048576 := fun i => by have := sumR_get lnL i; omega
  have hT' : nR + sumR esR nR + (nL + sumR esL nL) + nS ≤ 1048576 := by omega
  by_cases hs : 1 ≤ nR ∧ nR ≤ 3 ∧ nL = nR ∧ nS + 1 = nR
  case neg => exact law_pulse_shape nR cR AR bR oR esR nL cL AL bL oL esL nS cS AS bS oS xS k kc0 kc1 kc2 ks0 ks1 op lo re sl m pl a (by first | assumption | omega) (by first | assumption | omega) (by first | assumption | omega) (by first | assumption | omega) (by first | assumption | omega) (by first | assumption | omega) (by first | assumption | omega) (by first | assumption | omega) (by first | assumption | omega) (by first | assumption | omega) (by first | assumption | omega) (by first | assumption | omega) (by first | assumption | omega) (by first | assumption | omega) w rR rL rS fesR fesL
  have p1 : 0 < nR := by omega
  have p2 : 0 < nL := by omega
  cases hv : vPipe nR nL nS (esR.map RiR.rd) (esL.map RiR.rd) xS k kc0 kc1 kc2 ks0 ks1 lo re sl
  · exact law_pulse_bad nR cR AR bR oR esR nL cL AL bL oL esL nS cS AS bS oS xS k kc0 kc1 kc2 ks0 ks1 op lo re sl m pl a (by first | assumption | omega) (by first | assumption | omega) (by first | assumption | omega) (by first | assumption | omega) (by first | assumption | omega) (by first | assumption | omega) (by first | assumption | omega) (by first | assumption | omega) (by first | assumption | omega) (by first | assumption | omega) (by first | assumption | omega) (by first | assumption | omega) (by first | assumption | omega) (by first | assumption | omega) (by first | assumption | omega) (by first | assumption | omega) (by first | assumption | omega) w rR rL rS fesR fesL
  · have hvv := hv
    rw [vPipe_eq hs.1 hs.2.1 hs.2.2.1 hs.2.2.2] at hvv
    simp only [Bool.and_eq_true] at hvv
    have pR := vRings_pos hvv.1.1.1.1.1
    have pL := vRings_pos hvv.1.1.1.1.2
    rw [← hs.2.2.1] at pL
    have gR : GoodD (esR.map RiR.rd) nR := goodD_of fesR hvv.1.1.1.1.1
    have gL : GoodD (esL.map RiR.rd) nL := by rw [hs.2.2.1]; exact goodD_of fesL hvv.1.1.1.1.2
    cases hf : (vIn m 0 (((nR : Nat) : Int) - (1 : Int)) && vIn pl 0 (((((esR.map RiR.rd).getD (m).toNat RD.d).xs.length : Nat) : Int) - (1 : Int)))
    · exact law_pulse_no nR cR AR bR oR esR nL cL AL bL oL esL nS cS AS bS oS xS k kc0 kc1 kc2 ks0 ks1 op lo re sl m pl a (by first | assumption | omega) (by first | assumption | omega) (by first | assumption | omega) (by first | assumption | omega) (by first | assumption | omega) (by first | assumption | omega) (by first | assumption | omega) (by first | assumption | omega) (by first | assumption | omega) (by first | assumption | omega) (by first | assumption | omega) (by first | assumption | omega) (by first | assumption | omega) (by first | assumption | omega) (by first | assumption | omega) (by first | assumption | omega) (by first | assumption | omega) (by first | assumption | omega) w rR rL rS fesR fesL
    · obtain ⟨q1, q2⟩ := Bool.and_eq_true_iff.1 hf
      obtain ⟨q3, q4⟩ := (vIn_t _ _ _).1 q1
      obtain ⟨m, rfl⟩ := Int.eq_ofNat_of_zero_le q3
      obtain ⟨q5, q6⟩ := (vIn_t _ _ _).1 q2
      obtain ⟨pl, rfl⟩ := Int.eq_ofNat_of_zero_le q5
      simp only [Int.toNat_natCast] at q6
      have hm : m < nR := by omega
      have hpl : pl < ((esR.map RiR.rd).getD m RD.d).xs.length := by omega
      have hll : ((esR.map RiR.rd).getD m RD.d).xs.length = ((esL.map RiR.rd).getD m RD.d).xs.length := vLens_get hvv.1.1.1.2 hm
      obtain ⟨aR, heR⟩ := Int.eq_ofNat_of_zero_le (gR.ge m hm)
      obtain ⟨aL, heL⟩ := Int.eq_ofNat_of_zero_le (gL.ge m (by omega))
      have hlR := gR.lt m hm
      have hlL := gL.lt m (by omega)
      rw [heR] at hlR
      rw [heL] at hlL
      have hlR' : aR < ((esR.map RiR.rd).getD m RD.d).xs.length := by omega
      have hlL' : aL < ((esL.map RiR.rd).getD m RD.d).xs.length := by omega
      have wR := gR.wd m
      have wL := gL.wd m
      cases hfa : finF a
      · exact law_pulse_inf nR cR AR bR oR esR nL cL AL bL oL esL nS cS AS bS oS xS k kc0 kc1 kc2 ks0 ks1 op lo re sl m pl a aR aL (by first | assumption | omega) (by first | assumption | omega) (by first | assumption | omega) (by first | assumption | omega) (by first | assumption | omega) (by first | assumption | omega) (by first | assumption | omega) (by first | assumption | omega) (by first | assumption | omega) (by first | assumption | omega) (by first | assumption | omega) (by first | assumption | omega) (by first | assumption | omega) (by first | assumption | omega) (by first | assumption | omega) (by first | assumption | omega) (by first | assumption | omega) (by first | assumption | omega) (by first | assumption | omega) (by first | assumption | omega) (by first | assumption | omega) (by first | assumption | omega) (by first | assumption | omega) (by first | assumption | omega) (by first | assumption | omega) (by first | assumption | omega) (by first | assumption | omega) w rR rL rS fesR fesL
      · by_cases h0 : 0 < nS
        · exact law_pulse nR cR AR bR oR esR nL cL AL bL oL esL nS cS AS bS oS xS k kc0 kc1 kc2 ks0 ks1 op lo re sl m pl a aR aL _ _ (by first | assumption | omega) (by first | assumption | omega) (by first | assumption | omega) (by first | assumption | omega) (by first | assumption | omega) (by first | assumption | omega) (by first | assumption | omega) (by first | assumption | omega) (by first | assumption | omega) (by first | assumption | omega) (by first | assumption | omega) (by first | assumption | omega) (by first | assumption | omega) (by first | assumption | omega) (by first | assumption | omega) (by first | assumption | omega) (by first | assumption | omega) (by first | assumption | omega) (by first | assumption | omega) (by first | assumption | omega) (by first | assumption | omega) (by first | assumption | omega) (by first | assumption | omega) (by first | assumption | omega) (by first | assumption | omega) (by first | assumption | omega) (by first | assumption | omega) (by first | assumption | omega) (by first | assumption | omega) (by first | assumption | omega) (by first | assumption | omega) rfl rfl ((List.length_set).trans (rd_len lnR)) ((List.length_set).trans (rd_len lnL)) (small_set (rd_small fesR zR) (by rw [List.length_set]; exact rd_small fesR zR _)) (small_set (rd_small fesL zL) (by rw [List.length_set]; exact rd_small fesL zL _)) (by first | assumption | omega) w rR rL rS fesR fesL
        · obtain rfl : nS = 0 := by omega
          exact law_pulse0 nR cR AR bR oR esR nL cL AL bL oL esL cS AS bS oS xS k kc0 kc1 kc2 ks0 ks1 op lo re sl m pl a aR aL _ _ (by first | assumption | omega) (by first | assumption | omega) (by first | assumption | omega) (by first | assumption | omega) (by first | assumption | omega) (by first | assumption | omega) (by first | assumption | omega) (by first | assumption | omega) (by first | assumption | omega) (by first | assumption | omega) (by first | assumption | omega) (by first | assumption | omega) (by first | assumption | omega) (by first | assumption | omega) (by first | assumption | omega) (by first | assumption | omega) (by first | assumption | omega) (by first | assumption | omega) (by first | assumption | omega) (by first | assumption | omega) (by first | assumption | omega) (by first | assumption | omega) (by first | assumption | omega) (by first | assumption | omega) (by first | assumption | omega) (by first | assumption | omega) (by first | assumption | omega) (by first | assumption | omega) (by first | assumption | omega) rfl rfl ((List.length_set).trans (rd_len lnR)) ((List.length_set).trans (rd_len lnL)) (small_set (rd_small fesR zR) (by rw [List.length_set]; exact rd_small fesR zR _)) (small_set (rd_small fesL zL) (by rw [List.length_set]; exact rd_small fesL zL _)) (by first | assumption | omega) w rR rL rS fesR fesL

end Go.Proofs.Ytnahhdnkbbdceaa
