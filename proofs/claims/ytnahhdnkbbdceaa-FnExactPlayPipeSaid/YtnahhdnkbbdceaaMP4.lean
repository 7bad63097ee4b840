/- The law on plays, for whatever comes in. -/
import Derived.Test.YtnahhdnkbbdceaaLP4a
import Derived.Test.YtnahhdnkbbdceaaLP4b
import Derived.Test.YtnahhdnkbbdceaaLP4c
import Derived.Test.YtnahhdnkbbdceaaLP4d
set_option linter.unusedVariables false
namespace Go.Proofs.Ytnahhdnkbbdceaa

theorem lawM_P4 (w : World) (cs0 : Array Value) (v1 : Value) (h0 : Cells w [isSl [isSl [isF .f32], isI .i64], isSl [isSl [isF .f32], isI .i64], isSl [isF .f32], isI .i64, isF .f32, isF .f32, isF .f32, isF .f32, isF .f32, isB, isF .f32, isF .f32, isF .f32] cs0.toList) (h1 : Cells w [isSl [isF .f32]] [v1]) : Cl Try.prog 12 #[.agg cs0, v1] w fun v w' => v = .bool true ∧ Mod [] w w' := by
  obtain ⟨u0_0, r0_0, e0, s0_0, k0_0⟩ := Cells.cons h0
  obtain ⟨u0_1, r0_1, rfl, s0_1, k0_1⟩ := Cells.cons k0_0
  obtain ⟨u0_2, r0_2, rfl, s0_2, k0_2⟩ := Cells.cons k0_1
  obtain ⟨u0_3, r0_3, rfl, ⟨k, rfl, k0, k1⟩, k0_3⟩ := Cells.cons k0_2
  obtain ⟨u0_4, r0_4, rfl, ⟨kc0, rfl, lkc0⟩, k0_4⟩ := Cells.cons k0_3
  obtain ⟨u0_5, r0_5, rfl, ⟨kc1, rfl, lkc1⟩, k0_5⟩ := Cells.cons k0_4
  obtain ⟨u0_6, r0_6, rfl, ⟨kc2, rfl, lkc2⟩, k0_6⟩ := Cells.cons k0_5
  obtain ⟨u0_7, r0_7, rfl, ⟨ks0, rfl, lks0⟩, k0_7⟩ := Cells.cons k0_6
  obtain ⟨u0_8, r0_8, rfl, ⟨ks1, rfl, lks1⟩, k0_8⟩ := Cells.cons k0_7
  obtain ⟨u0_9, r0_9, rfl, ⟨op, rfl⟩, k0_9⟩ := Cells.cons k0_8
  obtain ⟨u0_10, r0_10, rfl, ⟨lo, rfl, llo⟩, k0_10⟩ := Cells.cons k0_9
  obtain ⟨u0_11, r0_11, rfl, ⟨re, rfl, lre⟩, k0_11⟩ := Cells.cons k0_10
  obtain ⟨u0_12, r0_12, rfl, ⟨sl, rfl, lsl⟩, k0_12⟩ := Cells.cons k0_11
  obtain rfl := Cells.nil k0_12
  obtain ⟨AR, nR, cR, bR, oR, esR, rfl, hAR, hnR, hcR, hzzR, lnR, rR, okR⟩ := isSl_recs RiR.of s0_0
  obtain ⟨AL, nL, cL, bL, oL, esL, rfl, hAL, hnL, hcL, hzzL, lnL, rL, okL⟩ := isSl_recs RiR.of s0_1
  obtain ⟨AS, nS, cS, bS, oS, xS, rfl, hAS, hnS, hcS, hzzS, lnS, rS, wS⟩ := isSl_floats s0_2
  rw [agg_of e0]
  obtain ⟨u1_0, r1_0, e1, s1_0, k1_0⟩ := Cells.cons h1
  obtain rfl := Cells.nil k1_0
  obtain ⟨Al, l, cl, bl, ol, ss, rfl, hAl, hnl, hcl, hzl, ls, rl, wl⟩ := isSl_floats s1_0
  obtain rfl : v1 = _ := by simpa using e1
  have fesR := InF.of okR
  have fesL := InF.of okL
  have uR : nR ≤ 9223372036854775807 := Nat.le_trans hnR hcR
  have uL : nL ≤ 9223372036854775807 := Nat.le_trans hnL hcL
  have uS : nS ≤ 9223372036854775807 := Nat.le_trans hnS hcS
  by_cases hQ : 1048576 < l
  · exact law_play_long nR cR AR bR oR esR nL cL AL bL oL esL nS cS AS bS oS xS k kc0 kc1 kc2 ks0 ks1 op lo re sl l cl Al bl ol ss (by first | assumption | omega) (by first | assumption | omega) (by first | assumption | omega) (by first | assumption | omega) (by first | assumption | omega) (by first | assumption | omega) (by first | assumption | omega) (by first | assumption | omega) (by first | assumption | omega) (by first | assumption | omega) w rR rL rS rl fesR fesL
  have hQ' : l ≤ 1048576 := by omega
  by_cases hT : 1048576 < nR + sumR esR nR + (nL + sumR esL nL) + nS
  · exact law_play_over nR cR AR bR oR esR nL cL AL bL oL esL nS cS AS bS oS xS k kc0 kc1 kc2 ks0 ks1 op lo re sl l cl Al bl ol ss (by first | assumption | omega) (by first | assumption | omega) (by first | assumption | omega) (by first | assumption | omega) (by first | assumption | omega) (by first | assumption | omega) (by first | assumption | omega) (by first | assumption | omega) (by first | assumption | omega) (by first | assumption | omega) (by first | assumption | omega) (by first | assumption | omega) (by first | assumption | omega) (by first | assumption | omega) w rR rL rS rl fesR fesL
  have zR : ∀ i, (esR.getD i RiR.d).n ≤ 1048576 := fun i => by have := sumR_get lnR i; omega
  have zL : ∀ i, (esL.getD i RiR.d).n ≤ 1048576 := fun i => by have := sumR_get lnL i; omega
  have hT' : nR + sumR esR nR + (nL + sumR esL nL) + nS ≤ 1048576 := by omega
  have mR : nR ≤ 1048576 := by omega
  have mL : nL ≤ 1048576 := by omega
  have mS : nS ≤ 1048576 := by omega
  cases hv : vPipe nR nL nS (esR.map RiR.rd) (esL.map RiR.rd) xS k kc0 kc1 kc2 ks0 ks1 lo re sl
  · exact law_play_inv nR cR AR bR oR esR nL cL AL bL oL esL nS cS AS bS oS xS k kc0 kc1 kc2 ks0 ks1 op lo re sl l cl Al bl ol ss (by first | assumption | omega) (by first | assumption | omega) (by first | assumption | omega) (by first | assumption | omega) (by first | assumption | omega) (by first | assumption | omega) (by first | assumption | omega) (by first | assumption | omega) (by first | assumption | omega) (by first | assumption | omega) (by first | assumption | omega) (by first | assumption | omega) (by first | assumption | omega) (by first | assumption | omega) (by first | assumption | omega) (by first | assumption | omega) (by first | assumption | omega) w rR rL rS rl fesR fesL
  · have hs := vPipe_hs hv
    have p1 : 0 < nR := by omega
    have p2 : 0 < nL := by omega
    have hvv := hv
    rw [vPipe_eq hs.1 hs.2.1 hs.2.2.1 hs.2.2.2] at hvv
    simp only [Bool.and_eq_true] at hvv
    have pR := vRings_pos hvv.1.1.1.1.1
    have pL := vRings_pos hvv.1.1.1.1.2
    rw [← hs.2.2.1] at pL
    have gR : GoodD (esR.map RiR.rd) nR := goodD_of fesR hvv.1.1.1.1.1
    have gL : GoodD (esL.map RiR.rd) nL := by rw [hs.2.2.1]; exact goodD_of fesL hvv.1.1.1.1.2
    by_cases hK : 4096 < l
    · exact law_play_lim nR cR AR bR oR esR nL cL AL bL oL esL nS cS AS bS oS xS k kc0 kc1 kc2 ks0 ks1 op lo re sl l cl Al bl ol ss (by first | assumption | omega) (by first | assumption | omega) (by first | assumption | omega) (by first | assumption | omega) (by first | assumption | omega) (by first | assumption | omega) (by first | assumption | omega) (by first | assumption | omega) (by first | assumption | omega) (by first | assumption | omega) (by first | assumption | omega) (by first | assumption | omega) (by first | assumption | omega) (by first | assumption | omega) (by first | assumption | omega) (by first | assumption | omega) (by first | assumption | omega) (by first | assumption | omega) (by first | assumption | omega) (by first | assumption | omega) (by first | assumption | omega) w rR rL rS rl fesR fesL
    · by_cases h0 : 0 < nS
      · exact law_play nR cR AR bR oR esR nL cL AL bL oL esL nS cS AS bS oS xS k kc0 kc1 kc2 ks0 ks1 op lo re sl l cl Al bl ol ss _ _ (by first | assumption | omega) (by first | assumption | omega) (by first | assumption | omega) (by first | assumption | omega) (by first | assumption | omega) (by first | assumption | omega) (by first | assumption | omega) (by first | assumption | omega) (by first | assumption | omega) (by first | assumption | omega) (by first | assumption | omega) (by first | assumption | omega) (by first | assumption | omega) (by first | assumption | omega) (by first | assumption | omega) (by first | assumption | omega) (by first | assumption | omega) (by first | assumption | omega) (by first | assumption | omega) (by first | assumption | omega) (by first | assumption | omega) (by first | assumption | omega) (by first | assumption | omega) (by first | assumption | omega) (by first | assumption | omega) (by first | assumption | omega) rfl rfl (pipeAt_lenR (rd_len lnR) _) (pipeAt_lenL (rd_len lnL) _) (fun i => Nat.le_trans (Nat.le_of_eq (pipeAt_lens i _).1) (rd_small fesR zR i)) (fun i => Nat.le_trans (Nat.le_of_eq (pipeAt_lens i _).2) (rd_small fesL zL i)) (by first | assumption | omega) (by first | assumption | omega) (by first | assumption | omega) w rR rL rS rl fesR fesL
      · obtain rfl : nS = 0 := by omega
        exact law_play0 nR cR AR bR oR esR nL cL AL bL oL esL cS AS bS oS xS k kc0 kc1 kc2 ks0 ks1 op lo re sl l cl Al bl ol ss _ _ (by first | assumption | omega) (by first | assumption | omega) (by first | assumption | omega) (by first | assumption | omega) (by first | assumption | omega) (by first | assumption | omega) (by first | assumption | omega) (by first | assumption | omega) (by first | assumption | omega) (by first | assumption | omega) (by first | assumption | omega) (by first | assumption | omega) (by first | assumption | omega) (by first | assumption | omega) (by first | assumption | omega) (by first | assumption | omega) (by first | assumption | omega) (by first | assumption | omega) (by first | assumption | omega) (by first | assumption | omega) (by first | assumption | omega) (by first | assumption | omega) (by first | assumption | omega) (by first | assumption | omega) rfl rfl (pipeAt_lenR (rd_len lnR) _) (pipeAt_lenL (rd_len lnL) _) (fun i => Nat.le_trans (Nat.le_of_eq (pipeAt_lens i _).1) (rd_small fesR zR i)) (fun i => Nat.le_trans (Nat.le_of_eq (pipeAt_lens i _).2) (rd_small fesL zL i)) (by first | assumption | omega) (by first | assumption | omega) (by first | assumption | omega) w rR rL rS rl fesR fesL

end Go.Proofs.Ytnahhdnkbbdceaa
