/- The law on the events between two times, for whatever comes in. -/
import Derived.Test.YtdopidalhkcefaaDoorLW8a
import Derived.Test.YtdopidalhkcefaaDoorE13
set_option linter.unusedVariables false
namespace Go.Proofs.YtdopidalhkcefaaDoor

theorem InR.of {w : World} (cs : List Value) (h : Cells w [isS, isI .i64, isF .f32, isF .f32, isF .f32] cs) : ∃ a : InR, cs = a.cells ∧ (a.name.size ≤ maxLen ∧ a.a < wid .f32 ∧ a.b < wid .f32 ∧ a.c < wid .f32) := by
  obtain ⟨u0, r0, rfl, ⟨s, rfl, hs⟩, h1⟩ := Cells.cons h
  obtain ⟨u1, r1, rfl, ⟨k, rfl, _, _⟩, h2⟩ := Cells.cons h1
  obtain ⟨u2, r2, rfl, ⟨a, rfl, ha⟩, h3⟩ := Cells.cons h2
  obtain ⟨u3, r3, rfl, ⟨b, rfl, hb⟩, h4⟩ := Cells.cons h3
  obtain ⟨u4, r4, rfl, ⟨c, rfl, hc⟩, h5⟩ := Cells.cons h4
  obtain rfl := Cells.nil h5
  exact ⟨⟨s, k, a, b, c⟩, rfl, hs, ha, hb, hc⟩
theorem EvR.of {w : World} (cs : List Value) (h : Cells w [isI .i64, isI .i64, isI .i64, isI .i64, isI .i64, isF .f32] cs) : ∃ a : EvR, cs = a.cells ∧ (EvW a ∧ a.force < wid .f32) := by
  obtain ⟨u0, r0, rfl, ⟨i0, rfl, p0, q0⟩, h1⟩ := Cells.cons h
  obtain ⟨u1, r1, rfl, ⟨i1, rfl, _, _⟩, h2⟩ := Cells.cons h1
  obtain ⟨u2, r2, rfl, ⟨i2, rfl, p2, q2⟩, h3⟩ := Cells.cons h2
  obtain ⟨u3, r3, rfl, ⟨i3, rfl, _, _⟩, h4⟩ := Cells.cons h3
  obtain ⟨u4, r4, rfl, ⟨i4, rfl, _, _⟩, h5⟩ := Cells.cons h4
  obtain ⟨u5, r5, rfl, ⟨b, rfl, hb⟩, h6⟩ := Cells.cons h5
  obtain rfl := Cells.nil h6
  exact ⟨⟨i0, i1, i2, i3, i4, b⟩, rfl, ⟨p0, q0, p2, q2⟩, hb⟩
theorem InR.sizes {es : List InR} (h : ∀ x ∈ es, x.name.size ≤ maxLen ∧ x.a < wid .f32 ∧ x.b < wid .f32 ∧ x.c < wid .f32) : ∀ i, (es.getD i InR.d).name.size ≤ 9223372036854775807 := fun i =>
  Nat.le_trans (getD_all (Pr := fun x : InR => x.name.size ≤ maxLen) (fun x hx => (h x hx).1) (by decide) i) (by decide)
theorem EvR.wide {es : List EvR} (h : ∀ x ∈ es, EvW x ∧ x.force < wid .f32) : ∀ i, EvW (es.getD i EvR.d) := fun i =>
  getD_all (Pr := EvW) (fun x hx => (h x hx).1) ⟨by decide, by decide, by decide, by decide⟩ i
theorem lawM_law_betw (w : World) (cs0 : Array Value) (v1 : Value) (v2 : Value) (h0 : Cells w [isF .f32, isF .f32, isF .f32, isSl [isF .f32], isSl [isS, isI .i64, isF .f32, isF .f32, isF .f32], isSl [isI .i64, isI .i64, isI .i64, isI .i64, isI .i64, isF .f32]] cs0.toList) (h1 : Cells w [isI .i64] [v1]) (h2 : Cells w [isI .i64] [v2]) : Cl Tryd.prog 8 #[.agg cs0, v1, v2] w fun v w' => v = .bool true ∧ Mod [] w w' := by
  obtain ⟨u0_0, r0_0, e0, ⟨ra, rfl, lra⟩, k0_0⟩ := Cells.cons h0
  obtain ⟨u0_1, r0_1, rfl, ⟨ba, rfl, lba⟩, k0_1⟩ := Cells.cons k0_0
  obtain ⟨u0_2, r0_2, rfl, ⟨oc, rfl, loc⟩, k0_2⟩ := Cells.cons k0_1
  obtain ⟨u0_3, r0_3, rfl, s0_3, k0_3⟩ := Cells.cons k0_2
  obtain ⟨u0_4, r0_4, rfl, s0_4, k0_4⟩ := Cells.cons k0_3
  obtain ⟨u0_5, r0_5, rfl, s0_5, k0_5⟩ := Cells.cons k0_4
  obtain rfl := Cells.nil k0_5
  obtain ⟨AD, nD, cD, bD, oD, esD, rfl, hAD, hnD, hcD, hzD, lnD, rD, wD⟩ := isSl_floats s0_3
  obtain ⟨AI, nI, cI, bI, oI, esI, rfl, hAI, hnI, hcI, hzI, lnI, rI, PI⟩ := isSl_recs InR.of s0_4
  obtain ⟨AE, nE, cE, bE, oE, esE, rfl, hAE, hnE, hcE, hzE, lnE, rE, PE⟩ := isSl_recs EvR.of s0_5
  rw [agg_of e0]
  obtain ⟨u1_0, r1_0, e1, ⟨ef, rfl, f0, f1⟩, k1_0⟩ := Cells.cons h1
  obtain rfl := Cells.nil k1_0
  obtain rfl : v1 = _ := by simpa using e1
  obtain ⟨u2_0, r2_0, e2, ⟨et, rfl, t0, t1⟩, k2_0⟩ := Cells.cons h2
  obtain rfl := Cells.nil k2_0
  obtain rfl : v2 = _ := by simpa using e2
  have q1 : nD ≤ 9223372036854775807 := Nat.le_trans (Nat.le_trans hnD hcD) (by decide)
  have q2 : nI ≤ 9223372036854775807 := Nat.le_trans (Nat.le_trans hnI hcI) (by decide)
  have q3 : nE ≤ 9223372036854775807 := Nat.le_trans (Nat.le_trans hnE hcE) (by decide)
  have hS := InR.sizes PI
  have hW := EvR.wide PE
  by_cases h1 : 1048576 < (nD + nI + nmSum esI nI + nE)
  · exact law_betw_o ra ba oc nD cD AD bD oD esD nI cI AI bI oI esI nE cE AE bE oE esE ef et lnD hAD lnI hAI lnE hAE q1 q2 q3 hS hW h1 w rD rI rE
  · exact law_betw ra ba oc nD cD AD bD oD esD nI cI AI bI oI esI nE cE AE bE oE esE ef et lnD hAD lnI hAI lnE hAE (by omega) (by omega) (by omega) hS hW (by omega) w rD rI rE

end Go.Proofs.YtdopidalhkcefaaDoor
