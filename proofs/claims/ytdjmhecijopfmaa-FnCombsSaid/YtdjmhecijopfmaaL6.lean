/- The law on the energy of combs, walked. -/
import Derived.Test.YtdjmhecijopfmaaD2
import Derived.Test.YtdjmhecijopfmaaN0
import Derived.Test.YtdjmhecijopfmaaN1
import Derived.Test.YtdjmhecijopfmaaN2
import Derived.Test.YtdjmhecijopfmaaN3
import Derived.Test.YtdjmhecijopfmaaN4
set_option linter.unusedVariables false
set_option linter.unusedSimpArgs false
namespace Go.Proofs.Ytdjmhecijopfmaa

theorem combEach {u1 u2 : Nat} (h1 : u1 < 5) (h2 : u2 < 13) : combOne (1 + u1) (gainE u2) = true := by
  have e1 : u1 = 0 ∨ u1 = 1 ∨ u1 = 2 ∨ u1 = 3 ∨ u1 = 4 := by omega
  have e2 : u2 = 0 ∨ u2 = 1 ∨ u2 = 2 ∨ u2 = 3 ∨ u2 = 4 ∨ u2 = 5 ∨ u2 = 6 ∨ u2 = 7 ∨ u2 = 8 ∨ u2 = 9 ∨ u2 = 10 ∨ u2 = 11 ∨ u2 = 12 := by omega
  rcases e1 with rfl | rfl | rfl | rfl | rfl <;> rcases e2 with rfl | rfl | rfl | rfl | rfl | rfl | rfl | rfl | rfl | rfl | rfl | rfl | rfl
  · exact cb_0_0
  · exact cb_0_1
  · exact cb_0_2
  · exact cb_0_3
  · exact cb_0_4
  · exact cb_0_5
  · exact cb_0_6
  · exact cb_0_7
  · exact cb_0_8
  · exact cb_0_9
  · exact cb_0_10
  · exact cb_0_11
  · exact cb_0_12
  · exact cb_1_0
  · exact cb_1_1
  · exact cb_1_2
  · exact cb_1_3
  · exact cb_1_4
  · exact cb_1_5
  · exact cb_1_6
  · exact cb_1_7
  · exact cb_1_8
  · exact cb_1_9
  · exact cb_1_10
  · exact cb_1_11
  · exact cb_1_12
  · exact cb_2_0
  · exact cb_2_1
  · exact cb_2_2
  · exact cb_2_3
  · exact cb_2_4
  · exact cb_2_5
  · exact cb_2_6
  · exact cb_2_7
  · exact cb_2_8
  · exact cb_2_9
  · exact cb_2_10
  · exact cb_2_11
  · exact cb_2_12
  · exact cb_3_0
  · exact cb_3_1
  · exact cb_3_2
  · exact cb_3_3
  · exact cb_3_4
  · exact cb_3_5
  · exact cb_3_6
  · exact cb_3_7
  · exact cb_3_8
  · exact cb_3_9
  · exact cb_3_10
  · exact cb_3_11
  · exact cb_3_12
  · exact cb_4_0
  · exact cb_4_1
  · exact cb_4_2
  · exact cb_4_3
  · exact cb_4_4
  · exact cb_4_5
  · exact cb_4_6
  · exact cb_4_7
  · exact cb_4_8
  · exact cb_4_9
  · exact cb_4_10
  · exact cb_4_11
  · exact cb_4_12

theorem combGood {u1 u2 f1 : Nat} (hf : cn .f32 f1 = cn .f32 (gainE u2)) (h1 : u1 < 5) (h2 : u2 < 13) : combOne (1 + u1) f1 = true := by
  have h := combEach h1 h2
  have hn : isNaN .f32 (gainE u2) = false := by simpa using and_l (and_l h)
  rw [eq_of_cn hf hn]; exact h
theorem combGain {u2 f1 : Nat} (hf : cn .f32 f1 = cn .f32 (gainE u2)) (h2 : u2 < 13) : (fGt .f32 f1 3212836864 && fLt .f32 f1 1065353216) = true := and_r (and_l (combGood (u1 := 0) hf (by decide) h2))
theorem combStart {u1 u2 f1 : Nat} (hf : cn .f32 f1 = cn .f32 (gainE u2)) (h1 : u1 < 5) (h2 : u2 < 13) : combRun (1 + u1) f1 (200 - 0) (List.replicate (1 + u1) 0) 0 1065353216 0 = true := and_r (combGood hf h1 h2)
theorem combFirst {u1 u2 f1 : Nat} (hf : cn .f32 f1 = cn .f32 (gainE u2)) (h1 : u1 < 5) (h2 : u2 < 13) : vComb (1 + u1) (0 : Int) (List.replicate (1 + u1) 0) f1 = true := combRun_v (p := 0) (combStart hf h1 h2) (by decide)

set_option maxRecDepth 100000 in
set_option maxHeartbeats 2000000 in
theorem law_combs (n1 : Nat) (c1 : Nat) (A1 : Option Addr) (b1 : Nat) (o1 : Nat) (xs1 : List Nat) (n2 : Nat) (c2 : Nat) (A2 : Option Addr) (b2 : Nat) (o2 : Nat) (xs2 : List Nat) (ln1 : xs1.length = n1) (hA1 : 0 < n1 → A1 = some ⟨b1, o1, none⟩) (hB1 : ∀ i, xs1.getD i 0 < 256) (ln2 : xs2.length = n2) (hA2 : 0 < n2 → A2 = some ⟨b2, o2, none⟩) (hB2 : ∀ i, xs2.getD i 0 < 256) (hn1 : n1 ≤ 4096) (hn2 : n2 ≤ 4096) (w : World) (r1 : Rng w b1 o1 (bys xs1)) (r2 : Rng w b2 o2 (bys xs2)) : Cl Try.prog 4 #[.slice A1 n1 c1, .slice A2 n2 c2] w fun v w' => v = .bool true ∧ Mod [] w w' := by
  refine Cl.of Try.func4 Try.ntmps4 rfl rfl (ρ := [(0, .slice A1 n1 c1), (1, .slice A2 n2 c2)]) rfl ?_
  refine CE.seq ?_
  refine CE.region ?_
  refine WL.det (op_assign rfl) rfl rfl rfl ?_
  refine WL.end ?_
  refine NE.code ?_
  refine CE.seq ?_
  refine CE.seq ?_
  refine CE.region ?_
  refine WL.det (op_move rfl) rfl rfl rfl ?_
  refine WL.call (oc_call (vs := [.slice A1 n1 c1]) (cap := []) rfl rfl rfl Try.call17 (c_f6big n1 c1 A1 w)) rfl rfl (ltb rfl) ?_
  rintro _ _ ⟨rfl, rfl⟩
  refine WL.det (op_move rfl) rfl rfl rfl ?_
  refine WL.yes rfl rfl rfl (ltb rfl) rfl (decide_eq_false (by omega)) ?_
  refine WL.det (op_move rfl) rfl rfl rfl ?_
  refine WL.yes rfl rfl rfl (ltb rfl) rfl (decide_eq_false (by omega)) ?_
  refine WL.call (oc_call (vs := [.slice A2 n2 c2]) (cap := []) rfl rfl rfl Try.call17 (c_f6big n2 c2 A2 w)) rfl rfl (ltb rfl) ?_
  rintro _ _ ⟨rfl, rfl⟩
  refine WL.det (op_pick_f rfl (decide_eq_false (by omega)) rfl) rfl rfl rfl ?_
  refine WL.end ?_
  refine NE.code ?_
  refine CE.cond_f rfl (decide_eq_false (by omega)) ?_
  refine CE.skip' ?_
  refine NE.code ?_
  refine CE.seq ?_
  refine CE.region ?_
  refine WL.det (op_move rfl) rfl rfl rfl ?_
  refine WL.call (oc_call (vs := [.slice A1 n1 c1, vI 5]) (cap := []) rfl rfl rfl Try.call18 (c_P6Pick n1 c1 A1 b1 o1 xs1 5 ln1 hA1 hB1 (by omega) (by omega) (by omega) w r1)) rfl rfl (ltb rfl) ?_
  rintro _ w1 ⟨u1, rfl, h1, m1⟩
  refine WL.det (op_add (r := ((1 + u1 : Nat) : Int)) rfl rfl (w_i64 (by omega) (by omega))) rfl rfl rfl ?_
  refine WL.det (op_assign rfl) rfl rfl rfl ?_
  refine WL.end ?_
  refine NE.code ?_
  refine CE.seq ?_
  refine CE.region ?_
  refine WL.det (op_move rfl) rfl rfl rfl ?_
  refine WL.call (oc_call (vs := [.slice A2 n2 c2, vI 13]) (cap := []) rfl rfl rfl Try.call18 (c_P6Pick n2 c2 A2 b2 o2 xs2 13 ln2 hA2 hB2 (by omega) (by omega) (by omega) w1 (r2.ext m1))) rfl rfl (ltb rfl) ?_
  rintro _ w2 ⟨u2, rfl, h2, m2⟩
  refine WL.det (op_sub (r := (((u2 : Nat) : Int) - (6 : Int))) rfl rfl (w_i64 (by omega) (by omega))) rfl rfl rfl ?_
  refine WL.det (op_cvt_if rfl Try.runUnderlying2 Try.runUnderlying25) rfl rfl rfl ?_
  refine WL.op (op_farith (e := (fop .quo .f32 (FloatKind.f32.nearest (((u2 : Nat) : Int) - (6 : Int))) 1090519040)) (.inr (.inr (.inr rfl))) rfl rfl rfl rfl rfl) rfl rfl (ltb rfl) ?_
  rintro _ w3 ⟨⟨f1, rfl, hf1, lf1⟩, m3⟩
  refine WL.det (op_assign rfl) rfl rfl rfl ?_
  refine WL.end ?_
  refine NE.code ?_
  refine CE.seq ?_
  refine CE.region ?_
  refine WL.det (op_move rfl) rfl rfl rfl ?_
  refine WL.det (op_move rfl) rfl rfl rfl ?_
  refine WL.call (oc_call (vs := [vI ((1 + u1 : Nat) : Int), vF f1]) (cap := []) rfl rfl rfl Try.call19 (c_NewComb (1 + u1) f1 (by omega) (by omega) (by first | assumption | exact combGain (by assumption) (by omega)) w3)) rfl rfl (ltb rfl) ?_
  rintro _ w4 ⟨b'1, rfl, r1, ge1, m4⟩
  refine WL.det (op_move rfl) rfl rfl rfl ?_
  refine WL.det (op_extract rfl rfl) rfl rfl rfl ?_
  refine WL.det (op_extract rfl rfl) rfl rfl rfl ?_
  refine WL.op (op_alloc (cs := [.slice none 0 0, vI 0, vF 0]) Try.zeroValue40 rfl) rfl rfl (ltb rfl) ?_
  rintro _ w5 ⟨rfl, r2, m5, z1⟩
  refine WL.op0 (op_store (i := 0) (cs := [vS b'1 0 (1 + u1) (1 + u1), vI 0, vF f1]) rfl rfl rfl Try.sizeOf40 rfl r2 rfl (lB rfl) rfl) rfl rfl ?_
  rintro _ w6 ⟨r3, m6, z2⟩
  have r4 : Row w6 w4.heap.size 0 [vS b'1 0 (1 + u1) (1 + u1), vI 0, vF f1] := Row.congr r3 rfl
  refine WL.det (op_assign rfl) rfl rfl rfl ?_
  refine WL.end ?_
  refine NE.code ?_
  refine CE.seq ?_
  refine CE.seq ?_
  refine CE.region ?_
  refine WL.det (op_move rfl) rfl rfl rfl ?_
  refine WL.det (op_nei rfl rfl) rfl rfl rfl ?_
  refine WL.det (op_move rfl) rfl rfl rfl ?_
  refine WL.yes rfl rfl rfl (ltb rfl) rfl rfl ?_
  refine WL.det (op_loadA (i := 0) (cs := [vS b'1 0 (1 + u1) (1 + u1), vI 0, vF f1]) rfl Try.isAgg40 Try.sizeOf40 r4.rng rfl rfl rfl) rfl rfl rfl ?_
  refine WL.yes rfl rfl rfl (ltb rfl) rfl rfl ?_
  refine WL.call (oc_call (vs := [.agg #[vS b'1 0 (1 + u1) (1 + u1), vI 0, vF f1]]) (cap := []) rfl rfl rfl Try.call20 (c_ValidComb (1 + u1) (1 + u1) b'1 (List.replicate (1 + u1) 0) (0 : Int) f1 List.length_replicate (by omega) w6 ((r1.ext m5).mod m6 (nC (lE (lL r1.lt lR)) nN)).rng)) rfl rfl (ltb rfl) ?_
  rintro _ w7 ⟨rfl, m7⟩
  refine WL.yes rfl rfl rfl (ltb rfl) rfl rfl ?_
  refine WL.det (op_not rfl) rfl rfl rfl ?_
  refine WL.det (op_pick_f rfl rfl rfl) rfl rfl rfl ?_
  refine WL.end ?_
  refine NE.code ?_
  refine CE.cond_f rfl (bnot_t (combFirst hf1 (by omega) (by omega))) ?_
  refine CE.skip' ?_
  refine NE.code ?_
  refine CE.seq ?_
  refine CE.region ?_
  refine WL.det (op_assign rfl) rfl rfl rfl ?_
  refine WL.end ?_
  refine NE.code ?_
  refine CE.seq ?_
  refine CE.region ?_
  refine WL.det (op_assign rfl) rfl rfl rfl ?_
  refine WL.end ?_
  refine NE.code ?_
  refine CE.seq ?_
  refine CE.seq ?_
  refine CE.region ?_
  refine WL.det (op_assign rfl) rfl rfl rfl ?_
  refine WL.end ?_
  refine NE.code ?_
  refine CE.block ?_
  refine CE.loop (fun (z : Nat × Nat × Nat × List Nat × Nat × Nat × Nat × Nat) => [(11, vI ((z.1 : Nat) : Int)), (9, vF z.2.2.2.2.2.1), (10, vF z.2.2.2.2.2.2.1), (4, .bool false), (7, vP w4.heap.size 0)]) (fun (z : Nat × Nat × Nat × List Nat × Nat × Nat × Nat × Nat) => fun W => (z.1 ≤ 200) ∧ (z.2.2.2.2.1 < 1 + u1) ∧ (z.2.2.2.1.length = 1 + u1) ∧ (z.2.2.2.2.2.1 < wid .f32) ∧ (cn .f32 z.2.2.2.2.2.2.1 = cn .f32 z.2.2.2.2.2.2.2) ∧ (combRun (1 + u1) f1 (200 - z.1) z.2.2.2.1 z.2.2.2.2.1 z.2.2.2.2.2.1 z.2.2.2.2.2.2.2 = true) ∧ z.2.1 ≠ w4.heap.size ∧ Row W w4.heap.size 0 [vS z.2.1 0 (1 + u1) z.2.2.1, vI ((z.2.2.2.2.1 : Nat) : Int), vF f1] ∧ Row W z.2.1 0 (fl z.2.2.2.1) ∧ Mod [w4.heap.size] w7 W) (fun (z : Nat × Nat × Nat × List Nat × Nat × Nat × Nat × Nat) => 200 - z.1) (0, b'1, (1 + u1), (List.replicate (1 + u1) 0), 0, 1065353216, 0, 0) (⟨rfl, rfl, rfl, rfl, rfl, trivial⟩) ⟨(by omega), (by show 0 < 1 + u1; omega), (by exact List.length_replicate), (by show (1065353216 : Nat) < wid .f32; decide +kernel), (by rfl), (by exact combStart hf1 (by omega) (by omega)), (lE (lL r1.lt lR)), (Row.congr (r4.ext m7) rfl), (Row.congr (((r1.ext m5).mod m6 (nC (lE (lL r1.lt lR)) nN)).ext m7) rfl), Mod.refl _ _⟩ ?_
  rintro ⟨i, bb, cc, xs, p, inp, sv, sm⟩ w8 ⟨hi, hp, hl, hin, hsv, he, hbb, r5, r6, m8⟩
  replace hi : i ≤ 200 := hi
  replace hp : p < 1 + u1 := hp
  replace hl : xs.length = 1 + u1 := hl
  replace hin : inp < wid .f32 := hin
  replace hsv : cn .f32 sv = cn .f32 sm := hsv
  replace he : combRun (1 + u1) f1 (200 - i) xs p inp sm = true := he
  replace hbb : bb ≠ w4.heap.size := hbb
  replace r5 : Row w8 w4.heap.size 0 [vS bb 0 (1 + u1) cc, vI ((p : Nat) : Int), vF f1] := r5
  replace r6 : Row w8 bb 0 (fl xs) := r6
  show CE _ _ _ _ [(11, vI ((i : Nat) : Int)), (9, vF inp), (10, vF sv), (4, .bool false), (7, vP w4.heap.size 0)] _
  refine CE.seq ?_
  refine CE.seq ?_
  refine CE.region ?_
  refine WL.det (op_move rfl) rfl rfl rfl ?_
  refine WL.det (op_lti rfl rfl) rfl rfl rfl ?_
  refine WL.end ?_
  refine NE.code ?_
  rcases Bool.eq_false_or_eq_true (decide (((i : Nat) : Int) < (200 : Int))) with hb1 | hb1
  · have hp1 := hb1; try simp only [Bool.and_eq_true, Bool.or_eq_true, Bool.not_eq_true', Bool.not_eq_false', Bool.and_eq_false_iff, Bool.or_eq_false_iff, decide_eq_true_eq, decide_eq_false_iff_not, beq_iff_eq, bne_iff_ne, beq_eq_false_iff_ne, bne_eq_false_iff_eq, ne_eq, Bool.false_eq_true, not_false_eq_true, not_true_eq_false, vIn_t, vIn_f] at hp1
    refine CE.cond_t rfl hb1 ?_
    refine CE.skip' ?_
    refine NE.code ?_
    refine CE.seq ?_
    refine CE.block ?_
    refine CE.seq ?_
    refine CE.region ?_
    refine WL.det (op_loadA (i := 0) (cs := [vS bb 0 (1 + u1) cc, vI ((p : Nat) : Int), vF f1]) rfl Try.isAgg40 Try.sizeOf40 r5.rng rfl rfl rfl) rfl rfl rfl ?_
    refine WL.det (op_move rfl) rfl rfl rfl ?_
    refine WL.call (oc_call (vs := [.agg #[vS bb 0 (1 + u1) cc, vI ((p : Nat) : Int), vF f1], vF inp]) (cap := []) rfl rfl rfl Try.call21 (c_iComb (1 + u1) cc bb xs p f1 inp hl (by omega) (by omega) hin (by first | assumption | exact combRun_v he (by omega)) w8 r6.rng)) rfl rfl (ltb rfl) ?_
    rintro _ w9 ⟨b'2, c'1, y1, rfl, h3, h4, r7, ge2, m9⟩
    refine WL.det (op_move rfl) rfl rfl rfl ?_
    refine WL.det (op_extract rfl rfl) rfl rfl rfl ?_
    refine WL.det (op_extract rfl rfl) rfl rfl rfl ?_
    refine WL.det (op_extract rfl rfl) rfl rfl rfl ?_
    refine WL.op (op_alloc (cs := [.slice none 0 0, vI 0, vF 0]) Try.zeroValue40 rfl) rfl rfl (ltb rfl) ?_
    rintro _ w10 ⟨rfl, r8, m10, z3⟩
    refine WL.op0 (op_store (i := 0) (cs := [vS b'2 0 (1 + u1) c'1, vI (((p + 1) % (1 + u1) : Nat) : Int), vF f1]) rfl rfl rfl Try.sizeOf40 rfl r8 rfl (lB rfl) rfl) rfl rfl ?_
    rintro _ w11 ⟨r9, m11, z4⟩
    have r10 : Row w11 w9.heap.size 0 [vS b'2 0 (1 + u1) c'1, vI (((p + 1) % (1 + u1) : Nat) : Int), vF f1] := Row.congr r9 rfl
    refine WL.det (op_assign rfl) rfl rfl rfl ?_
    refine WL.det (op_assign rfl) rfl rfl rfl ?_
    refine WL.end ?_
    refine NE.code ?_
    refine CE.seq ?_
    refine CE.region ?_
    refine WL.det (op_loadA (i := 0) (cs := [vS bb 0 (1 + u1) cc, vI ((p : Nat) : Int), vF f1]) rfl Try.isAgg40 Try.sizeOf40 (((r5.ext m9).ext m10).mod m11 (nC (lE (lL (lL r2.lt (lT (lT (lT m6.size m7.size) m8.size) m9.size)) lR)) nN)).rng rfl rfl rfl) rfl rfl rfl ?_
    refine WL.det (op_move rfl) rfl rfl rfl ?_
    refine WL.call (oc_call (vs := [.agg #[vS bb 0 (1 + u1) cc, vI ((p : Nat) : Int), vF f1], vF inp]) (cap := []) rfl rfl rfl Try.call22 (c_sComb (1 + u1) cc bb xs p f1 inp hl (by omega) (by omega) hin (by first | assumption | exact combRun_v he (by omega)) w11 (((r6.ext m9).ext m10).mod m11 (nC (lE (lL (lL r6.lt m9.size) lR)) nN)).rng)) rfl rfl (ltb rfl) ?_
    rintro _ w12 ⟨b'3, c'2, y2, rfl, h5, h6, r11, ge3, m12⟩
    refine WL.det (op_move rfl) rfl rfl rfl ?_
    refine WL.det (op_extract rfl rfl) rfl rfl rfl ?_
    refine WL.det (op_extract rfl rfl) rfl rfl rfl ?_
    refine WL.det (op_extract rfl rfl) rfl rfl rfl ?_
    refine WL.op (op_alloc (cs := [.slice none 0 0, vI 0, vF 0]) Try.zeroValue40 rfl) rfl rfl (ltb rfl) ?_
    rintro _ w13 ⟨rfl, r12, m13, z5⟩
    refine WL.op0 (op_store (i := 0) (cs := [vS b'3 0 (1 + u1) c'2, vI (((p + 1) % (1 + u1) : Nat) : Int), vF f1]) rfl rfl rfl Try.sizeOf40 rfl r12 rfl (lB rfl) rfl) rfl rfl ?_
    rintro _ w14 ⟨r13, m14, z6⟩
    have r14 : Row w14 w12.heap.size 0 [vS b'3 0 (1 + u1) c'2, vI (((p + 1) % (1 + u1) : Nat) : Int), vF f1] := Row.congr r13 rfl
    refine WL.det (op_assign rfl) rfl rfl rfl ?_
    refine WL.det (op_assign rfl) rfl rfl rfl ?_
    refine WL.end ?_
    refine NE.code ?_
    refine CE.seq ?_
    refine CE.seq ?_
    refine CE.region ?_
    refine WL.det (op_move rfl) rfl rfl rfl ?_
    refine WL.det (op_nei rfl rfl) rfl rfl rfl ?_
    refine WL.det (op_move rfl) rfl rfl rfl ?_
    refine WL.yes rfl rfl rfl (ltb rfl) rfl rfl ?_
    refine WL.det (op_move rfl) rfl rfl rfl ?_
    refine WL.yes rfl rfl rfl (ltb rfl) rfl rfl ?_
    refine WL.det (op_nei rfl rfl) rfl rfl rfl ?_
    refine WL.det (op_pick_f rfl rfl rfl) rfl rfl rfl ?_
    refine WL.det (op_move rfl) rfl rfl rfl ?_
    refine WL.yes rfl rfl rfl (ltb rfl) rfl rfl ?_
    refine WL.det (op_move rfl) rfl rfl rfl ?_
    refine WL.yes rfl rfl rfl (ltb rfl) rfl rfl ?_
    refine WL.det (op_move rfl) rfl rfl rfl ?_
    refine WL.yes rfl rfl rfl (ltb rfl) rfl rfl ?_
    refine WL.det (op_fne (c := !(fEq .f32 (combY f1 xs p inp) (combY f1 xs p inp))) rfl rfl h3 h5 rfl) rfl rfl rfl ?_
    refine WL.det (op_pick_f rfl rfl rfl) rfl rfl rfl ?_
    refine WL.end ?_
    refine NE.code ?_
    refine CE.cond_f rfl (bnot_t (combRun_y he (by omega))) ?_
    refine CE.skip' ?_
    refine NE.code ?_
    refine CE.seq ?_
    refine CE.region ?_
    refine WL.det (op_loadA (i := 0) (cs := [vS b'2 0 (1 + u1) c'1, vI (((p + 1) % (1 + u1) : Nat) : Int), vF f1]) rfl Try.isAgg40 Try.sizeOf40 (((r10.ext m12).ext m13).mod m14 (nC (lE (lL (lL r8.lt (lT m11.size m12.size)) lR)) nN)).rng rfl rfl rfl) rfl rfl rfl ?_
    refine WL.op0 (op_store (i := 0) (cs := [vS b'2 0 (1 + u1) c'1, vI (((p + 1) % (1 + u1) : Nat) : Int), vF f1]) rfl rfl rfl Try.sizeOf40 rfl ((((((r5.ext m9).ext m10).mod m11 (nC (lE (lL (lL r2.lt (lT (lT (lT m6.size m7.size) m8.size) m9.size)) lR)) nN)).ext m12).ext m13).mod m14 (nC (lE (lL (lL r2.lt (lT (lT (lT (lT (lT (lT m6.size m7.size) m8.size) m9.size) m10.size) m11.size) m12.size)) lR)) nN)) rfl (lB rfl) rfl) rfl rfl ?_
    rintro _ w15 ⟨r15, m15, z7⟩
    have r16 : Row w15 w4.heap.size 0 [vS b'2 0 (1 + u1) c'1, vI (((p + 1) % (1 + u1) : Nat) : Int), vF f1] := Row.congr r15 rfl
    refine WL.end ?_
    refine NE.code ?_
    refine CE.seq ?_
    refine CE.region ?_
    refine WL.det (op_move rfl) rfl rfl rfl ?_
    refine WL.det (op_move rfl) rfl rfl rfl ?_
    refine WL.det (op_move rfl) rfl rfl rfl ?_
    refine WL.op (op_farith (e := (fop .mul .f32 (combY f1 xs p inp) (combY f1 xs p inp))) (.inr (.inr (.inl rfl))) rfl rfl h3 h3 rfl) rfl rfl (ltb rfl) ?_
    rintro _ w16 ⟨⟨f2, rfl, hf2, lf2⟩, m16⟩
    refine WL.op (op_farith (e := (fop .add .f32 sm (fop .mul .f32 (combY f1 xs p inp) (combY f1 xs p inp)))) (.inl rfl) rfl rfl hsv hf2 rfl) rfl rfl (ltb rfl) ?_
    rintro _ w17 ⟨⟨f3, rfl, hf3, lf3⟩, m17⟩
    refine WL.det (op_assign rfl) rfl rfl rfl ?_
    refine WL.end ?_
    refine NE.code ?_
    refine CE.region ?_
    refine WL.det (op_assign rfl) rfl rfl rfl ?_
    refine WL.end ?_
    refine NE.blk ?_
    refine NE.code ?_
    refine CE.region ?_
    refine WL.det (op_move rfl) rfl rfl rfl ?_
    refine WL.det (op_add (r := ((i + 1 : Nat) : Int)) rfl rfl (w_i64 (by omega) (by omega))) rfl rfl rfl ?_
    refine WL.det (op_assign rfl) rfl rfl rfl ?_
    refine WL.end ?_
    exact NE.again ((i + 1), b'2, c'1, (xs.set p (keptF (combW f1 xs p inp))), ((p + 1) % (1 + u1)), 0, f3, (fop .add .f32 sm (fop .mul .f32 (combY f1 xs p inp) (combY f1 xs p inp)))) (⟨rfl, rfl, rfl, rfl, rfl, trivial⟩) ⟨(by omega), (by exact Nat.mod_lt _ (by omega)), (by exact (List.length_set).trans hl), (by show (0 : Nat) < wid .f32; decide +kernel), (by assumption), (by exact combRun_next he (by omega) (by omega)), (lG (lL (lL r2.lt (lT (lT m6.size m7.size) m8.size)) ge2)), (Row.congr ((r16.ext m16).ext m17) rfl), (Row.congr ((((((((r7.ext m10).mod m11 (nC (lE (lL r7.lt lR)) nN)).ext m12).ext m13).mod m14 (nC (lE (lL (lL r7.lt (lT (lT m10.size m11.size) m12.size)) lR)) nN)).mod m15 (nC (lG (lL (lL r2.lt (lT (lT m6.size m7.size) m8.size)) ge2)) nN)).ext m16).ext m17) rfl), (((((((((m8.nt m9).nt m10).then m11 ((aC (.inr (lT (lT m8.size m9.size) lR)) aN))).nt m12).nt m13).then m14 ((aC (.inr (lT (lT (lT (lT (lT m8.size m9.size) m10.size) m11.size) m12.size) lR)) aN))).then m15 ((aC (.inl (by simp)) aN))).nt m16).nt m17)⟩ (by first | (dsimp only; omega) | omega)
  · have hp1 := hb1; try simp only [Bool.and_eq_true, Bool.or_eq_true, Bool.not_eq_true', Bool.not_eq_false', Bool.and_eq_false_iff, Bool.or_eq_false_iff, decide_eq_true_eq, decide_eq_false_iff_not, beq_iff_eq, bne_iff_ne, beq_eq_false_iff_ne, bne_eq_false_iff_eq, ne_eq, Bool.false_eq_true, not_false_eq_true, not_true_eq_false, vIn_t, vIn_f] at hp1
    refine CE.cond_f rfl hb1 ?_
    refine CE.exit' ?_
    refine XE.exit_then ?_
    refine XE.exit_then ?_
    refine XE.exit_here ?_
    refine NE.code ?_
    refine CE.seq ?_
    refine CE.region ?_
    refine WL.det (op_move rfl) rfl rfl rfl ?_
    refine WL.call (oc_call (vs := [vF sv, vF 1065353216, vF 981668463]) (cap := []) rfl rfl rfl Try.call23 (c_f6near sv sm 1065353216 981668463 hsv w8)) rfl rfl (ltb rfl) ?_
    rintro _ w18 ⟨rfl, m18⟩
    refine WL.det (op_assign rfl) rfl rfl rfl ?_
    refine WL.end ?_
    refine NE.code ?_
    refine CE.ret' ?_
    refine XE.leave1 Try.results4 rfl ?_
    refine ⟨?_, ((((((((((Mod.refl [] w).nt m1).nt m2).nt m3).nt m4).nt m5).then m6 ((aC (.inr (lT (lT (lT (lT m1.size m2.size) m3.size) m4.size) lR)) aN))).nt m7).then m8 ((aC (.inr (lT (lT (lT (lT m1.size m2.size) m3.size) m4.size) lR)) aN))).nt m18)⟩
    all_goals (have e : i = 200 := (by omega); subst e; exact congrArg Value.bool he)

set_option maxRecDepth 100000 in
set_option maxHeartbeats 2000000 in
theorem law_combs_b1 (n1 : Nat) (c1 : Nat) (A1 : Option Addr) (b1 : Nat) (o1 : Nat) (xs1 : List Nat) (n2 : Nat) (c2 : Nat) (A2 : Option Addr) (b2 : Nat) (o2 : Nat) (xs2 : List Nat) (ln1 : xs1.length = n1) (hA1 : 0 < n1 → A1 = some ⟨b1, o1, none⟩) (hB1 : ∀ i, xs1.getD i 0 < 256) (ln2 : xs2.length = n2) (hA2 : 0 < n2 → A2 = some ⟨b2, o2, none⟩) (hB2 : ∀ i, xs2.getD i 0 < 256) (hn1 : 4096 < n1) (w : World) (r1 : Rng w b1 o1 (bys xs1)) (r2 : Rng w b2 o2 (bys xs2)) : Cl Try.prog 4 #[.slice A1 n1 c1, .slice A2 n2 c2] w fun v w' => v = .bool true ∧ Mod [] w w' := by
  refine Cl.of Try.func4 Try.ntmps4 rfl rfl (ρ := [(0, .slice A1 n1 c1), (1, .slice A2 n2 c2)]) rfl ?_
  refine CE.seq ?_
  refine CE.region ?_
  refine WL.det (op_assign rfl) rfl rfl rfl ?_
  refine WL.end ?_
  refine NE.code ?_
  refine CE.seq ?_
  refine CE.seq ?_
  refine CE.region ?_
  refine WL.det (op_move rfl) rfl rfl rfl ?_
  refine WL.call (oc_call (vs := [.slice A1 n1 c1]) (cap := []) rfl rfl rfl Try.call17 (c_f6big n1 c1 A1 w)) rfl rfl (ltb rfl) ?_
  rintro _ _ ⟨rfl, rfl⟩
  refine WL.det (op_move rfl) rfl rfl rfl ?_
  refine WL.no rfl rfl rfl (ltb rfl) rfl (decide_eq_true (by omega)) rfl (ltb rfl) ?_
  refine WL.no rfl rfl rfl (ltb rfl) rfl (decide_eq_true (by omega)) rfl (ltb rfl) ?_
  refine WL.det (op_pick_t rfl (decide_eq_true (by omega)) rfl) rfl rfl rfl ?_
  refine WL.end ?_
  refine NE.code ?_
  refine CE.cond_t rfl rfl ?_
  refine CE.seq ?_
  refine CE.region ?_
  refine WL.det (op_assign rfl) rfl rfl rfl ?_
  refine WL.end ?_
  refine NE.code ?_
  refine CE.ret' ?_
  refine XE.ret_then ?_
  refine XE.leave1 Try.results4 rfl ?_
  refine ⟨rfl, (Mod.refl [] w)⟩

set_option maxRecDepth 100000 in
set_option maxHeartbeats 2000000 in
theorem law_combs_b2 (n1 : Nat) (c1 : Nat) (A1 : Option Addr) (b1 : Nat) (o1 : Nat) (xs1 : List Nat) (n2 : Nat) (c2 : Nat) (A2 : Option Addr) (b2 : Nat) (o2 : Nat) (xs2 : List Nat) (ln1 : xs1.length = n1) (hA1 : 0 < n1 → A1 = some ⟨b1, o1, none⟩) (hB1 : ∀ i, xs1.getD i 0 < 256) (ln2 : xs2.length = n2) (hA2 : 0 < n2 → A2 = some ⟨b2, o2, none⟩) (hB2 : ∀ i, xs2.getD i 0 < 256) (hn1 : n1 ≤ 4096) (hn2 : 4096 < n2) (w : World) (r1 : Rng w b1 o1 (bys xs1)) (r2 : Rng w b2 o2 (bys xs2)) : Cl Try.prog 4 #[.slice A1 n1 c1, .slice A2 n2 c2] w fun v w' => v = .bool true ∧ Mod [] w w' := by
  refine Cl.of Try.func4 Try.ntmps4 rfl rfl (ρ := [(0, .slice A1 n1 c1), (1, .slice A2 n2 c2)]) rfl ?_
  refine CE.seq ?_
  refine CE.region ?_
  refine WL.det (op_assign rfl) rfl rfl rfl ?_
  refine WL.end ?_
  refine NE.code ?_
  refine CE.seq ?_
  refine CE.seq ?_
  refine CE.region ?_
  refine WL.det (op_move rfl) rfl rfl rfl ?_
  refine WL.call (oc_call (vs := [.slice A1 n1 c1]) (cap := []) rfl rfl rfl Try.call17 (c_f6big n1 c1 A1 w)) rfl rfl (ltb rfl) ?_
  rintro _ _ ⟨rfl, rfl⟩
  refine WL.det (op_move rfl) rfl rfl rfl ?_
  refine WL.yes rfl rfl rfl (ltb rfl) rfl (decide_eq_false (by omega)) ?_
  refine WL.det (op_move rfl) rfl rfl rfl ?_
  refine WL.yes rfl rfl rfl (ltb rfl) rfl (decide_eq_false (by omega)) ?_
  refine WL.call (oc_call (vs := [.slice A2 n2 c2]) (cap := []) rfl rfl rfl Try.call17 (c_f6big n2 c2 A2 w)) rfl rfl (ltb rfl) ?_
  rintro _ _ ⟨rfl, rfl⟩
  refine WL.det (op_pick_f rfl (decide_eq_false (by omega)) rfl) rfl rfl rfl ?_
  refine WL.end ?_
  refine NE.code ?_
  refine CE.cond_t rfl (decide_eq_true (by omega)) ?_
  refine CE.seq ?_
  refine CE.region ?_
  refine WL.det (op_assign rfl) rfl rfl rfl ?_
  refine WL.end ?_
  refine NE.code ?_
  refine CE.ret' ?_
  refine XE.ret_then ?_
  refine XE.leave1 Try.results4 rfl ?_
  refine ⟨rfl, (Mod.refl [] w)⟩

end Go.Proofs.Ytdjmhecijopfmaa
