/- The law on a step of a filter, walked. -/
import Derived.Test.YtdjmhecijopfmaaB3
import Derived.Test.YtdjmhecijopfmaaE8
set_option linter.unusedVariables false
set_option linter.unusedSimpArgs false
namespace Go.Proofs.Ytdjmhecijopfmaa

set_option maxRecDepth 100000 in
theorem law_stepF (kd : Int) (c0 : Nat) (c1 : Nat) (c2 : Nat) (s0 : Nat) (s1 : Nat) (a : Nat) (l0 : s0 < wid .f32) (l1 : s1 < wid .f32) (la : a < wid .f32) (w : World) : Cl Try.prog 6 #[.agg #[.int .i64 kd, .float .f32 c0, .float .f32 c1, .float .f32 c2, .float .f32 s0, .float .f32 s1], .float .f32 a] w fun v w' => v = .bool true ∧ Mod [] w w' := by
  refine Cl.of Try.func6 Try.ntmps6 rfl rfl (ρ := [(0, .agg #[.int .i64 kd, .float .f32 c0, .float .f32 c1, .float .f32 c2, .float .f32 s0, .float .f32 s1]), (1, .float .f32 a)]) rfl ?_
  refine CE.seq ?_
  refine CE.region ?_
  refine WL.op (op_box (cs := [.int .i64 kd, .float .f32 c0, .float .f32 c1, .float .f32 c2, .float .f32 s0, .float .f32 s1]) rfl rfl) rfl rfl (ltb rfl) ?_
  rintro _ w1 ⟨rfl, r1, m1, z1⟩
  refine WL.det (op_assign rfl) rfl rfl rfl ?_
  refine WL.end ?_
  refine NE.code ?_
  refine CE.seq ?_
  refine CE.region ?_
  refine WL.det (op_loadA (i := 0) (cs := [.int .i64 kd, .float .f32 c0, .float .f32 c1, .float .f32 c2, .float .f32 s0, .float .f32 s1]) rfl Try.isAgg51 Try.sizeOf51 r1.rng rfl rfl rfl) rfl rfl rfl ?_
  refine WL.call (oc_call (vs := [.agg #[.int .i64 kd, .float .f32 c0, .float .f32 c1, .float .f32 c2, .float .f32 s0, .float .f32 s1]]) (cap := []) rfl rfl rfl Try.call25 (c_toFilter kd c0 c1 c2 s0 s1 w1)) rfl rfl (ltb rfl) ?_
  rintro _ w2 ⟨rfl, m2⟩
  refine WL.det (op_move rfl) rfl rfl rfl ?_
  rcases Bool.eq_false_or_eq_true (vFil kd c0 c1 c2 s0 s1) with hb1 | hb1
  · refine WL.call (oc_call (vs := [.agg #[.int .i64 kd, .float .f32 c0, .float .f32 c1, .float .f32 c2, .float .f32 s0, .float .f32 s1], .float .f32 a]) (cap := []) rfl rfl rfl Try.call27 (c_sStepF kd c0 c1 c2 s0 s1 a l0 l1 la (by assumption) w2)) rfl rfl (ltb rfl) ?_
    rintro _ w3 ⟨y1, rfl, h1, h2, m3⟩
    refine WL.det (op_move rfl) rfl rfl rfl ?_
    refine WL.det (op_extract rfl rfl) rfl rfl rfl ?_
    refine WL.det (op_extract rfl rfl) rfl rfl rfl ?_
    refine WL.det (op_extract rfl rfl) rfl rfl rfl ?_
    refine WL.op (op_alloc (cs := [.int .i64 0, .float .f32 0, .float .f32 0, .float .f32 0, .float .f32 0, .float .f32 0]) Try.zeroValue54 rfl) rfl rfl (ltb rfl) ?_
    rintro _ w4 ⟨rfl, r2, m4, z2⟩
    refine WL.op0 (op_store (i := 0) (cs := [.int .i64 kd, .float .f32 c0, .float .f32 c1, .float .f32 c2, .float .f32 (stepS kd c0 c1 c2 s0 s1 a), .float .f32 (stepT kd c0 c1 c2 s0 s1 a)]) rfl rfl rfl Try.sizeOf54 rfl r2 rfl (Nat.le_of_ble_eq_true rfl) rfl) rfl rfl ?_
    rintro _ w5 ⟨r3, m5, z3⟩
    have r4 : Row w5 w3.heap.size 0 [.int .i64 kd, .float .f32 c0, .float .f32 c1, .float .f32 c2, .float .f32 (stepS kd c0 c1 c2 s0 s1 a), .float .f32 (stepT kd c0 c1 c2 s0 s1 a)] := Row.congr r3 rfl
    refine WL.det (op_assign rfl) rfl rfl rfl ?_
    refine WL.det (op_assign rfl) rfl rfl rfl ?_
    refine WL.end ?_
    refine NE.code ?_
    refine CE.seq ?_
    refine CE.region ?_
    refine WL.det (op_loadA (i := 0) (cs := [.int .i64 kd, .float .f32 c0, .float .f32 c1, .float .f32 c2, .float .f32 s0, .float .f32 s1]) rfl Try.isAgg51 Try.sizeOf51 ((((r1.ext m2).ext m3).ext m4).mod m5 (notin1 (Nat.ne_of_lt (Nat.lt_of_lt_of_le (Nat.lt_of_lt_of_le r1.lt (Nat.le_trans m2.size m3.size)) (Nat.le_refl _))))).rng rfl rfl rfl) rfl rfl rfl ?_
    refine WL.call (oc_call (vs := [.agg #[.int .i64 kd, .float .f32 c0, .float .f32 c1, .float .f32 c2, .float .f32 s0, .float .f32 s1]]) (cap := []) rfl rfl rfl Try.call25 (c_toFilter kd c0 c1 c2 s0 s1 w5)) rfl rfl (ltb rfl) ?_
    rintro _ w6 ⟨rfl, m6⟩
    refine WL.det (op_move rfl) rfl rfl rfl ?_
    refine WL.call (oc_call (vs := [.agg #[.int .i64 kd, .float .f32 c0, .float .f32 c1, .float .f32 c2, .float .f32 s0, .float .f32 s1], .float .f32 a]) (cap := []) rfl rfl rfl Try.call28 (c_iStepF kd c0 c1 c2 s0 s1 a l0 l1 la (by assumption) w6)) rfl rfl (ltb rfl) ?_
    rintro _ w7 ⟨y2, rfl, h3, h4, m7⟩
    refine WL.det (op_move rfl) rfl rfl rfl ?_
    refine WL.det (op_extract rfl rfl) rfl rfl rfl ?_
    refine WL.det (op_extract rfl rfl) rfl rfl rfl ?_
    refine WL.det (op_extract rfl rfl) rfl rfl rfl ?_
    refine WL.op (op_alloc (cs := [.int .i64 0, .float .f32 0, .float .f32 0, .float .f32 0, .float .f32 0, .float .f32 0]) Try.zeroValue54 rfl) rfl rfl (ltb rfl) ?_
    rintro _ w8 ⟨rfl, r5, m8, z4⟩
    refine WL.op0 (op_store (i := 0) (cs := [.int .i64 kd, .float .f32 c0, .float .f32 c1, .float .f32 c2, .float .f32 (stepS kd c0 c1 c2 s0 s1 a), .float .f32 (stepT kd c0 c1 c2 s0 s1 a)]) rfl rfl rfl Try.sizeOf54 rfl r5 rfl (Nat.le_of_ble_eq_true rfl) rfl) rfl rfl ?_
    rintro _ w9 ⟨r6, m9, z5⟩
    have r7 : Row w9 w7.heap.size 0 [.int .i64 kd, .float .f32 c0, .float .f32 c1, .float .f32 c2, .float .f32 (stepS kd c0 c1 c2 s0 s1 a), .float .f32 (stepT kd c0 c1 c2 s0 s1 a)] := Row.congr r6 rfl
    refine WL.det (op_assign rfl) rfl rfl rfl ?_
    refine WL.det (op_assign rfl) rfl rfl rfl ?_
    refine WL.end ?_
    refine NE.code ?_
    refine CE.seq ?_
    refine CE.seq ?_
    refine CE.region ?_
    refine WL.det (op_loadA (i := 0) (cs := [.int .i64 kd, .float .f32 c0, .float .f32 c1, .float .f32 c2, .float .f32 (stepS kd c0 c1 c2 s0 s1 a), .float .f32 (stepT kd c0 c1 c2 s0 s1 a)]) rfl Try.isAgg54 Try.sizeOf54 r7.rng rfl rfl rfl) rfl rfl rfl ?_
    refine WL.det (op_loadA (i := 0) (cs := [.int .i64 kd, .float .f32 c0, .float .f32 c1, .float .f32 c2, .float .f32 (stepS kd c0 c1 c2 s0 s1 a), .float .f32 (stepT kd c0 c1 c2 s0 s1 a)]) rfl Try.isAgg54 Try.sizeOf54 ((((r4.ext m6).ext m7).ext m8).mod m9 (notin1 (Nat.ne_of_lt (Nat.lt_of_lt_of_le (Nat.lt_of_lt_of_le r2.lt (Nat.le_trans (Nat.le_trans m5.size m6.size) m7.size)) (Nat.le_refl _))))).rng rfl rfl rfl) rfl rfl rfl ?_
    refine WL.call (oc_call (vs := [.agg #[.int .i64 kd, .float .f32 c0, .float .f32 c1, .float .f32 c2, .float .f32 (stepS kd c0 c1 c2 s0 s1 a), .float .f32 (stepT kd c0 c1 c2 s0 s1 a)], .agg #[.int .i64 kd, .float .f32 c0, .float .f32 c1, .float .f32 c2, .float .f32 (stepS kd c0 c1 c2 s0 s1 a), .float .f32 (stepT kd c0 c1 c2 s0 s1 a)]]) (cap := []) rfl rfl rfl Try.call29 (c_eqFilter kd c0 c1 c2 (stepS kd c0 c1 c2 s0 s1 a) (stepT kd c0 c1 c2 s0 s1 a) w9)) rfl rfl (ltb rfl) ?_
    rintro _ w10 ⟨rfl, m10⟩
    refine WL.det (op_not rfl) rfl rfl rfl ?_
    refine WL.det (op_move rfl) rfl rfl rfl ?_
    refine WL.yes rfl rfl rfl (ltb rfl) rfl rfl ?_
    refine WL.det (op_move rfl) rfl rfl rfl ?_
    refine WL.yes rfl rfl rfl (ltb rfl) rfl rfl ?_
    refine WL.op (op_widen (e := (wide (stepY kd c0 c1 c2 s0 s1 a))) rfl h3 Try.runUnderlying25 Try.runUnderlying33 rfl) rfl rfl (ltb rfl) ?_
    rintro _ w11 ⟨⟨f1, rfl, hf1, lf1⟩, m11⟩
    refine WL.yes rfl rfl rfl (ltb rfl) rfl rfl ?_
    refine WL.det (op_move rfl) rfl rfl rfl ?_
    refine WL.yes rfl rfl rfl (ltb rfl) rfl rfl ?_
    refine WL.op (op_widen (e := (wide (stepY kd c0 c1 c2 s0 s1 a))) rfl h1 Try.runUnderlying25 Try.runUnderlying33 rfl) rfl rfl (ltb rfl) ?_
    rintro _ w12 ⟨⟨f2, rfl, hf2, lf2⟩, m12⟩
    refine WL.yes rfl rfl rfl (ltb rfl) rfl rfl ?_
    refine WL.call (oc_call (vs := [.float .f64 f1, .float .f64 f2]) (cap := []) rfl rfl rfl Try.call14 (c_sameFloat f1 (wide (stepY kd c0 c1 c2 s0 s1 a)) f2 (wide (stepY kd c0 c1 c2 s0 s1 a)) hf1 hf2 w12)) rfl rfl (ltb rfl) ?_
    rintro _ w13 ⟨rfl, m13⟩
    refine WL.yes rfl rfl rfl (ltb rfl) rfl rfl ?_
    refine WL.det (op_not rfl) rfl rfl rfl ?_
    refine WL.det (op_pick_f rfl rfl rfl) rfl rfl rfl ?_
    refine WL.det (op_move rfl) rfl rfl rfl ?_
    refine WL.yes rfl rfl rfl (ltb rfl) rfl (bnot_t (sameF_self _)) ?_
    refine WL.det (op_move rfl) rfl rfl rfl ?_
    refine WL.yes rfl rfl rfl (ltb rfl) rfl (bnot_t (sameF_self _)) ?_
    refine WL.det (op_move rfl) rfl rfl rfl ?_
    refine WL.yes rfl rfl rfl (ltb rfl) rfl (bnot_t (sameF_self _)) ?_
    refine WL.det (op_nei rfl rfl) rfl rfl rfl ?_
    refine WL.det (op_pick_f rfl (bnot_t (sameF_self _)) rfl) rfl rfl rfl ?_
    refine WL.end ?_
    refine NE.code ?_
    refine CE.cond_f rfl rfl ?_
    refine CE.skip' ?_
    refine NE.code ?_
    refine CE.seq ?_
    refine CE.region ?_
    refine WL.det (op_assign rfl) rfl rfl rfl ?_
    refine WL.end ?_
    refine NE.code ?_
    refine CE.ret' ?_
    refine XE.leave1 Try.results6 rfl ?_
    refine ⟨rfl, ((((((((((((((Mod.refl [] w).nil_then m1).nil_then m2).nil_then m3).nil_then m4).then m5 (allow1 (.inr (Nat.le_trans (Nat.le_trans (Nat.le_trans m1.size m2.size) m3.size) (Nat.le_refl _))))).nil_then m6).nil_then m7).nil_then m8).then m9 (allow1 (.inr (Nat.le_trans (Nat.le_trans (Nat.le_trans (Nat.le_trans (Nat.le_trans (Nat.le_trans (Nat.le_trans m1.size m2.size) m3.size) m4.size) m5.size) m6.size) m7.size) (Nat.le_refl _))))).nil_then m10).nil_then m11).nil_then m12).nil_then m13)⟩
  · refine WL.call (oc_call (vs := [.agg #[.int .i64 kd, .float .f32 c0, .float .f32 c1, .float .f32 c2, .float .f32 s0, .float .f32 s1], .float .f32 a]) (cap := []) rfl rfl rfl Try.call27 (c_sStepF_bad kd c0 c1 c2 s0 s1 a l0 l1 la (by assumption) w2)) rfl rfl (ltb rfl) ?_
    rintro _ w14 ⟨rfl, m14⟩
    refine WL.det (op_move rfl) rfl rfl rfl ?_
    refine WL.det (op_extract rfl rfl) rfl rfl rfl ?_
    refine WL.det (op_extract rfl rfl) rfl rfl rfl ?_
    refine WL.det (op_extract rfl rfl) rfl rfl rfl ?_
    refine WL.op (op_alloc (cs := [.int .i64 0, .float .f32 0, .float .f32 0, .float .f32 0, .float .f32 0, .float .f32 0]) Try.zeroValue54 rfl) rfl rfl (ltb rfl) ?_
    rintro _ w15 ⟨rfl, r8, m15, z6⟩
    refine WL.op0 (op_store (i := 0) (cs := [.int .i64 0, .float .f32 0, .float .f32 0, .float .f32 0, .float .f32 0, .float .f32 0]) rfl rfl rfl Try.sizeOf54 rfl r8 rfl (Nat.le_of_ble_eq_true rfl) rfl) rfl rfl ?_
    rintro _ w16 ⟨r9, m16, z7⟩
    have r10 : Row w16 w14.heap.size 0 [.int .i64 0, .float .f32 0, .float .f32 0, .float .f32 0, .float .f32 0, .float .f32 0] := Row.congr r9 rfl
    refine WL.det (op_assign rfl) rfl rfl rfl ?_
    refine WL.det (op_assign rfl) rfl rfl rfl ?_
    refine WL.end ?_
    refine NE.code ?_
    refine CE.seq ?_
    refine CE.region ?_
    refine WL.det (op_loadA (i := 0) (cs := [.int .i64 kd, .float .f32 c0, .float .f32 c1, .float .f32 c2, .float .f32 s0, .float .f32 s1]) rfl Try.isAgg51 Try.sizeOf51 ((((r1.ext m2).ext m14).ext m15).mod m16 (notin1 (Nat.ne_of_lt (Nat.lt_of_lt_of_le (Nat.lt_of_lt_of_le r1.lt (Nat.le_trans m2.size m14.size)) (Nat.le_refl _))))).rng rfl rfl rfl) rfl rfl rfl ?_
    refine WL.call (oc_call (vs := [.agg #[.int .i64 kd, .float .f32 c0, .float .f32 c1, .float .f32 c2, .float .f32 s0, .float .f32 s1]]) (cap := []) rfl rfl rfl Try.call25 (c_toFilter kd c0 c1 c2 s0 s1 w16)) rfl rfl (ltb rfl) ?_
    rintro _ w17 ⟨rfl, m17⟩
    refine WL.det (op_move rfl) rfl rfl rfl ?_
    refine WL.call (oc_call (vs := [.agg #[.int .i64 kd, .float .f32 c0, .float .f32 c1, .float .f32 c2, .float .f32 s0, .float .f32 s1], .float .f32 a]) (cap := []) rfl rfl rfl Try.call28 (c_iStepF_bad kd c0 c1 c2 s0 s1 a l0 l1 la (by assumption) w17)) rfl rfl (ltb rfl) ?_
    rintro _ w18 ⟨rfl, m18⟩
    refine WL.det (op_move rfl) rfl rfl rfl ?_
    refine WL.det (op_extract rfl rfl) rfl rfl rfl ?_
    refine WL.det (op_extract rfl rfl) rfl rfl rfl ?_
    refine WL.det (op_extract rfl rfl) rfl rfl rfl ?_
    refine WL.op (op_alloc (cs := [.int .i64 0, .float .f32 0, .float .f32 0, .float .f32 0, .float .f32 0, .float .f32 0]) Try.zeroValue54 rfl) rfl rfl (ltb rfl) ?_
    rintro _ w19 ⟨rfl, r11, m19, z8⟩
    refine WL.op0 (op_store (i := 0) (cs := [.int .i64 0, .float .f32 0, .float .f32 0, .float .f32 0, .float .f32 0, .float .f32 0]) rfl rfl rfl Try.sizeOf54 rfl r11 rfl (Nat.le_of_ble_eq_true rfl) rfl) rfl rfl ?_
    rintro _ w20 ⟨r12, m20, z9⟩
    have r13 : Row w20 w18.heap.size 0 [.int .i64 0, .float .f32 0, .float .f32 0, .float .f32 0, .float .f32 0, .float .f32 0] := Row.congr r12 rfl
    refine WL.det (op_assign rfl) rfl rfl rfl ?_
    refine WL.det (op_assign rfl) rfl rfl rfl ?_
    refine WL.end ?_
    refine NE.code ?_
    refine CE.seq ?_
    refine CE.seq ?_
    refine CE.region ?_
    refine WL.det (op_loadA (i := 0) (cs := [.int .i64 0, .float .f32 0, .float .f32 0, .float .f32 0, .float .f32 0, .float .f32 0]) rfl Try.isAgg54 Try.sizeOf54 r13.rng rfl rfl rfl) rfl rfl rfl ?_
    refine WL.det (op_loadA (i := 0) (cs := [.int .i64 0, .float .f32 0, .float .f32 0, .float .f32 0, .float .f32 0, .float .f32 0]) rfl Try.isAgg54 Try.sizeOf54 ((((r10.ext m17).ext m18).ext m19).mod m20 (notin1 (Nat.ne_of_lt (Nat.lt_of_lt_of_le (Nat.lt_of_lt_of_le r8.lt (Nat.le_trans (Nat.le_trans m16.size m17.size) m18.size)) (Nat.le_refl _))))).rng rfl rfl rfl) rfl rfl rfl ?_
    refine WL.call (oc_call (vs := [.agg #[.int .i64 0, .float .f32 0, .float .f32 0, .float .f32 0, .float .f32 0, .float .f32 0], .agg #[.int .i64 0, .float .f32 0, .float .f32 0, .float .f32 0, .float .f32 0, .float .f32 0]]) (cap := []) rfl rfl rfl Try.call29 (c_eqFilter (0 : Int) 0 0 0 0 0 w20)) rfl rfl (ltb rfl) ?_
    rintro _ w21 ⟨rfl, m21⟩
    refine WL.det (op_not rfl) rfl rfl rfl ?_
    refine WL.det (op_move rfl) rfl rfl rfl ?_
    refine WL.yes rfl rfl rfl (ltb rfl) rfl rfl ?_
    refine WL.det (op_move rfl) rfl rfl rfl ?_
    refine WL.yes rfl rfl rfl (ltb rfl) rfl rfl ?_
    refine WL.op (op_widen (e := (wide 0)) rfl rfl Try.runUnderlying25 Try.runUnderlying33 rfl) rfl rfl (ltb rfl) ?_
    rintro _ w22 ⟨⟨f3, rfl, hf3, lf3⟩, m22⟩
    refine WL.yes rfl rfl rfl (ltb rfl) rfl rfl ?_
    refine WL.det (op_move rfl) rfl rfl rfl ?_
    refine WL.yes rfl rfl rfl (ltb rfl) rfl rfl ?_
    refine WL.op (op_widen (e := (wide 0)) rfl rfl Try.runUnderlying25 Try.runUnderlying33 rfl) rfl rfl (ltb rfl) ?_
    rintro _ w23 ⟨⟨f4, rfl, hf4, lf4⟩, m23⟩
    refine WL.yes rfl rfl rfl (ltb rfl) rfl rfl ?_
    refine WL.call (oc_call (vs := [.float .f64 f3, .float .f64 f4]) (cap := []) rfl rfl rfl Try.call14 (c_sameFloat f3 (wide 0) f4 (wide 0) hf3 hf4 w23)) rfl rfl (ltb rfl) ?_
    rintro _ w24 ⟨rfl, m24⟩
    refine WL.yes rfl rfl rfl (ltb rfl) rfl rfl ?_
    refine WL.det (op_not rfl) rfl rfl rfl ?_
    refine WL.det (op_pick_f rfl rfl rfl) rfl rfl rfl ?_
    refine WL.det (op_move rfl) rfl rfl rfl ?_
    refine WL.yes rfl rfl rfl (ltb rfl) rfl (bnot_t (sameF_self _)) ?_
    refine WL.det (op_move rfl) rfl rfl rfl ?_
    refine WL.yes rfl rfl rfl (ltb rfl) rfl (bnot_t (sameF_self _)) ?_
    refine WL.det (op_move rfl) rfl rfl rfl ?_
    refine WL.yes rfl rfl rfl (ltb rfl) rfl (bnot_t (sameF_self _)) ?_
    refine WL.det (op_nei rfl rfl) rfl rfl rfl ?_
    refine WL.det (op_pick_f rfl (bnot_t (sameF_self _)) rfl) rfl rfl rfl ?_
    refine WL.end ?_
    refine NE.code ?_
    refine CE.cond_f rfl rfl ?_
    refine CE.skip' ?_
    refine NE.code ?_
    refine CE.seq ?_
    refine CE.region ?_
    refine WL.det (op_assign rfl) rfl rfl rfl ?_
    refine WL.end ?_
    refine NE.code ?_
    refine CE.ret' ?_
    refine XE.leave1 Try.results6 rfl ?_
    refine ⟨rfl, ((((((((((((((Mod.refl [] w).nil_then m1).nil_then m2).nil_then m14).nil_then m15).then m16 (allow1 (.inr (Nat.le_trans (Nat.le_trans (Nat.le_trans m1.size m2.size) m14.size) (Nat.le_refl _))))).nil_then m17).nil_then m18).nil_then m19).then m20 (allow1 (.inr (Nat.le_trans (Nat.le_trans (Nat.le_trans (Nat.le_trans (Nat.le_trans (Nat.le_trans (Nat.le_trans m1.size m2.size) m14.size) m15.size) m16.size) m17.size) m18.size) (Nat.le_refl _))))).nil_then m21).nil_then m22).nil_then m23).nil_then m24)⟩

end Go.Proofs.Ytdjmhecijopfmaa
