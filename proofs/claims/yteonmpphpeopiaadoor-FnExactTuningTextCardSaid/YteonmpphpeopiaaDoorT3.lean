/- Sizes, copies and comparisons of tunings. -/
import Derived.Test.YteonmpphpeopiaaDoorT2
set_option linter.unusedVariables false
set_option linter.unusedSimpArgs false
namespace Go.Proofs.YteonmpphpeopiaaDoor

set_option maxRecDepth 100000 in
set_option maxHeartbeats 2000000 in
theorem c_szTuning (l : Nat) (ba : Nat) (oc : Nat) (nD : Nat) (cD : Nat) (AD : Option Addr) (hl : nD ≤ l) (hm : l ≤ 1048576) (w : World) : Cl Tryd.prog 5 #[.agg #[vF ba, vF oc, .slice AD nD cD], vI ((l : Nat) : Int)] w fun v w' => v = vI ((l - nD : Nat) : Int) ∧ Mod [] w w' := by
  refine Cl.of Tryd.func5 Tryd.ntmps5 rfl rfl (ρ := [(0, .agg #[vF ba, vF oc, .slice AD nD cD]), (1, vI ((l : Nat) : Int))]) rfl ?_
  refine CE.seq ?_
  refine CE.region ?_
  refine WL.op (op_box (cs := [vF ba, vF oc, .slice AD nD cD]) rfl rfl) rfl rfl (ltb rfl) ?_
  rintro _ w1 ⟨rfl, r1, m1, z1⟩
  refine WL.det (op_assign rfl) rfl rfl rfl ?_
  refine WL.end ?_
  refine NE.code ?_
  refine CE.seq ?_
  refine CE.region ?_
  refine WL.det (op_fieldAddr (off' := 2) rfl Tryd.runUnderlying25 rfl rfl Tryd.sizeOf23 rfl) rfl rfl rfl ?_
  refine WL.det (op_load1 (i := 2) rfl Tryd.isAgg23 r1.rng rfl rfl) rfl rfl rfl ?_
  refine WL.det (op_move rfl) rfl rfl rfl ?_
  refine WL.call (oc_call (vs := [.slice AD nD cD, vI ((l : Nat) : Int)]) (cap := []) rfl rfl rfl Tryd.call13 (c_sz32 l nD cD AD (by omega) (by omega) w1)) rfl rfl (ltb rfl) ?_
  rintro _ _ ⟨rfl, rfl⟩
  refine WL.det (op_assign rfl) rfl rfl rfl ?_
  refine WL.end ?_
  refine NE.code ?_
  iterate 2 refine CE.seq ?_
  refine CE.region ?_
  refine WL.det (op_move rfl) rfl rfl rfl ?_
  refine WL.det (op_lti_f rfl rfl (Int.not_lt.2 (Int.natCast_nonneg _))) rfl rfl rfl ?_
  refine WL.end ?_
  refine NE.code ?_
  refine CE.cond_f rfl rfl ?_
  refine CE.skip' ?_
  refine NE.code ?_
  refine CE.seq ?_
  refine CE.region ?_
  refine WL.det (op_move rfl) rfl rfl rfl ?_
  refine WL.det (op_assign rfl) rfl rfl rfl ?_
  refine WL.end ?_
  refine NE.code ?_
  refine CE.ret' ?_
  refine XE.leave1 Tryd.results5 rfl ?_
  refine ⟨rfl, ((Mod.refl [] w).nt m1)⟩

set_option maxRecDepth 100000 in
set_option maxHeartbeats 2000000 in
theorem c_szTuning_over (l : Nat) (ba : Nat) (oc : Nat) (nD : Nat) (cD : Nat) (AD : Option Addr) (hl : l < nD) (hm : l ≤ 1048576) (hnD : nD ≤ 9223372036854775807) (w : World) : Cl Tryd.prog 5 #[.agg #[vF ba, vF oc, .slice AD nD cD], vI ((l : Nat) : Int)] w fun v w' => v = vI (-1) ∧ Mod [] w w' := by
  refine Cl.of Tryd.func5 Tryd.ntmps5 rfl rfl (ρ := [(0, .agg #[vF ba, vF oc, .slice AD nD cD]), (1, vI ((l : Nat) : Int))]) rfl ?_
  refine CE.seq ?_
  refine CE.region ?_
  refine WL.op (op_box (cs := [vF ba, vF oc, .slice AD nD cD]) rfl rfl) rfl rfl (ltb rfl) ?_
  rintro _ w1 ⟨rfl, r1, m1, z1⟩
  refine WL.det (op_assign rfl) rfl rfl rfl ?_
  refine WL.end ?_
  refine NE.code ?_
  refine CE.seq ?_
  refine CE.region ?_
  refine WL.det (op_fieldAddr (off' := 2) rfl Tryd.runUnderlying25 rfl rfl Tryd.sizeOf23 rfl) rfl rfl rfl ?_
  refine WL.det (op_load1 (i := 2) rfl Tryd.isAgg23 r1.rng rfl rfl) rfl rfl rfl ?_
  refine WL.det (op_move rfl) rfl rfl rfl ?_
  rcases Bool.eq_false_or_eq_true (decide (l < nD)) with hb1 | hb1
  · have hp1 := of_decide_eq_true hb1
    refine WL.call (oc_call (vs := [.slice AD nD cD, vI ((l : Nat) : Int)]) (cap := []) rfl rfl rfl Tryd.call13 (c_sz32_over l nD cD AD (by omega) (by omega) (by omega) w1)) rfl rfl (ltb rfl) ?_
    rintro _ _ ⟨rfl, rfl⟩
    refine WL.det (op_assign rfl) rfl rfl rfl ?_
    refine WL.end ?_
    refine NE.code ?_
    iterate 2 refine CE.seq ?_
    refine CE.region ?_
    refine WL.det (op_move rfl) rfl rfl rfl ?_
    refine WL.det (op_lti rfl rfl) rfl rfl rfl ?_
    refine WL.end ?_
    refine NE.code ?_
    refine CE.cond_t rfl rfl ?_
    refine CE.seq ?_
    refine CE.region ?_
    refine WL.det (op_assign rfl) rfl rfl rfl ?_
    refine WL.end ?_
    refine NE.code ?_
    refine CE.ret' ?_
    refine XE.ret_then ?_
    refine XE.leave1 Tryd.results5 rfl ?_
    refine ⟨rfl, ((Mod.refl [] w).nt m1)⟩
  · have hp1 := of_decide_eq_false hb1
    refine WL.call (oc_call (vs := [.slice AD nD cD, vI ((l : Nat) : Int)]) (cap := []) rfl rfl rfl Tryd.call13 (c_sz32 l nD cD AD (by omega) (by omega) w1)) rfl rfl (ltb rfl) ?_
    rintro _ _ ⟨rfl, rfl⟩
    refine WL.det (op_assign rfl) rfl rfl rfl ?_
    refine WL.end ?_
    refine NE.code ?_
    iterate 2 refine CE.seq ?_
    refine CE.region ?_
    refine WL.det (op_move rfl) rfl rfl rfl ?_
    refine WL.det (op_lti_f rfl rfl (Int.not_lt.2 (Int.natCast_nonneg _))) rfl rfl rfl ?_
    refine WL.end ?_
    refine NE.code ?_
    refine CE.cond_f rfl rfl ?_
    refine CE.skip' ?_
    refine NE.code ?_
    refine CE.seq ?_
    refine CE.region ?_
    refine WL.det (op_move rfl) rfl rfl rfl ?_
    refine WL.det (op_assign rfl) rfl rfl rfl ?_
    refine WL.end ?_
    refine NE.code ?_
    refine CE.ret' ?_
    refine XE.leave1 Tryd.results5 rfl ?_
    refine ⟨?_, ((Mod.refl [] w).nt m1)⟩
    all_goals (exfalso; omega)

set_option maxRecDepth 100000 in
set_option maxHeartbeats 2000000 in
theorem c_toTuning (ba : Nat) (oc : Nat) (nD : Nat) (cD : Nat) (AD : Option Addr) (bD : Nat) (oD : Nat) (xD : List Nat) (lnD : xD.length = nD) (hAD : 0 < nD → AD = some ⟨bD, oD, none⟩) (hnnD : nD ≤ 1048576) (w : World) (rD : Rng w bD oD (fl xD)) : Cl Tryd.prog 7 #[.agg #[vF ba, vF oc, .slice AD nD cD]] w fun v w' => ∃ (bD' : Nat), v = .agg #[vF ba, vF oc, vS bD' 0 nD nD] ∧ Row w' bD' 0 (fl xD) ∧ w.heap.size ≤ bD' ∧ Mod [] w w' := by
  refine Cl.of Tryd.func7 Tryd.ntmps7 rfl rfl (ρ := [(0, .agg #[vF ba, vF oc, .slice AD nD cD])]) rfl ?_
  refine CE.seq ?_
  refine CE.region ?_
  refine WL.op (op_box (cs := [vF ba, vF oc, .slice AD nD cD]) rfl rfl) rfl rfl (ltb rfl) ?_
  rintro _ w1 ⟨rfl, r1, m1, z1⟩
  refine WL.op (op_alloc (cs := [vF 0, vF 0, .slice none 0 0]) Tryd.zeroValue28 rfl) rfl rfl (ltb rfl) ?_
  rintro _ w2 ⟨rfl, r2, m2, z2⟩
  refine WL.end ?_
  refine NE.code ?_
  refine CE.seq ?_
  refine CE.region ?_
  refine WL.op (op_alloc (cs := [vF 0, vF 0, .slice none 0 0]) Tryd.zeroValue28 rfl) rfl rfl (ltb rfl) ?_
  rintro _ w3 ⟨rfl, r3, m3, z3⟩
  refine WL.end ?_
  refine NE.code ?_
  refine CE.seq ?_
  refine CE.region ?_
  refine WL.det (op_fieldAddr (off' := 0) rfl Tryd.runUnderlying25 rfl rfl Tryd.sizeOf22 rfl) rfl rfl rfl ?_
  refine WL.det (op_load1 (i := 0) rfl Tryd.isAgg22 ((r1.ext m2).ext m3).rng rfl rfl) rfl rfl rfl ?_
  refine WL.det (op_fieldAddr (off' := 0) rfl Tryd.runUnderlying28 rfl rfl Tryd.sizeOf22 rfl) rfl rfl rfl ?_
  refine WL.op0 (op_store (i := 0) (cs := [vF ba]) rfl rfl rfl Tryd.sizeOf22 rfl r3 rfl (lB rfl) rfl) rfl rfl ?_
  rintro _ w4 ⟨r4, m4, z4⟩
  have r5 : Row w4 w2.heap.size 0 [vF ba, vF 0, .slice none 0 0] := Row.congr r4 rfl
  refine WL.end ?_
  refine NE.code ?_
  refine CE.seq ?_
  refine CE.region ?_
  refine WL.det (op_fieldAddr (off' := 1) rfl Tryd.runUnderlying25 rfl rfl Tryd.sizeOf22 rfl) rfl rfl rfl ?_
  have r6 := (((r1.ext m2).ext m3).mod m4 (nC (lE (lL (lL r1.lt m2.size) lR)) nN))
  refine WL.det (op_load1 (i := 1) rfl Tryd.isAgg22 r6.rng rfl rfl) rfl rfl rfl ?_
  refine WL.det (op_fieldAddr (off' := 1) rfl Tryd.runUnderlying28 rfl rfl Tryd.sizeOf22 rfl) rfl rfl rfl ?_
  refine WL.op0 (op_store (i := 1) (cs := [vF oc]) rfl rfl rfl Tryd.sizeOf22 rfl r5 rfl (lB rfl) rfl) rfl rfl ?_
  rintro _ w5 ⟨r7, m5, z5⟩
  have r8 : Row w5 w2.heap.size 0 [vF ba, vF oc, .slice none 0 0] := Row.congr r7 rfl
  refine WL.end ?_
  refine NE.code ?_
  refine CE.seq ?_
  refine CE.region ?_
  refine WL.det (op_fieldAddr (off' := 2) rfl Tryd.runUnderlying25 rfl rfl Tryd.sizeOf23 rfl) rfl rfl rfl ?_
  refine WL.det (op_load1 (i := 2) rfl Tryd.isAgg23 (r6.mod m5 (nC (lE (lL (lL r1.lt m2.size) lR)) nN)).rng rfl rfl) rfl rfl rfl ?_
  have r9 := (Rng.youngS rD (Rng.youngS rD (((rD.ext m1).ext m2).ext m3) m4 (allge_cons (lT (lT m1.size m2.size) lR) allge_nil)) m5 (allge_cons (lT (lT m1.size m2.size) lR) allge_nil))
  refine WL.call (oc_call (vs := [.slice AD nD cD]) (cap := []) rfl rfl rfl Tryd.call16 (c_to32 nD cD AD bD oD xD lnD hAD (by omega) w5 r9)) rfl rfl (ltb rfl) ?_
  rintro _ w6 ⟨b'1, rfl, r10, ge1, m6⟩
  refine WL.det (op_fieldAddr (off' := 2) rfl Tryd.runUnderlying28 rfl rfl Tryd.sizeOf23 rfl) rfl rfl rfl ?_
  refine WL.op0 (op_store (i := 2) (cs := [vS b'1 0 nD nD]) rfl rfl rfl Tryd.sizeOf23 rfl (r8.ext m6) rfl (lB rfl) rfl) rfl rfl ?_
  rintro _ w7 ⟨r11, m7, z6⟩
  have r12 : Row w7 w2.heap.size 0 [vF ba, vF oc, vS b'1 0 nD nD] := Row.congr r11 rfl
  refine WL.end ?_
  refine NE.code ?_
  refine CE.seq ?_
  refine CE.region ?_
  refine WL.det (op_loadA (i := 0) (cs := [vF ba, vF oc, vS b'1 0 nD nD]) rfl Tryd.isAgg28 Tryd.sizeOf28 r12.rng rfl rfl rfl) rfl rfl rfl ?_
  have r13 := (((((r2.ext m3).mod m4 (nC (lE (lL r2.lt lR)) nN)).mod m5 (nC (lE (lL r2.lt lR)) nN)).ext m6).mod m7 (nC (lE (lL r2.lt lR)) nN))
  refine WL.op0 (op_store (i := 0) (cs := [vF ba, vF oc, vS b'1 0 nD nD]) rfl rfl rfl Tryd.sizeOf28 rfl r13 rfl (lB rfl) rfl) rfl rfl ?_
  rintro _ w8 ⟨r14, m8, z7⟩
  have r15 : Row w8 w1.heap.size 0 [vF ba, vF oc, vS b'1 0 nD nD] := Row.congr r14 rfl
  refine WL.end ?_
  refine NE.code ?_
  refine CE.ret' ?_
  refine XE.leaveC Tryd.results7 (res_agg (cs := [vF ba, vF oc, vS b'1 0 nD nD]) rfl Tryd.isAgg28 Tryd.sizeOf28 r15.rng rfl res_nil) ?_
  have sz1 := (lT (lT m3.size m4.size) m5.size)
  have r16 := ((r10.mod m7 (nC (lG (lL (lL r3.lt (lT m4.size m5.size)) ge1)) nN)).mod m8 (nC (lG (lL (lL r2.lt sz1) ge1)) nN))
  have sz2 := (lT (lT (lT (lT m1.size m2.size) m3.size) m4.size) m5.size)
  refine ⟨b'1, rfl, r16, (lT sz2 ge1), (((((((((Mod.refl [] w).nt m1).nt m2).nt m3).then m4 ((aC (.inr (lT (lT m1.size m2.size) lR)) aN))).then m5 ((aC (.inr (lT (lT m1.size m2.size) lR)) aN))).nt m6).then m7 ((aC (.inr (lT (lT m1.size m2.size) lR)) aN))).then m8 ((aC (.inr (lT m1.size lR)) aN)))⟩

set_option maxRecDepth 100000 in
set_option maxHeartbeats 2000000 in
theorem c_eqTuning (ba : Nat) (bae : Nat) (oc : Nat) (oce : Nat) (nD : Nat) (cD : Nat) (AD : Option Addr) (bD : Nat) (oD : Nat) (xD : List Nat) (ba' : Nat) (oc' : Nat) (cD' : Nat) (AD' : Option Addr) (bD' : Nat) (oD' : Nat) (lnD : xD.length = nD) (hAD : 0 < nD → AD = some ⟨bD, oD, none⟩) (hba : cn .f32 ba = cn .f32 bae) (hba' : cn .f32 ba' = cn .f32 bae) (hoc : cn .f32 oc = cn .f32 oce) (hoc' : cn .f32 oc' = cn .f32 oce) (hAD' : 0 < nD → AD' = some ⟨bD', oD', none⟩) (hbnD : nD ≤ 9223372036854775807) (w : World) (rD : Rng w bD oD (fl xD)) (rD' : Rng w bD' oD' (fl xD)) : Cl Tryd.prog 9 #[.agg #[vF ba, vF oc, .slice AD nD cD], .agg #[vF ba', vF oc', .slice AD' nD cD']] w fun v w' => v = .bool true ∧ Mod [] w w' := by
  refine Cl.of Tryd.func9 Tryd.ntmps9 rfl rfl (ρ := [(0, .agg #[vF ba, vF oc, .slice AD nD cD]), (1, .agg #[vF ba', vF oc', .slice AD' nD cD'])]) rfl ?_
  refine CE.seq ?_
  refine CE.region ?_
  refine WL.op (op_box (cs := [vF ba, vF oc, .slice AD nD cD]) rfl rfl) rfl rfl (ltb rfl) ?_
  rintro _ w1 ⟨rfl, r1, m1, z1⟩
  refine WL.op (op_box (cs := [vF ba', vF oc', .slice AD' nD cD']) rfl rfl) rfl rfl (ltb rfl) ?_
  rintro _ w2 ⟨rfl, r2, m2, z2⟩
  refine WL.det (op_assign rfl) rfl rfl rfl ?_
  refine WL.end ?_
  refine NE.code ?_
  iterate 2 refine CE.seq ?_
  refine CE.region ?_
  refine WL.det (op_fieldAddr (off' := 0) rfl Tryd.runUnderlying28 rfl rfl Tryd.sizeOf22 rfl) rfl rfl rfl ?_
  refine WL.det (op_load1 (i := 0) rfl Tryd.isAgg22 (r1.ext m2).rng rfl rfl) rfl rfl rfl ?_
  refine WL.op (op_widen (e := (wide bae)) rfl hba Tryd.runUnderlying22 Tryd.runUnderlying35 rfl) rfl rfl (ltb rfl) ?_
  rintro _ w3 ⟨⟨f1, rfl, hf1, lf1⟩, m3⟩
  refine WL.det (op_fieldAddr (off' := 0) rfl Tryd.runUnderlying28 rfl rfl Tryd.sizeOf22 rfl) rfl rfl rfl ?_
  refine WL.det (op_load1 (i := 0) rfl Tryd.isAgg22 (r2.ext m3).rng rfl rfl) rfl rfl rfl ?_
  refine WL.op (op_widen (e := (wide bae)) rfl hba' Tryd.runUnderlying22 Tryd.runUnderlying35 rfl) rfl rfl (ltb rfl) ?_
  rintro _ w4 ⟨⟨f2, rfl, hf2, lf2⟩, m4⟩
  refine WL.call (oc_call (vs := [.float .f64 f1, .float .f64 f2]) (cap := []) rfl rfl rfl Tryd.call12 (c_sameFloat f1 (wide bae) f2 (wide bae) hf1 hf2 w4)) rfl rfl (ltb rfl) ?_
  rintro _ w5 ⟨rfl, m5⟩
  refine WL.det (op_not rfl) rfl rfl rfl ?_
  refine WL.end ?_
  refine NE.code ?_
  refine CE.cond_f rfl (bnot_t (sameF_self _)) ?_
  refine CE.skip' ?_
  refine NE.code ?_
  iterate 2 refine CE.seq ?_
  refine CE.region ?_
  refine WL.det (op_fieldAddr (off' := 1) rfl Tryd.runUnderlying28 rfl rfl Tryd.sizeOf22 rfl) rfl rfl rfl ?_
  have r3 := ((((r1.ext m2).ext m3).ext m4).ext m5)
  refine WL.det (op_load1 (i := 1) rfl Tryd.isAgg22 r3.rng rfl rfl) rfl rfl rfl ?_
  refine WL.op (op_widen (e := (wide oce)) rfl hoc Tryd.runUnderlying22 Tryd.runUnderlying35 rfl) rfl rfl (ltb rfl) ?_
  rintro _ w6 ⟨⟨f3, rfl, hf3, lf3⟩, m6⟩
  refine WL.det (op_fieldAddr (off' := 1) rfl Tryd.runUnderlying28 rfl rfl Tryd.sizeOf22 rfl) rfl rfl rfl ?_
  have r4 := ((((r2.ext m3).ext m4).ext m5).ext m6)
  refine WL.det (op_load1 (i := 1) rfl Tryd.isAgg22 r4.rng rfl rfl) rfl rfl rfl ?_
  refine WL.op (op_widen (e := (wide oce)) rfl hoc' Tryd.runUnderlying22 Tryd.runUnderlying35 rfl) rfl rfl (ltb rfl) ?_
  rintro _ w7 ⟨⟨f4, rfl, hf4, lf4⟩, m7⟩
  refine WL.call (oc_call (vs := [.float .f64 f3, .float .f64 f4]) (cap := []) rfl rfl rfl Tryd.call12 (c_sameFloat f3 (wide oce) f4 (wide oce) hf3 hf4 w7)) rfl rfl (ltb rfl) ?_
  rintro _ w8 ⟨rfl, m8⟩
  refine WL.det (op_not rfl) rfl rfl rfl ?_
  refine WL.end ?_
  refine NE.code ?_
  refine CE.cond_f rfl (bnot_t (sameF_self _)) ?_
  refine CE.skip' ?_
  refine NE.code ?_
  iterate 2 refine CE.seq ?_
  refine CE.region ?_
  refine WL.det (op_fieldAddr (off' := 2) rfl Tryd.runUnderlying28 rfl rfl Tryd.sizeOf23 rfl) rfl rfl rfl ?_
  have r5 := (((r3.ext m6).ext m7).ext m8)
  refine WL.det (op_load1 (i := 2) rfl Tryd.isAgg23 r5.rng rfl rfl) rfl rfl rfl ?_
  refine WL.det (op_fieldAddr (off' := 2) rfl Tryd.runUnderlying28 rfl rfl Tryd.sizeOf23 rfl) rfl rfl rfl ?_
  refine WL.det (op_load1 (i := 2) rfl Tryd.isAgg23 ((r4.ext m7).ext m8).rng rfl rfl) rfl rfl rfl ?_
  have r6 := ((((((((rD.ext m1).ext m2).ext m3).ext m4).ext m5).ext m6).ext m7).ext m8)
  have r7 := ((((((((rD'.ext m1).ext m2).ext m3).ext m4).ext m5).ext m6).ext m7).ext m8)
  refine WL.call (oc_call (vs := [.slice AD nD cD, .slice AD' nD cD']) (cap := []) rfl rfl rfl Tryd.call19 (c_eq32_same nD cD AD bD oD xD cD' AD' bD' oD' lnD hAD hAD' (by omega) w8 r6 r7)) rfl rfl (ltb rfl) ?_
  rintro _ w9 ⟨rfl, m9⟩
  refine WL.det (op_not rfl) rfl rfl rfl ?_
  refine WL.end ?_
  refine NE.code ?_
  refine CE.cond_f rfl rfl ?_
  refine CE.skip' ?_
  refine NE.code ?_
  refine CE.seq ?_
  refine CE.region ?_
  refine WL.det (op_assign rfl) rfl rfl rfl ?_
  refine WL.end ?_
  refine NE.code ?_
  refine CE.ret' ?_
  refine XE.leave1 Tryd.results9 rfl ?_
  refine ⟨rfl, ((((((((((Mod.refl [] w).nt m1).nt m2).nt m3).nt m4).nt m5).nt m6).nt m7).nt m8).nt m9)⟩

end Go.Proofs.YteonmpphpeopiaaDoor
