/- What the functions on combs compute. -/
import Derived.Test.YtdjmhecijopfmaaG1
set_option linter.unusedVariables false
set_option linter.unusedSimpArgs false
namespace Go.Proofs.Ytdjmhecijopfmaa

def vComb (n : Nat) (j : Int) (xs : List Nat) (g : Nat) : Bool := vRingF n j xs && finF g
theorem vComb_t {n : Nat} {j : Int} {xs : List Nat} {g : Nat} (h : vComb n j xs g = true) : 1 ≤ n ∧ n ≤ 1024 ∧ 0 ≤ j ∧ j < n := by
  simp only [vComb, vRingF, Bool.and_eq_true] at h; exact vRing_t h.1.1
def combW (g : Nat) (xs : List Nat) (i x : Nat) : Nat := fop .add .f32 x (fop .mul .f32 g (xs.getD i 0))
def combY (g : Nat) (xs : List Nat) (i x : Nat) : Nat := fop .sub .f32 (xs.getD i 0) (fop .mul .f32 g (combW g xs i x))

set_option maxRecDepth 100000 in
set_option maxHeartbeats 2000000 in
theorem c_szComb (l : Nat) (nRr : Nat) (cRr : Nat) (ARr : Option Addr) (Rj : Int) (g : Nat) (hl : nRr ≤ l) (hm : l ≤ 1048576) (w : World) : Cl Try.prog 34 #[.agg #[.slice ARr nRr cRr, vI Rj, vF g], vI ((l : Nat) : Int)] w fun v w' => v = vI ((l - nRr : Nat) : Int) ∧ Mod [] w w' := by
  refine Cl.of Try.func34 Try.ntmps34 rfl rfl (ρ := [(0, .agg #[.slice ARr nRr cRr, vI Rj, vF g]), (1, vI ((l : Nat) : Int))]) rfl ?_
  refine CE.seq ?_
  refine CE.region ?_
  refine WL.op (op_box (cs := [.slice ARr nRr cRr, vI Rj, vF g]) rfl rfl) rfl rfl (ltb rfl) ?_
  rintro _ w1 ⟨rfl, r1, m1, z1⟩
  refine WL.det (op_assign rfl) rfl rfl rfl ?_
  refine WL.end ?_
  refine NE.code ?_
  refine CE.seq ?_
  refine CE.region ?_
  refine WL.det (op_fieldAddr (off' := 0) rfl Try.runUnderlying69 rfl rfl Try.sizeOf24 rfl) rfl rfl rfl ?_
  refine WL.det (op_loadA (i := 0) (cs := [.slice ARr nRr cRr, vI Rj]) rfl Try.isAgg24 Try.sizeOf24 r1.rng rfl rfl rfl) rfl rfl rfl ?_
  refine WL.det (op_move rfl) rfl rfl rfl ?_
  refine WL.call (oc_call (vs := [.agg #[.slice ARr nRr cRr, vI Rj], vI ((l : Nat) : Int)]) (cap := []) rfl rfl rfl Try.call9 (c_szRing l nRr cRr ARr Rj (by omega) (by omega) w1)) rfl rfl (ltb rfl) ?_
  rintro _ w2 ⟨rfl, m2⟩
  refine WL.det (op_assign rfl) rfl rfl rfl ?_
  refine WL.end ?_
  refine NE.code ?_
  refine CE.seq ?_
  refine CE.seq ?_
  refine CE.region ?_
  refine WL.det (op_move rfl) rfl rfl rfl ?_
  refine WL.det (op_lti_f rfl rfl (by omega)) rfl rfl rfl ?_
  refine WL.end ?_
  refine NE.code ?_
  refine CE.cond_f rfl rfl ?_
  refine CE.skip' ?_
  refine NE.code ?_
  refine CE.seq ?_
  refine CE.region ?_
  refine WL.det (op_move rfl) rfl rfl rfl ?_
  refine WL.det (op_assign rfl) rfl rfl rfl ?_
  refine WL.end ?_
  refine NE.code ?_
  refine CE.ret' ?_
  refine XE.leave1 Try.results34 rfl ?_
  refine ⟨rfl, (((Mod.refl [] w).nt m1).nt m2)⟩

set_option maxRecDepth 100000 in
set_option maxHeartbeats 2000000 in
theorem c_szComb_over (l : Nat) (nRr : Nat) (cRr : Nat) (ARr : Option Addr) (Rj : Int) (g : Nat) (hl : l < nRr) (hm : l ≤ 1048576) (hnRr : nRr ≤ 9223372036854775807) (w : World) : Cl Try.prog 34 #[.agg #[.slice ARr nRr cRr, vI Rj, vF g], vI ((l : Nat) : Int)] w fun v w' => v = vI (-1) ∧ Mod [] w w' := by
  refine Cl.of Try.func34 Try.ntmps34 rfl rfl (ρ := [(0, .agg #[.slice ARr nRr cRr, vI Rj, vF g]), (1, vI ((l : Nat) : Int))]) rfl ?_
  refine CE.seq ?_
  refine CE.region ?_
  refine WL.op (op_box (cs := [.slice ARr nRr cRr, vI Rj, vF g]) rfl rfl) rfl rfl (ltb rfl) ?_
  rintro _ w1 ⟨rfl, r1, m1, z1⟩
  refine WL.det (op_assign rfl) rfl rfl rfl ?_
  refine WL.end ?_
  refine NE.code ?_
  refine CE.seq ?_
  refine CE.region ?_
  refine WL.det (op_fieldAddr (off' := 0) rfl Try.runUnderlying69 rfl rfl Try.sizeOf24 rfl) rfl rfl rfl ?_
  refine WL.det (op_loadA (i := 0) (cs := [.slice ARr nRr cRr, vI Rj]) rfl Try.isAgg24 Try.sizeOf24 r1.rng rfl rfl rfl) rfl rfl rfl ?_
  refine WL.det (op_move rfl) rfl rfl rfl ?_
  rcases Bool.eq_false_or_eq_true (decide (l < nRr)) with hb1 | hb1
  · have hp1 := hb1; try simp only [Bool.and_eq_true, Bool.or_eq_true, Bool.not_eq_true', Bool.not_eq_false', Bool.and_eq_false_iff, Bool.or_eq_false_iff, decide_eq_true_eq, decide_eq_false_iff_not, beq_iff_eq, bne_iff_ne, beq_eq_false_iff_ne, bne_eq_false_iff_eq, ne_eq, Bool.false_eq_true, not_false_eq_true, not_true_eq_false, vIn_t, vIn_f] at hp1
    refine WL.call (oc_call (vs := [.agg #[.slice ARr nRr cRr, vI Rj], vI ((l : Nat) : Int)]) (cap := []) rfl rfl rfl Try.call9 (c_szRing_over l nRr cRr ARr Rj (by omega) (by omega) (by omega) w1)) rfl rfl (ltb rfl) ?_
    rintro _ w2 ⟨rfl, m2⟩
    refine WL.det (op_assign rfl) rfl rfl rfl ?_
    refine WL.end ?_
    refine NE.code ?_
    refine CE.seq ?_
    refine CE.seq ?_
    refine CE.region ?_
    refine WL.det (op_move rfl) rfl rfl rfl ?_
    refine WL.det (op_lti rfl rfl) rfl rfl rfl ?_
    refine WL.end ?_
    refine NE.code ?_
    refine CE.cond_t rfl rfl ?_
    refine CE.seq ?_
    refine CE.region ?_
    refine WL.det (op_assign rfl) rfl rfl rfl ?_
    refine WL.end ?_
    refine NE.code ?_
    refine CE.ret' ?_
    refine XE.ret_then ?_
    refine XE.leave1 Try.results34 rfl ?_
    refine ⟨rfl, (((Mod.refl [] w).nt m1).nt m2)⟩
  · have hp1 := hb1; try simp only [Bool.and_eq_true, Bool.or_eq_true, Bool.not_eq_true', Bool.not_eq_false', Bool.and_eq_false_iff, Bool.or_eq_false_iff, decide_eq_true_eq, decide_eq_false_iff_not, beq_iff_eq, bne_iff_ne, beq_eq_false_iff_ne, bne_eq_false_iff_eq, ne_eq, Bool.false_eq_true, not_false_eq_true, not_true_eq_false, vIn_t, vIn_f] at hp1
    refine WL.call (oc_call (vs := [.agg #[.slice ARr nRr cRr, vI Rj], vI ((l : Nat) : Int)]) (cap := []) rfl rfl rfl Try.call9 (c_szRing l nRr cRr ARr Rj (by omega) (by omega) w1)) rfl rfl (ltb rfl) ?_
    rintro _ w3 ⟨rfl, m3⟩
    refine WL.det (op_assign rfl) rfl rfl rfl ?_
    refine WL.end ?_
    refine NE.code ?_
    refine CE.seq ?_
    refine CE.seq ?_
    refine CE.region ?_
    refine WL.det (op_move rfl) rfl rfl rfl ?_
    refine WL.det (op_lti_f rfl rfl (by omega)) rfl rfl rfl ?_
    refine WL.end ?_
    refine NE.code ?_
    refine CE.cond_f rfl rfl ?_
    refine CE.skip' ?_
    refine NE.code ?_
    refine CE.seq ?_
    refine CE.region ?_
    refine WL.det (op_move rfl) rfl rfl rfl ?_
    refine WL.det (op_assign rfl) rfl rfl rfl ?_
    refine WL.end ?_
    refine NE.code ?_
    refine CE.ret' ?_
    refine XE.leave1 Try.results34 rfl ?_
    refine ⟨?_, (((Mod.refl [] w).nt m1).nt m3)⟩
    all_goals (exfalso; omega)

set_option maxRecDepth 100000 in
set_option maxHeartbeats 2000000 in
theorem c_toComb (nRr : Nat) (cRr : Nat) (ARr : Option Addr) (bRr : Nat) (oRr : Nat) (xRr : List Nat) (Rj : Int) (g : Nat) (lnRr : xRr.length = nRr) (hARr : 0 < nRr → ARr = some ⟨bRr, oRr, none⟩) (hnnRr : nRr ≤ 1048576) (w : World) (rRr : Rng w bRr oRr (fl xRr)) : Cl Try.prog 35 #[.agg #[.slice ARr nRr cRr, vI Rj, vF g]] w fun v w' => ∃ (bRr' : Nat), v = .agg #[vS bRr' 0 nRr nRr, vI Rj, vF g] ∧ Row w' bRr' 0 (fl xRr) ∧ w.heap.size ≤ bRr' ∧ Mod [] w w' := by
  refine Cl.of Try.func35 Try.ntmps35 rfl rfl (ρ := [(0, .agg #[.slice ARr nRr cRr, vI Rj, vF g])]) rfl ?_
  refine CE.seq ?_
  refine CE.region ?_
  refine WL.op (op_box (cs := [.slice ARr nRr cRr, vI Rj, vF g]) rfl rfl) rfl rfl (ltb rfl) ?_
  rintro _ w1 ⟨rfl, r1, m1, z1⟩
  refine WL.op (op_alloc (cs := [.slice none 0 0, vI 0, vF 0]) Try.zeroValue40 rfl) rfl rfl (ltb rfl) ?_
  rintro _ w2 ⟨rfl, r2, m2, z2⟩
  refine WL.end ?_
  refine NE.code ?_
  refine CE.seq ?_
  refine CE.region ?_
  refine WL.op (op_alloc (cs := [.slice none 0 0, vI 0, vF 0]) Try.zeroValue40 rfl) rfl rfl (ltb rfl) ?_
  rintro _ w3 ⟨rfl, r3, m3, z3⟩
  refine WL.end ?_
  refine NE.code ?_
  refine CE.seq ?_
  refine CE.region ?_
  refine WL.det (op_fieldAddr (off' := 0) rfl Try.runUnderlying69 rfl rfl Try.sizeOf24 rfl) rfl rfl rfl ?_
  refine WL.det (op_loadA (i := 0) (cs := [.slice ARr nRr cRr, vI Rj]) rfl Try.isAgg24 Try.sizeOf24 ((r1.ext m2).ext m3).rng rfl rfl rfl) rfl rfl rfl ?_
  refine WL.call (oc_call (vs := [.agg #[.slice ARr nRr cRr, vI Rj]]) (cap := []) rfl rfl rfl Try.call11 (c_toRing nRr cRr ARr bRr oRr xRr Rj lnRr hARr (by omega) w3 (((rRr.ext m1).ext m2).ext m3))) rfl rfl (ltb rfl) ?_
  rintro _ w4 ⟨br'1, rfl, r4, ge1, m4⟩
  refine WL.det (op_fieldAddr (off' := 0) rfl Try.runUnderlying40 rfl rfl Try.sizeOf27 rfl) rfl rfl rfl ?_
  refine WL.op0 (op_store (i := 0) (cs := [vS br'1 0 nRr nRr, vI Rj]) rfl rfl rfl Try.sizeOf27 rfl (r3.ext m4) rfl (lB rfl) rfl) rfl rfl ?_
  rintro _ w5 ⟨r5, m5, z4⟩
  have r6 : Row w5 w2.heap.size 0 [vS br'1 0 nRr nRr, vI Rj, vF 0] := Row.congr r5 rfl
  refine WL.end ?_
  refine NE.code ?_
  refine CE.seq ?_
  refine CE.region ?_
  refine WL.det (op_fieldAddr (off' := 2) rfl Try.runUnderlying69 rfl rfl Try.sizeOf25 rfl) rfl rfl rfl ?_
  refine WL.det (op_load1 (i := 2) rfl Try.isAgg25 ((((r1.ext m2).ext m3).ext m4).mod m5 (nC (lE (lL (lL r1.lt m2.size) lR)) nN)).rng rfl rfl) rfl rfl rfl ?_
  refine WL.det (op_fieldAddr (off' := 2) rfl Try.runUnderlying40 rfl rfl Try.sizeOf25 rfl) rfl rfl rfl ?_
  refine WL.op0 (op_store (i := 2) (cs := [vF g]) rfl rfl rfl Try.sizeOf25 rfl r6 rfl (lB rfl) rfl) rfl rfl ?_
  rintro _ w6 ⟨r7, m6, z5⟩
  have r8 : Row w6 w2.heap.size 0 [vS br'1 0 nRr nRr, vI Rj, vF g] := Row.congr r7 rfl
  refine WL.end ?_
  refine NE.code ?_
  refine CE.seq ?_
  refine CE.region ?_
  refine WL.det (op_loadA (i := 0) (cs := [vS br'1 0 nRr nRr, vI Rj, vF g]) rfl Try.isAgg40 Try.sizeOf40 r8.rng rfl rfl rfl) rfl rfl rfl ?_
  refine WL.op0 (op_store (i := 0) (cs := [vS br'1 0 nRr nRr, vI Rj, vF g]) rfl rfl rfl Try.sizeOf40 rfl ((((r2.ext m3).ext m4).mod m5 (nC (lE (lL r2.lt lR)) nN)).mod m6 (nC (lE (lL r2.lt lR)) nN)) rfl (lB rfl) rfl) rfl rfl ?_
  rintro _ w7 ⟨r9, m7, z6⟩
  have r10 : Row w7 w1.heap.size 0 [vS br'1 0 nRr nRr, vI Rj, vF g] := Row.congr r9 rfl
  refine WL.end ?_
  refine NE.code ?_
  refine CE.ret' ?_
  refine XE.leaveC Try.results35 (res_agg (cs := [vS br'1 0 nRr nRr, vI Rj, vF g]) rfl Try.isAgg40 Try.sizeOf40 r10.rng rfl res_nil) ?_
  refine ⟨br'1, rfl, (((r4.mod m5 (nC (lG (lL r3.lt ge1)) nN)).mod m6 (nC (lG (lL r3.lt ge1)) nN)).mod m7 (nC (lG (lL (lL r2.lt m3.size) ge1)) nN)), (lT (lT (lT m1.size m2.size) m3.size) ge1), ((((((((Mod.refl [] w).nt m1).nt m2).nt m3).nt m4).then m5 ((aC (.inr (lT (lT m1.size m2.size) lR)) aN))).then m6 ((aC (.inr (lT (lT m1.size m2.size) lR)) aN))).then m7 ((aC (.inr (lT m1.size lR)) aN)))⟩

set_option maxRecDepth 100000 in
set_option maxHeartbeats 2000000 in
theorem c_eqComb (nRr : Nat) (cRr : Nat) (ARr : Option Addr) (bRr : Nat) (oRr : Nat) (xRr : List Nat) (Rj : Int) (g : Nat) (ge : Nat) (cRr' : Nat) (ARr' : Option Addr) (bRr' : Nat) (oRr' : Nat) (g' : Nat) (lnRr : xRr.length = nRr) (hARr : 0 < nRr → ARr = some ⟨bRr, oRr, none⟩) (hARr' : 0 < nRr → ARr' = some ⟨bRr', oRr', none⟩) (hg : cn .f32 g = cn .f32 ge) (hg' : cn .f32 g' = cn .f32 ge) (hbnRr : nRr ≤ 9223372036854775807) (w : World) (rRr : Rng w bRr oRr (fl xRr)) (rRr' : Rng w bRr' oRr' (fl xRr)) : Cl Try.prog 36 #[.agg #[.slice ARr nRr cRr, vI Rj, vF g], .agg #[.slice ARr' nRr cRr', vI Rj, vF g']] w fun v w' => v = .bool true ∧ Mod [] w w' := by
  refine Cl.of Try.func36 Try.ntmps36 rfl rfl (ρ := [(0, .agg #[.slice ARr nRr cRr, vI Rj, vF g]), (1, .agg #[.slice ARr' nRr cRr', vI Rj, vF g'])]) rfl ?_
  refine CE.seq ?_
  refine CE.region ?_
  refine WL.op (op_box (cs := [.slice ARr nRr cRr, vI Rj, vF g]) rfl rfl) rfl rfl (ltb rfl) ?_
  rintro _ w1 ⟨rfl, r1, m1, z1⟩
  refine WL.op (op_box (cs := [.slice ARr' nRr cRr', vI Rj, vF g']) rfl rfl) rfl rfl (ltb rfl) ?_
  rintro _ w2 ⟨rfl, r2, m2, z2⟩
  refine WL.det (op_assign rfl) rfl rfl rfl ?_
  refine WL.end ?_
  refine NE.code ?_
  refine CE.seq ?_
  refine CE.seq ?_
  refine CE.region ?_
  refine WL.det (op_fieldAddr (off' := 0) rfl Try.runUnderlying40 rfl rfl Try.sizeOf27 rfl) rfl rfl rfl ?_
  refine WL.det (op_loadA (i := 0) (cs := [.slice ARr nRr cRr, vI Rj]) rfl Try.isAgg27 Try.sizeOf27 (r1.ext m2).rng rfl rfl rfl) rfl rfl rfl ?_
  refine WL.det (op_fieldAddr (off' := 0) rfl Try.runUnderlying40 rfl rfl Try.sizeOf27 rfl) rfl rfl rfl ?_
  refine WL.det (op_loadA (i := 0) (cs := [.slice ARr' nRr cRr', vI Rj]) rfl Try.isAgg27 Try.sizeOf27 r2.rng rfl rfl rfl) rfl rfl rfl ?_
  refine WL.call (oc_call (vs := [.agg #[.slice ARr nRr cRr, vI Rj], .agg #[.slice ARr' nRr cRr', vI Rj]]) (cap := []) rfl rfl rfl Try.call13 (c_eqRing nRr cRr ARr bRr oRr xRr Rj cRr' ARr' bRr' oRr' lnRr hARr hARr' (by omega) w2 ((rRr.ext m1).ext m2) ((rRr'.ext m1).ext m2))) rfl rfl (ltb rfl) ?_
  rintro _ w3 ⟨rfl, m3⟩
  refine WL.det (op_not rfl) rfl rfl rfl ?_
  refine WL.end ?_
  refine NE.code ?_
  refine CE.cond_f rfl rfl ?_
  refine CE.skip' ?_
  refine NE.code ?_
  refine CE.seq ?_
  refine CE.seq ?_
  refine CE.region ?_
  refine WL.det (op_fieldAddr (off' := 2) rfl Try.runUnderlying40 rfl rfl Try.sizeOf25 rfl) rfl rfl rfl ?_
  refine WL.det (op_load1 (i := 2) rfl Try.isAgg25 ((r1.ext m2).ext m3).rng rfl rfl) rfl rfl rfl ?_
  refine WL.op (op_widen (e := (wide ge)) rfl hg Try.runUnderlying25 Try.runUnderlying33 rfl) rfl rfl (ltb rfl) ?_
  rintro _ w4 ⟨⟨f1, rfl, hf1, lf1⟩, m4⟩
  refine WL.det (op_fieldAddr (off' := 2) rfl Try.runUnderlying40 rfl rfl Try.sizeOf25 rfl) rfl rfl rfl ?_
  refine WL.det (op_load1 (i := 2) rfl Try.isAgg25 ((r2.ext m3).ext m4).rng rfl rfl) rfl rfl rfl ?_
  refine WL.op (op_widen (e := (wide ge)) rfl hg' Try.runUnderlying25 Try.runUnderlying33 rfl) rfl rfl (ltb rfl) ?_
  rintro _ w5 ⟨⟨f2, rfl, hf2, lf2⟩, m5⟩
  refine WL.call (oc_call (vs := [.float .f64 f1, .float .f64 f2]) (cap := []) rfl rfl rfl Try.call14 (c_sameFloat f1 (wide ge) f2 (wide ge) hf1 hf2 w5)) rfl rfl (ltb rfl) ?_
  rintro _ w6 ⟨rfl, m6⟩
  refine WL.det (op_not rfl) rfl rfl rfl ?_
  refine WL.end ?_
  refine NE.code ?_
  refine CE.cond_f rfl (bnot_t (sameF_self _)) ?_
  refine CE.skip' ?_
  refine NE.code ?_
  refine CE.seq ?_
  refine CE.region ?_
  refine WL.det (op_assign rfl) rfl rfl rfl ?_
  refine WL.end ?_
  refine NE.code ?_
  refine CE.ret' ?_
  refine XE.leave1 Try.results36 rfl ?_
  refine ⟨rfl, (((((((Mod.refl [] w).nt m1).nt m2).nt m3).nt m4).nt m5).nt m6)⟩

set_option maxRecDepth 100000 in
set_option maxHeartbeats 2000000 in
theorem c_markComb (nRr : Nat) (cRr : Nat) (bRr : Nat) (xRr : List Nat) (Rj : Int) (g : Nat) (k : Nat) (lnRr : xRr.length = nRr) (hnnRr : nRr ≤ 1048576) (hk : k ≤ 1048576) (w : World) (rRr : Row w bRr 0 (fl xRr)) : Cl Try.prog 37 #[.agg #[vS bRr 0 nRr cRr, vI Rj, vF g], vI ((k : Nat) : Int)] w fun v w' => v = vI ((k + nRr : Nat) : Int) ∧ Row w' bRr 0 (fl (marks xRr k nRr)) ∧ Mod [bRr] w w' := by
  refine Cl.of Try.func37 Try.ntmps37 rfl rfl (ρ := [(0, .agg #[vS bRr 0 nRr cRr, vI Rj, vF g]), (1, vI ((k : Nat) : Int))]) rfl ?_
  refine CE.seq ?_
  refine CE.region ?_
  refine WL.op (op_box (cs := [vS bRr 0 nRr cRr, vI Rj, vF g]) rfl rfl) rfl rfl (ltb rfl) ?_
  rintro _ w1 ⟨rfl, r1, m1, z1⟩
  refine WL.det (op_assign rfl) rfl rfl rfl ?_
  refine WL.end ?_
  refine NE.code ?_
  refine CE.seq ?_
  refine CE.region ?_
  refine WL.det (op_fieldAddr (off' := 0) rfl Try.runUnderlying40 rfl rfl Try.sizeOf27 rfl) rfl rfl rfl ?_
  refine WL.det (op_loadA (i := 0) (cs := [vS bRr 0 nRr cRr, vI Rj]) rfl Try.isAgg27 Try.sizeOf27 r1.rng rfl rfl rfl) rfl rfl rfl ?_
  refine WL.det (op_move rfl) rfl rfl rfl ?_
  refine WL.call (oc_call (vs := [.agg #[vS bRr 0 nRr cRr, vI Rj], vI ((k : Nat) : Int)]) (cap := []) rfl rfl rfl Try.call15 (c_markRing nRr cRr bRr xRr Rj k lnRr (by omega) (by omega) w1 (rRr.ext m1))) rfl rfl (ltb rfl) ?_
  rintro _ w2 ⟨rfl, r2, m2⟩
  refine WL.det (op_assign rfl) rfl rfl rfl ?_
  refine WL.end ?_
  refine NE.code ?_
  refine CE.seq ?_
  refine CE.region ?_
  refine WL.det (op_move rfl) rfl rfl rfl ?_
  refine WL.det (op_assign rfl) rfl rfl rfl ?_
  refine WL.end ?_
  refine NE.code ?_
  refine CE.ret' ?_
  refine XE.leave1 Try.results37 rfl ?_
  refine ⟨rfl, r2, (((Mod.refl [bRr] w).nt m1).then m2 ((aC (.inl (by simp)) aN)))⟩

set_option maxRecDepth 100000 in
set_option maxHeartbeats 2000000 in
theorem c_heldComb (nRr : Nat) (cRr : Nat) (bRr : Nat) (xRr : List Nat) (Rj : Int) (g : Nat) (k : Nat) (lnRr : xRr.length = nRr) (hnnRr : nRr ≤ 1048576) (hk : k ≤ 1048576) (hhRr : Held xRr k nRr) (w : World) (rRr : Rng w bRr 0 (fl xRr)) : Cl Try.prog 38 #[.agg #[vS bRr 0 nRr cRr, vI Rj, vF g], vI ((k : Nat) : Int)] w fun v w' => v = vI ((k + nRr : Nat) : Int) ∧ Mod [] w w' := by
  refine Cl.of Try.func38 Try.ntmps38 rfl rfl (ρ := [(0, .agg #[vS bRr 0 nRr cRr, vI Rj, vF g]), (1, vI ((k : Nat) : Int))]) rfl ?_
  refine CE.seq ?_
  refine CE.region ?_
  refine WL.op (op_box (cs := [vS bRr 0 nRr cRr, vI Rj, vF g]) rfl rfl) rfl rfl (ltb rfl) ?_
  rintro _ w1 ⟨rfl, r1, m1, z1⟩
  refine WL.det (op_assign rfl) rfl rfl rfl ?_
  refine WL.end ?_
  refine NE.code ?_
  refine CE.seq ?_
  refine CE.region ?_
  refine WL.det (op_fieldAddr (off' := 0) rfl Try.runUnderlying40 rfl rfl Try.sizeOf27 rfl) rfl rfl rfl ?_
  refine WL.det (op_loadA (i := 0) (cs := [vS bRr 0 nRr cRr, vI Rj]) rfl Try.isAgg27 Try.sizeOf27 r1.rng rfl rfl rfl) rfl rfl rfl ?_
  refine WL.det (op_move rfl) rfl rfl rfl ?_
  refine WL.call (oc_call (vs := [.agg #[vS bRr 0 nRr cRr, vI Rj], vI ((k : Nat) : Int)]) (cap := []) rfl rfl rfl Try.call16 (c_heldRing nRr cRr bRr xRr Rj k lnRr (by omega) (by omega) (by first | assumption | exact marks_held _ _ _) w1 (rRr.ext m1))) rfl rfl (ltb rfl) ?_
  rintro _ w2 ⟨rfl, m2⟩
  refine WL.det (op_assign rfl) rfl rfl rfl ?_
  refine WL.end ?_
  refine NE.code ?_
  refine CE.seq ?_
  refine CE.seq ?_
  refine CE.region ?_
  refine WL.det (op_move rfl) rfl rfl rfl ?_
  refine WL.det (op_lti_f rfl rfl (by omega)) rfl rfl rfl ?_
  refine WL.end ?_
  refine NE.code ?_
  refine CE.cond_f rfl rfl ?_
  refine CE.skip' ?_
  refine NE.code ?_
  refine CE.seq ?_
  refine CE.region ?_
  refine WL.det (op_move rfl) rfl rfl rfl ?_
  refine WL.det (op_assign rfl) rfl rfl rfl ?_
  refine WL.end ?_
  refine NE.code ?_
  refine CE.ret' ?_
  refine XE.leave1 Try.results38 rfl ?_
  refine ⟨rfl, (((Mod.refl [] w).nt m1).nt m2)⟩

set_option maxRecDepth 100000 in
set_option maxHeartbeats 2000000 in
theorem c_markComb_nil (Rj : Int) (g : Nat) (k : Nat) (hk : k ≤ 1048576) (w : World) : Cl Try.prog 37 #[.agg #[.slice none 0 0, vI Rj, vF g], vI ((k : Nat) : Int)] w fun v w' => v = vI ((k : Nat) : Int) ∧ Mod [] w w' := by
  refine Cl.of Try.func37 Try.ntmps37 rfl rfl (ρ := [(0, .agg #[.slice none 0 0, vI Rj, vF g]), (1, vI ((k : Nat) : Int))]) rfl ?_
  refine CE.seq ?_
  refine CE.region ?_
  refine WL.op (op_box (cs := [.slice none 0 0, vI Rj, vF g]) rfl rfl) rfl rfl (ltb rfl) ?_
  rintro _ w1 ⟨rfl, r1, m1, z1⟩
  refine WL.det (op_assign rfl) rfl rfl rfl ?_
  refine WL.end ?_
  refine NE.code ?_
  refine CE.seq ?_
  refine CE.region ?_
  refine WL.det (op_fieldAddr (off' := 0) rfl Try.runUnderlying40 rfl rfl Try.sizeOf27 rfl) rfl rfl rfl ?_
  refine WL.det (op_loadA (i := 0) (cs := [.slice none 0 0, vI Rj]) rfl Try.isAgg27 Try.sizeOf27 r1.rng rfl rfl rfl) rfl rfl rfl ?_
  refine WL.det (op_move rfl) rfl rfl rfl ?_
  refine WL.call (oc_call (vs := [.agg #[.slice none 0 0, vI Rj], vI ((k : Nat) : Int)]) (cap := []) rfl rfl rfl Try.call15 (c_markRing_nil Rj k (by omega) w1)) rfl rfl (ltb rfl) ?_
  rintro _ w2 ⟨rfl, m2⟩
  refine WL.det (op_assign rfl) rfl rfl rfl ?_
  refine WL.end ?_
  refine NE.code ?_
  refine CE.seq ?_
  refine CE.region ?_
  refine WL.det (op_move rfl) rfl rfl rfl ?_
  refine WL.det (op_assign rfl) rfl rfl rfl ?_
  refine WL.end ?_
  refine NE.code ?_
  refine CE.ret' ?_
  refine XE.leave1 Try.results37 rfl ?_
  refine ⟨rfl, (((Mod.refl [] w).nt m1).nt m2)⟩

set_option maxRecDepth 100000 in
set_option maxHeartbeats 2000000 in
theorem c_heldComb_nil (Rj : Int) (g : Nat) (k : Nat) (hk : k ≤ 1048576) (w : World) : Cl Try.prog 38 #[.agg #[.slice none 0 0, vI Rj, vF g], vI ((k : Nat) : Int)] w fun v w' => v = vI ((k : Nat) : Int) ∧ Mod [] w w' := by
  refine Cl.of Try.func38 Try.ntmps38 rfl rfl (ρ := [(0, .agg #[.slice none 0 0, vI Rj, vF g]), (1, vI ((k : Nat) : Int))]) rfl ?_
  refine CE.seq ?_
  refine CE.region ?_
  refine WL.op (op_box (cs := [.slice none 0 0, vI Rj, vF g]) rfl rfl) rfl rfl (ltb rfl) ?_
  rintro _ w1 ⟨rfl, r1, m1, z1⟩
  refine WL.det (op_assign rfl) rfl rfl rfl ?_
  refine WL.end ?_
  refine NE.code ?_
  refine CE.seq ?_
  refine CE.region ?_
  refine WL.det (op_fieldAddr (off' := 0) rfl Try.runUnderlying40 rfl rfl Try.sizeOf27 rfl) rfl rfl rfl ?_
  refine WL.det (op_loadA (i := 0) (cs := [.slice none 0 0, vI Rj]) rfl Try.isAgg27 Try.sizeOf27 r1.rng rfl rfl rfl) rfl rfl rfl ?_
  refine WL.det (op_move rfl) rfl rfl rfl ?_
  refine WL.call (oc_call (vs := [.agg #[.slice none 0 0, vI Rj], vI ((k : Nat) : Int)]) (cap := []) rfl rfl rfl Try.call16 (c_heldRing_nil Rj k (by omega) w1)) rfl rfl (ltb rfl) ?_
  rintro _ w2 ⟨rfl, m2⟩
  refine WL.det (op_assign rfl) rfl rfl rfl ?_
  refine WL.end ?_
  refine NE.code ?_
  refine CE.seq ?_
  refine CE.seq ?_
  refine CE.region ?_
  refine WL.det (op_move rfl) rfl rfl rfl ?_
  refine WL.det (op_lti_f rfl rfl (by omega)) rfl rfl rfl ?_
  refine WL.end ?_
  refine NE.code ?_
  refine CE.cond_f rfl rfl ?_
  refine CE.skip' ?_
  refine NE.code ?_
  refine CE.seq ?_
  refine CE.region ?_
  refine WL.det (op_move rfl) rfl rfl rfl ?_
  refine WL.det (op_assign rfl) rfl rfl rfl ?_
  refine WL.end ?_
  refine NE.code ?_
  refine CE.ret' ?_
  refine XE.leave1 Try.results38 rfl ?_
  refine ⟨rfl, (((Mod.refl [] w).nt m1).nt m2)⟩

set_option maxRecDepth 100000 in
set_option maxHeartbeats 2000000 in
theorem c_l04Rings1 (n : Nat) (c : Nat) (b : Nat) (xs : List Nat) (j : Int) (d : Nat) (c' : Nat) (ln : xs.length = n) (hn : n ≤ 1048576) (w : World) (q : Rng w d 0 [vS b 0 n c, vI j]) (r : Rng w b 0 (fl xs)) : Cl Try.prog 80 #[vS d 0 1 c'] w fun v w' => v = .bool (vRingF n j xs) ∧ Mod [] w w' := by
  refine Cl.of Try.func80 Try.ntmps80 rfl rfl (ρ := [(0, vS d 0 1 c')]) rfl ?_
  refine CE.seq ?_
  refine CE.region ?_
  refine WL.det (op_assign rfl) rfl rfl rfl ?_
  refine WL.end ?_
  refine NE.code ?_
  refine CE.seq ?_
  refine CE.seq ?_
  refine CE.region ?_
  refine WL.det (op_assign rfl) rfl rfl rfl ?_
  refine WL.end ?_
  refine NE.code ?_
  refine CE.block ?_
  refine CE.rounds 2 ?_
  refine RN.one ?_
  refine CE.seq ?_
  refine CE.seq ?_
  refine CE.region ?_
  refine WL.det (op_move rfl) rfl rfl rfl ?_
  refine WL.det (op_move rfl) rfl rfl rfl ?_
  refine WL.det (op_len rfl Try.runUnderlying115) rfl rfl rfl ?_
  refine WL.det (op_lti rfl rfl) rfl rfl rfl ?_
  refine WL.end ?_
  refine NE.code ?_
  refine CE.cond_t rfl rfl ?_
  refine CE.skip' ?_
  refine NE.code ?_
  refine CE.seq ?_
  refine CE.block ?_
  refine CE.seq ?_
  refine CE.region ?_
  refine WL.det (op_move rfl) rfl rfl rfl ?_
  refine WL.det (op_move rfl) rfl rfl rfl ?_
  refine WL.det (op_indexSl (off' := 0) rfl rfl rfl Try.runUnderlying115 Try.sizeOf27 (by omega) (by omega) rfl) rfl rfl rfl ?_
  refine WL.call (oc_call (vs := [vP d 0]) (cap := []) rfl rfl rfl Try.call40 (c_l02Ring n c (some ⟨b, 0, none⟩) j d 0 [vS b 0 n c, vI j] (by omega) (lB rfl) w (Rng.congr q rfl))) rfl rfl (ltb rfl) ?_
  rintro _ _ ⟨rfl, rfl⟩
  refine WL.det (op_not rfl) rfl rfl rfl ?_
  refine WL.det (op_move rfl) rfl rfl rfl ?_
  rcases Bool.eq_false_or_eq_true (vRing n j) with hb1 | hb1
  · refine WL.yes rfl rfl rfl (ltb rfl) rfl (bnot_t hb1) ?_
    refine WL.det (op_move rfl) rfl rfl rfl ?_
    refine WL.yes rfl rfl rfl (ltb rfl) rfl (bnot_t hb1) ?_
    refine WL.det (op_move rfl) rfl rfl rfl ?_
    refine WL.yes rfl rfl rfl (ltb rfl) rfl (bnot_t hb1) ?_
    refine WL.det (op_indexSl (off' := 0) rfl rfl rfl Try.runUnderlying115 Try.sizeOf27 (by omega) (by omega) rfl) rfl rfl rfl ?_
    refine WL.yes rfl rfl rfl (ltb rfl) rfl (bnot_t hb1) ?_
    refine WL.det (op_fieldAddr (off' := 0) rfl Try.runUnderlying27 rfl rfl Try.sizeOf22 rfl) rfl rfl rfl ?_
    refine WL.yes rfl rfl rfl (ltb rfl) rfl (bnot_t hb1) ?_
    refine WL.det (op_load1 (i := 0) rfl Try.isAgg22 q rfl rfl) rfl rfl rfl ?_
    refine WL.yes rfl rfl rfl (ltb rfl) rfl (bnot_t hb1) ?_
    refine WL.call (oc_call (vs := [vS b 0 n c]) (cap := []) rfl rfl rfl Try.call93 (c_l04All n c b xs ln (by omega) w r)) rfl rfl (ltb rfl) ?_
    rintro _ w1 ⟨rfl, m1⟩
    refine WL.yes rfl rfl rfl (ltb rfl) rfl (bnot_t hb1) ?_
    refine WL.det (op_not rfl) rfl rfl rfl ?_
    refine WL.det (op_pick_f rfl (bnot_t hb1) rfl) rfl rfl rfl ?_
    refine WL.end ?_
    refine NE.code ?_
    rcases Bool.eq_false_or_eq_true (allF xs n) with hb2 | hb2
    · refine CE.cond_f rfl (bnot_t hb2) ?_
      refine CE.skip' ?_
      refine NE.blk ?_
      refine NE.code ?_
      refine CE.region ?_
      refine WL.det (op_move rfl) rfl rfl rfl ?_
      refine WL.det (op_add (r := 1) rfl rfl (by decide)) rfl rfl rfl ?_
      refine WL.det (op_assign rfl) rfl rfl rfl ?_
      refine WL.end ?_
      refine NE.round ?_
      refine RN.one ?_
      refine CE.seq ?_
      refine CE.seq ?_
      refine CE.region ?_
      refine WL.det (op_move rfl) rfl rfl rfl ?_
      refine WL.det (op_move rfl) rfl rfl rfl ?_
      refine WL.det (op_len rfl Try.runUnderlying115) rfl rfl rfl ?_
      refine WL.det (op_lti rfl rfl) rfl rfl rfl ?_
      refine WL.end ?_
      refine NE.code ?_
      refine CE.cond_f rfl rfl ?_
      refine CE.exit' ?_
      refine XE.exit_then ?_
      refine XE.exit_then ?_
      refine XE.exit_here ?_
      refine NE.code ?_
      refine CE.seq ?_
      refine CE.region ?_
      refine WL.det (op_assign rfl) rfl rfl rfl ?_
      refine WL.end ?_
      refine NE.code ?_
      refine CE.ret' ?_
      refine XE.leave1 Try.results80 rfl ?_
      refine ⟨?_, ((Mod.refl [] w).nt m1)⟩
      all_goals simp_all [vRingF]
    · refine CE.cond_t rfl (bnot_f hb2) ?_
      refine CE.seq ?_
      refine CE.region ?_
      refine WL.det (op_assign rfl) rfl rfl rfl ?_
      refine WL.end ?_
      refine NE.code ?_
      refine CE.ret' ?_
      refine XE.ret_blk ?_
      refine XE.ret_then ?_
      refine XE.ret_then ?_
      refine XE.ret_blk ?_
      refine XE.ret_then ?_
      refine XE.leave1 Try.results80 rfl ?_
      refine ⟨?_, ((Mod.refl [] w).nt m1)⟩
      all_goals simp_all [vRingF]
  · refine WL.no rfl rfl rfl (ltb rfl) rfl (bnot_f hb1) rfl (ltb rfl) ?_
    refine WL.no rfl rfl rfl (ltb rfl) rfl (bnot_f hb1) rfl (ltb rfl) ?_
    refine WL.no rfl rfl rfl (ltb rfl) rfl (bnot_f hb1) rfl (ltb rfl) ?_
    refine WL.no rfl rfl rfl (ltb rfl) rfl (bnot_f hb1) rfl (ltb rfl) ?_
    refine WL.no rfl rfl rfl (ltb rfl) rfl (bnot_f hb1) rfl (ltb rfl) ?_
    refine WL.no rfl rfl rfl (ltb rfl) rfl (bnot_f hb1) rfl (ltb rfl) ?_
    refine WL.no rfl rfl rfl (ltb rfl) rfl (bnot_f hb1) rfl (ltb rfl) ?_
    refine WL.det (op_pick_t rfl (bnot_f hb1) rfl) rfl rfl rfl ?_
    refine WL.end ?_
    refine NE.code ?_
    refine CE.cond_t rfl rfl ?_
    refine CE.seq ?_
    refine CE.region ?_
    refine WL.det (op_assign rfl) rfl rfl rfl ?_
    refine WL.end ?_
    refine NE.code ?_
    refine CE.ret' ?_
    refine XE.ret_blk ?_
    refine XE.ret_then ?_
    refine XE.ret_then ?_
    refine XE.ret_blk ?_
    refine XE.ret_then ?_
    refine XE.leave1 Try.results80 rfl ?_
    refine ⟨?_, (Mod.refl [] w)⟩
    all_goals simp_all [vRingF]

set_option maxRecDepth 100000 in
set_option maxHeartbeats 2000000 in
theorem c_ValidComb (n : Nat) (c : Nat) (b : Nat) (xs : List Nat) (j : Int) (g : Nat) (ln : xs.length = n) (hn : n ≤ 1048576) (w : World) (r : Rng w b 0 (fl xs)) : Cl Try.prog 20 #[.agg #[vS b 0 n c, vI j, vF g]] w fun v w' => v = .bool (vComb n j xs g) ∧ Mod [] w w' := by
  refine Cl.of Try.func20 Try.ntmps20 rfl rfl (ρ := [(0, .agg #[vS b 0 n c, vI j, vF g])]) rfl ?_
  refine CE.seq ?_
  refine CE.region ?_
  refine WL.op (op_box (cs := [vS b 0 n c, vI j, vF g]) rfl rfl) rfl rfl (ltb rfl) ?_
  rintro _ w1 ⟨rfl, r1, m1, z1⟩
  refine WL.det (op_assign rfl) rfl rfl rfl ?_
  refine WL.end ?_
  refine NE.code ?_
  refine CE.seq ?_
  refine CE.region ?_
  refine WL.det (op_fieldAddr (off' := 0) rfl Try.runUnderlying40 rfl rfl Try.sizeOf27 rfl) rfl rfl rfl ?_
  refine WL.det (op_loadA (i := 0) (cs := [vS b 0 n c, vI j]) rfl Try.isAgg27 Try.sizeOf27 r1.rng rfl rfl rfl) rfl rfl rfl ?_
  refine WL.call (oc_call (vs := [.agg #[vS b 0 n c, vI j]]) (cap := []) rfl rfl rfl Try.call54 (c_isRing n c b xs j ln (by omega) w1 (r.ext m1))) rfl rfl (ltb rfl) ?_
  rintro _ w2 ⟨rfl, m2⟩
  refine WL.det (op_move rfl) rfl rfl rfl ?_
  rcases Bool.eq_false_or_eq_true (vRingF n j xs) with hb1 | hb1
  · refine WL.yes rfl rfl rfl (ltb rfl) rfl hb1 ?_
    refine WL.det (op_fieldAddr (off' := 2) rfl Try.runUnderlying40 rfl rfl Try.sizeOf25 rfl) rfl rfl rfl ?_
    refine WL.yes rfl rfl rfl (ltb rfl) rfl hb1 ?_
    refine WL.det (op_load1 (i := 2) rfl Try.isAgg25 (r1.ext m2).rng rfl rfl) rfl rfl rfl ?_
    refine WL.yes rfl rfl rfl (ltb rfl) rfl hb1 ?_
    refine WL.call (oc_call (vs := [vF g]) (cap := []) rfl rfl rfl Try.call55 (c_isFinite g g rfl w2)) rfl rfl (ltb rfl) ?_
    rintro _ w3 ⟨rfl, m3⟩
    refine WL.det (op_pick_t rfl hb1 rfl) rfl rfl rfl ?_
    refine WL.det (op_assign rfl) rfl rfl rfl ?_
    refine WL.end ?_
    refine NE.code ?_
    refine CE.ret' ?_
    refine XE.leave1 Try.results20 rfl ?_
    refine ⟨?_, ((((Mod.refl [] w).nt m1).nt m2).nt m3)⟩
    all_goals simp_all [vComb]
  · refine WL.no rfl rfl rfl (ltb rfl) rfl hb1 rfl (ltb rfl) ?_
    refine WL.no rfl rfl rfl (ltb rfl) rfl hb1 rfl (ltb rfl) ?_
    refine WL.no rfl rfl rfl (ltb rfl) rfl hb1 rfl (ltb rfl) ?_
    refine WL.det (op_pick_f rfl hb1 rfl) rfl rfl rfl ?_
    refine WL.det (op_assign rfl) rfl rfl rfl ?_
    refine WL.end ?_
    refine NE.code ?_
    refine CE.ret' ?_
    refine XE.leave1 Try.results20 rfl ?_
    refine ⟨?_, (((Mod.refl [] w).nt m1).nt m2)⟩
    all_goals simp_all [vComb]

set_option maxRecDepth 100000 in
set_option maxHeartbeats 2000000 in
theorem c_l06Comb (n : Nat) (c : Nat) (b : Nat) (xs : List Nat) (j : Int) (g : Nat) (p : Nat) (ln : xs.length = n) (hn : n ≤ 1048576) (w : World) (q : Rng w p 0 [vS b 0 n c, vI j, vF g]) (r : Rng w b 0 (fl xs)) : Cl Try.prog 57 #[vP p 0] w fun v w' => v = .bool (vComb n j xs g) ∧ Mod [] w w' := by
  refine Cl.of Try.func57 Try.ntmps57 rfl rfl (ρ := [(0, vP p 0)]) rfl ?_
  refine CE.seq ?_
  refine CE.region ?_
  refine WL.det (op_assign rfl) rfl rfl rfl ?_
  refine WL.end ?_
  refine NE.code ?_
  refine CE.seq ?_
  refine CE.region ?_
  refine WL.det (op_move rfl) rfl rfl rfl ?_
  refine WL.det (op_nilCheck rfl) rfl rfl rfl ?_
  refine WL.det (op_fieldAddr (off' := 0) rfl Try.runUnderlying40 rfl rfl Try.sizeOf27 rfl) rfl rfl rfl ?_
  refine WL.det (op_loadA (i := 0) (cs := [vS b 0 n c, vI j]) rfl Try.isAgg27 Try.sizeOf27 q rfl rfl rfl) rfl rfl rfl ?_
  refine WL.op (op_buildSl (qs := [(0, .agg #[vS b 0 n c, vI j])]) (cells := #[vS b 0 n c, vI j]) rfl Try.runUnderlying115 Try.sizeOf27 Try.zeroValue27 (by decide) (by decide) (by kernel_rfl)) rfl rfl (ltb rfl) ?_
  rintro _ w1 ⟨rfl, r1, m1, z1⟩
  refine WL.call (oc_call (vs := [vS w.heap.size 0 1 1]) (cap := []) rfl rfl rfl Try.call80 (c_l04Rings1 n c b xs j w.heap.size 1 ln (by omega) w1 r1.rng (r.ext m1))) rfl rfl (ltb rfl) ?_
  rintro _ w2 ⟨rfl, m2⟩
  refine WL.det (op_move rfl) rfl rfl rfl ?_
  rcases Bool.eq_false_or_eq_true (vRingF n j xs) with hb1 | hb1
  · refine WL.yes rfl rfl rfl (ltb rfl) rfl hb1 ?_
    refine WL.det (op_move rfl) rfl rfl rfl ?_
    refine WL.yes rfl rfl rfl (ltb rfl) rfl hb1 ?_
    refine WL.det (op_nilCheck rfl) rfl rfl rfl ?_
    refine WL.yes rfl rfl rfl (ltb rfl) rfl hb1 ?_
    refine WL.det (op_fieldAddr (off' := 2) rfl Try.runUnderlying40 rfl rfl Try.sizeOf25 rfl) rfl rfl rfl ?_
    refine WL.yes rfl rfl rfl (ltb rfl) rfl hb1 ?_
    refine WL.det (op_load1 (i := 2) rfl Try.isAgg25 ((q.ext m1).ext m2) rfl rfl) rfl rfl rfl ?_
    refine WL.yes rfl rfl rfl (ltb rfl) rfl hb1 ?_
    refine WL.call (oc_call (vs := [vF g]) (cap := []) rfl rfl rfl Try.call81 (c_l01Finite g g rfl w2)) rfl rfl (ltb rfl) ?_
    rintro _ w3 ⟨rfl, m3⟩
    refine WL.det (op_pick_t rfl hb1 rfl) rfl rfl rfl ?_
    refine WL.det (op_assign rfl) rfl rfl rfl ?_
    refine WL.end ?_
    refine NE.code ?_
    refine CE.ret' ?_
    refine XE.leave1 Try.results57 rfl ?_
    refine ⟨?_, ((((Mod.refl [] w).nt m1).nt m2).nt m3)⟩
    all_goals simp_all [vComb]
  · refine WL.no rfl rfl rfl (ltb rfl) rfl hb1 rfl (ltb rfl) ?_
    refine WL.no rfl rfl rfl (ltb rfl) rfl hb1 rfl (ltb rfl) ?_
    refine WL.no rfl rfl rfl (ltb rfl) rfl hb1 rfl (ltb rfl) ?_
    refine WL.no rfl rfl rfl (ltb rfl) rfl hb1 rfl (ltb rfl) ?_
    refine WL.no rfl rfl rfl (ltb rfl) rfl hb1 rfl (ltb rfl) ?_
    refine WL.det (op_pick_f rfl hb1 rfl) rfl rfl rfl ?_
    refine WL.det (op_assign rfl) rfl rfl rfl ?_
    refine WL.end ?_
    refine NE.code ?_
    refine CE.ret' ?_
    refine XE.leave1 Try.results57 rfl ?_
    refine ⟨?_, (((Mod.refl [] w).nt m1).nt m2)⟩
    all_goals simp_all [vComb]

set_option maxRecDepth 100000 in
set_option maxHeartbeats 2000000 in
theorem c_l06Copy (n : Nat) (c : Nat) (b : Nat) (xs : List Nat) (j : Int) (g : Nat) (p : Nat) (ln : xs.length = n) (h0 : 0 < n) (hn : n ≤ 1048576) (w : World) (q : Rng w p 0 [vS b 0 n c, vI j, vF g]) (r : Rng w b 0 (fl xs)) : Cl Try.prog 58 #[vP p 0] w fun v w' => ∃ (b' : Nat) (c' : Nat), v = .agg #[vS b' 0 n c', vI j, vF g] ∧ Row w' b' 0 (fl xs) ∧ w.heap.size ≤ b' ∧ Mod [] w w' := by
  refine Cl.of Try.func58 Try.ntmps58 rfl rfl (ρ := [(0, vP p 0)]) rfl ?_
  refine CE.seq ?_
  refine CE.region ?_
  refine WL.op (op_alloc (cs := [.slice none 0 0, vI 0, vF 0]) Try.zeroValue40 rfl) rfl rfl (ltb rfl) ?_
  rintro _ w1 ⟨rfl, r1, m1, z1⟩
  refine WL.end ?_
  refine NE.code ?_
  refine CE.seq ?_
  refine CE.draw (fun | 3 => some (fun _ wA uA wB => ∃ (b' : Nat) (c' : Nat), uA = .agg #[vS b' 0 n c', vI j] ∧ Row wB b' 0 (fl xs) ∧ wA.heap.size ≤ b' ∧ Mod [] wA wB) | _ => none) [0, 1, 2, 3, 4, 5, 6, 7] [8, 9] [] (by kernel_rfl) (by kernel_rfl) ?_
  have md1 : Mod [] w1 w1.drew := (Mod.refl _ _).drew
  generalize w1.drew = w2 at md1 ⊢
  refine DR.det (i := 0) rfl rfl (by kernel_rfl) (.free rfl) rfl rfl (fun wD mD => op_move rfl) ?_
  refine DR.det (i := 1) rfl rfl (by kernel_rfl) (.free rfl) rfl rfl (fun wD mD => op_nilCheck rfl) ?_
  refine DR.det (i := 2) rfl rfl (by kernel_rfl) (.free rfl) rfl rfl (fun wD mD => op_fieldAddr (off' := 0) rfl Try.runUnderlying40 rfl rfl Try.sizeOf27 rfl) ?_
  refine DR.det (i := 4) rfl rfl (by kernel_rfl) (.free rfl) rfl rfl (fun wD mD => op_move rfl) ?_
  refine DR.det (i := 5) rfl rfl (by kernel_rfl) (.free rfl) rfl rfl (fun wD mD => op_nilCheck rfl) ?_
  refine DR.det (i := 6) rfl rfl (by kernel_rfl) (.free rfl) rfl rfl (fun wD mD => op_fieldAddr (off' := 2) rfl Try.runUnderlying40 rfl rfl Try.sizeOf25 rfl) ?_
  refine DR.det (i := 7) rfl rfl (by kernel_rfl) (.free rfl) rfl rfl (fun wD mD => op_load1 (i := 2) rfl Try.isAgg25 (((q.ext m1).ext md1).ext mD) rfl rfl) ?_
  refine DR.one (i := 3) rfl rfl (by kernel_rfl) (.free rfl) rfl (ltb rfl) (vs := [.func (.func 41) #[] #[], vP p 0]) rfl ?_
  intro w3 m2
  refine ⟨oc_call (vs := [vP p 0]) (cap := []) rfl rfl rfl Try.call41 (c_l02Copy n c b xs j p 0 [vS b 0 n c, vI j, vF g] ln (by omega) (by omega) (lB rfl) w3 (Rng.congr (((q.ext m1).ext md1).ext m2) rfl) (((r.ext m1).ext md1).ext m2)), ?_⟩
  rintro _ w4 ⟨b'1, c'1, rfl, r2, ge1, m3⟩
  refine ⟨(((Mod.refl [] w2).nt m2).nt m3), ?_⟩
  refine DR.done rfl ?_
  intro w5 m4
  refine WO.det (op_build (qs := [(0, .agg #[vS b'1 0 n c'1, vI j]), (1, vF g)]) (cells := #[vS b'1 0 n c'1, vI j, vF g]) rfl (by kernel_rfl)) rfl (.free rfl) rfl rfl ?_
  refine WO.op0 rfl (.free rfl) rfl (op_store (i := 0) (cs := [vS b'1 0 n c'1, vI j, vF g]) rfl rfl rfl Try.sizeOf40 rfl ((((r1.ext md1).ext m2).ext m3).ext m4) rfl (lB rfl) rfl) ?_
  rintro _ w6 ⟨r3, m5, z2⟩
  have r4 : Row w6 w.heap.size 0 [vS b'1 0 n c'1, vI j, vF g] := Row.congr r3 rfl
  refine WO.end ?_
  refine NE.code ?_
  refine CE.ret' ?_
  refine XE.leaveC Try.results58 (res_agg (cs := [vS b'1 0 n c'1, vI j, vF g]) rfl Try.isAgg40 Try.sizeOf40 r4.rng rfl res_nil) ?_
  refine ⟨b'1, c'1, rfl, ((r2.ext m4).mod m5 (nC (lG (lL (lL r1.lt (lT md1.size m2.size)) ge1)) nN)), (lT (lT (lT m1.size md1.size) m2.size) ge1), (((((((Mod.refl [] w).nt m1).nt md1).nt m2).nt m3).nt m4).then m5 ((aC (.inr lR) aN)))⟩

set_option maxRecDepth 100000 in
set_option maxHeartbeats 2000000 in
theorem c_l06Step (n : Nat) (c : Nat) (b : Nat) (xs : List Nat) (i : Nat) (g : Nat) (p : Nat) (a : Nat) (x : Nat) (ln : xs.length = n) (hi : i < n) (hn : n ≤ 1048576) (ha : cn .f32 a = cn .f32 x) (la : a < wid .f32) (w : World) (q : Row w p 0 [vS b 0 n c, vI ((i : Nat) : Int), vF g]) (r : Row w b 0 (fl xs)) (hne : p ≠ b) : Cl Try.prog 59 #[vP p 0, vF a] w fun v w' => ∃ (y : Nat), v = vF y ∧ (cn .f32 y = cn .f32 (combY g xs i x)) ∧ (y < wid .f32) ∧ (keptF (combW g xs i x) < wid .f32) ∧ Row w' p 0 [vS b 0 n c, vI (((i + 1) % n : Nat) : Int), vF g] ∧ Row w' b 0 (fl (xs.set i (keptF (combW g xs i x)))) ∧ Mod [p, b] w w' := by
  refine Cl.of Try.func59 Try.ntmps59 rfl rfl (ρ := [(0, vP p 0), (1, vF a)]) rfl ?_
  refine CE.seq ?_
  refine CE.region ?_
  refine WL.det (op_assign rfl) rfl rfl rfl ?_
  refine WL.end ?_
  refine NE.code ?_
  refine CE.seq ?_
  refine CE.draw (fun _ => none) [0, 1, 2, 3, 4, 5, 6, 7, 8, 9] [10, 11, 12] [] (by kernel_rfl) (by kernel_rfl) ?_
  have md1 : Mod [] w w.drew := (Mod.refl _ _).drew
  generalize w.drew = w1 at md1 ⊢
  refine DR.det (i := 0) rfl rfl (by kernel_rfl) (.free rfl) rfl rfl (fun wD mD => op_move rfl) ?_
  refine DR.det (i := 1) rfl rfl (by kernel_rfl) (.free rfl) rfl rfl (fun wD mD => op_nilCheck rfl) ?_
  refine DR.det (i := 2) rfl rfl (by kernel_rfl) (.free rfl) rfl rfl (fun wD mD => op_fieldAddr (off' := 0) rfl Try.runUnderlying40 rfl rfl Try.sizeOf27 rfl) ?_
  refine DR.det (i := 3) rfl rfl (by kernel_rfl) (.free rfl) rfl rfl (fun wD mD => op_fieldAddr (off' := 0) rfl Try.runUnderlying27 rfl rfl Try.sizeOf22 rfl) ?_
  refine DR.det (i := 4) rfl rfl (by kernel_rfl) (.free rfl) rfl rfl (fun wD mD => op_load1 (i := 0) rfl Try.isAgg22 ((q.ext md1).ext mD).rng rfl rfl) ?_
  refine DR.det (i := 5) rfl rfl (by kernel_rfl) (.free rfl) rfl rfl (fun wD mD => op_move rfl) ?_
  refine DR.det (i := 6) rfl rfl (by kernel_rfl) (.free rfl) rfl rfl (fun wD mD => op_nilCheck rfl) ?_
  refine DR.det (i := 7) rfl rfl (by kernel_rfl) (.free rfl) rfl rfl (fun wD mD => op_fieldAddr (off' := 0) rfl Try.runUnderlying40 rfl rfl Try.sizeOf27 rfl) ?_
  refine DR.det (i := 8) rfl rfl (by kernel_rfl) (.free rfl) rfl rfl (fun wD mD => op_fieldAddr (off' := 1) rfl Try.runUnderlying27 rfl rfl Try.sizeOf2 rfl) ?_
  refine DR.det (i := 9) rfl rfl (by kernel_rfl) (.free rfl) rfl rfl (fun wD mD => op_load1 (i := 1) rfl Try.isAgg2 ((q.ext md1).ext mD).rng rfl rfl) ?_
  refine DR.done rfl ?_
  intro w2 m1
  refine WO.det (op_indexSl (off' := 0 + i) rfl rfl rfl Try.runUnderlying22 Try.sizeOf25 (by omega) (by omega) (by omega)) rfl (.free rfl) rfl rfl ?_
  refine WO.det (op_load1 (i := i) rfl Try.isAgg25 ((r.ext md1).ext m1).rng rfl (fl_get (by have eL : List.length xs = n := ln; omega))) rfl (.free rfl) rfl rfl ?_
  refine WO.det (op_assign rfl) rfl (.free rfl) rfl rfl ?_
  refine WO.end ?_
  refine NE.code ?_
  refine CE.seq ?_
  refine CE.region ?_
  refine WL.det (op_move rfl) rfl rfl rfl ?_
  refine WL.det (op_move rfl) rfl rfl rfl ?_
  refine WL.det (op_nilCheck rfl) rfl rfl rfl ?_
  refine WL.det (op_fieldAddr (off' := 2) rfl Try.runUnderlying40 rfl rfl Try.sizeOf25 rfl) rfl rfl rfl ?_
  refine WL.det (op_load1 (i := 2) rfl Try.isAgg25 ((q.ext md1).ext m1).rng rfl rfl) rfl rfl rfl ?_
  refine WL.det (op_move rfl) rfl rfl rfl ?_
  refine WL.op (op_farith (e := (fop .mul .f32 g (xs.getD i 0))) (.inr (.inr (.inl rfl))) rfl rfl rfl rfl rfl) rfl rfl (ltb rfl) ?_
  rintro _ w3 ⟨⟨f1, rfl, hf1, lf1⟩, m2⟩
  refine WL.op (op_farith (e := (fop .add .f32 x (fop .mul .f32 g (xs.getD i 0)))) (.inl rfl) rfl rfl ha hf1 rfl) rfl rfl (ltb rfl) ?_
  rintro _ w4 ⟨⟨f2, rfl, hf2, lf2⟩, m3⟩
  refine WL.det (op_assign rfl) rfl rfl rfl ?_
  refine WL.end ?_
  refine NE.code ?_
  refine CE.seq ?_
  refine CE.draw (fun | 4 => some (fun _ wA uA wB => uA = vF (keptF (fop .add .f32 x (fop .mul .f32 g (xs.getD i 0)))) ∧ (keptF (fop .add .f32 x (fop .mul .f32 g (xs.getD i 0))) < wid .f32) ∧ Mod [] wA wB) | _ => none) [0, 1, 2, 3, 4] [5] [] (by kernel_rfl) (by kernel_rfl) ?_
  have md2 : Mod [] w4 w4.drew := (Mod.refl _ _).drew
  generalize w4.drew = w5 at md2 ⊢
  refine DR.det (i := 0) rfl rfl (by kernel_rfl) (.free rfl) rfl rfl (fun wD mD => op_move rfl) ?_
  refine DR.det (i := 1) rfl rfl (by kernel_rfl) (.free rfl) rfl rfl (fun wD mD => op_nilCheck rfl) ?_
  refine DR.det (i := 2) rfl rfl (by kernel_rfl) (.free rfl) rfl rfl (fun wD mD => op_fieldAddr (off' := 0) rfl Try.runUnderlying40 rfl rfl Try.sizeOf27 rfl) ?_
  refine DR.det (i := 3) rfl rfl (by kernel_rfl) (.free rfl) rfl rfl (fun wD mD => op_move rfl) ?_
  refine DR.call (i := 4) (fun uA => uA = vF (keptF (fop .add .f32 x (fop .mul .f32 g (xs.getD i 0)))) ∧ (keptF (fop .add .f32 x (fop .mul .f32 g (xs.getD i 0))) < wid .f32)) rfl rfl (by kernel_rfl) (.free rfl) rfl (ltb rfl) ⟨_, rfl, keptF_wid hf2 lf2⟩ (vs := [.func (.func 82) #[] #[], vF f2]) rfl (fun wD mD => oc_call (vs := [vF f2]) (cap := []) rfl rfl rfl Try.call82 (c_l02Kept f2 (fop .add .f32 x (fop .mul .f32 g (xs.getD i 0))) hf2 lf2 wD)) ?_ ?_
  · rintro w1 _ w2 m1 ⟨rfl, p0, m2⟩; exact ⟨⟨rfl, p0⟩, m2⟩
  rintro _ ⟨rfl, h1⟩
  refine DR.done rfl ?_
  intro w6 m4
  refine WO.call rfl (.free rfl) rfl (ltb rfl) (oc_call (vs := [vP p 0, vF (keptF (fop .add .f32 x (fop .mul .f32 g (xs.getD i 0))))]) (cap := []) rfl rfl rfl Try.call42 (c_l02Push n c b xs i p 0 [vS b 0 n c, vI ((i : Nat) : Int), vF g] (keptF (fop .add .f32 x (fop .mul .f32 g (xs.getD i 0)))) ln (by omega) (by omega) (lB rfl) w6 (Row.congr ((((((q.ext md1).ext m1).ext m2).ext m3).ext md2).ext m4) rfl) ((((((r.ext md1).ext m1).ext m2).ext m3).ext md2).ext m4) hne)) ?_
  rintro _ w7 ⟨rfl, r1, r2, m5⟩
  have r3 : Row w7 p 0 [vS b 0 n c, vI (((i + 1) % n : Nat) : Int), vF g] := r1
  refine WO.end ?_
  refine NE.code ?_
  refine CE.seq ?_
  refine CE.region ?_
  refine WL.det (op_move rfl) rfl rfl rfl ?_
  refine WL.det (op_move rfl) rfl rfl rfl ?_
  refine WL.det (op_nilCheck rfl) rfl rfl rfl ?_
  refine WL.det (op_fieldAddr (off' := 2) rfl Try.runUnderlying40 rfl rfl Try.sizeOf25 rfl) rfl rfl rfl ?_
  refine WL.det (op_load1 (i := 2) rfl Try.isAgg25 r3.rng rfl rfl) rfl rfl rfl ?_
  refine WL.det (op_move rfl) rfl rfl rfl ?_
  refine WL.op (op_farith (e := (fop .mul .f32 g (fop .add .f32 x (fop .mul .f32 g (xs.getD i 0))))) (.inr (.inr (.inl rfl))) rfl rfl rfl hf2 rfl) rfl rfl (ltb rfl) ?_
  rintro _ w8 ⟨⟨f3, rfl, hf3, lf3⟩, m6⟩
  refine WL.op (op_farith (e := (fop .sub .f32 (xs.getD i 0) (fop .mul .f32 g (fop .add .f32 x (fop .mul .f32 g (xs.getD i 0)))))) (.inr (.inl rfl)) rfl rfl rfl hf3 rfl) rfl rfl (ltb rfl) ?_
  rintro _ w9 ⟨⟨f4, rfl, hf4, lf4⟩, m7⟩
  refine WL.det (op_assign rfl) rfl rfl rfl ?_
  refine WL.end ?_
  refine NE.code ?_
  refine CE.ret' ?_
  refine XE.leave1 Try.results59 rfl ?_
  refine ⟨f4, rfl, ?_, lf4, ?_, ((r3.ext m6).ext m7), (Row.congr ((r2.ext m6).ext m7) ?_), ((((((((((Mod.refl [p, b] w).nt md1).nt m1).nt m2).nt m3).nt md2).nt m4).then m5 ((aC (.inl (by simp)) (aC (.inl (by simp)) aN)))).nt m6).nt m7)⟩
  all_goals first | assumption | rfl

set_option maxRecDepth 100000 in
set_option maxHeartbeats 2000000 in
theorem c_combStep (n : Nat) (c : Nat) (b : Nat) (xs : List Nat) (i : Nat) (g : Nat) (p : Nat) (a : Nat) (x : Nat) (ln : xs.length = n) (hi : i < n) (hn : n ≤ 1048576) (ha : cn .f32 a = cn .f32 x) (la : a < wid .f32) (w : World) (q : Row w p 0 [vS b 0 n c, vI ((i : Nat) : Int), vF g]) (r : Row w b 0 (fl xs)) (hne : p ≠ b) : Cl Try.prog 56 #[vP p 0, vF a] w fun v w' => ∃ (y : Nat), v = vF y ∧ (cn .f32 y = cn .f32 (combY g xs i x)) ∧ (y < wid .f32) ∧ (keptF (combW g xs i x) < wid .f32) ∧ Row w' p 0 [vS b 0 n c, vI (((i + 1) % n : Nat) : Int), vF g] ∧ Row w' b 0 (fl (xs.set i (keptF (combW g xs i x)))) ∧ Mod [p, b] w w' := by
  refine Cl.of Try.func56 Try.ntmps56 rfl rfl (ρ := [(0, vP p 0), (1, vF a)]) rfl ?_
  refine CE.seq ?_
  refine CE.region ?_
  refine WL.det (op_assign rfl) rfl rfl rfl ?_
  refine WL.end ?_
  refine NE.code ?_
  refine CE.seq ?_
  refine CE.region ?_
  refine WL.det (op_move rfl) rfl rfl rfl ?_
  refine WL.det (op_nilCheck rfl) rfl rfl rfl ?_
  refine WL.det (op_fieldAddr (off' := 0) rfl Try.runUnderlying40 rfl rfl Try.sizeOf27 rfl) rfl rfl rfl ?_
  refine WL.det (op_loadA (i := 0) (cs := [vS b 0 n c, vI ((i : Nat) : Int)]) rfl Try.isAgg27 Try.sizeOf27 q.rng rfl rfl rfl) rfl rfl rfl ?_
  refine WL.call (oc_call (vs := [.agg #[vS b 0 n c, vI ((i : Nat) : Int)]]) (cap := []) rfl rfl rfl Try.call78 (c_oldest n c b xs i ln (by omega) (by omega) w r.rng)) rfl rfl (ltb rfl) ?_
  rintro _ w1 ⟨rfl, m1⟩
  refine WL.det (op_assign rfl) rfl rfl rfl ?_
  refine WL.end ?_
  refine NE.code ?_
  refine CE.seq ?_
  refine CE.region ?_
  refine WL.det (op_move rfl) rfl rfl rfl ?_
  refine WL.det (op_move rfl) rfl rfl rfl ?_
  refine WL.det (op_nilCheck rfl) rfl rfl rfl ?_
  refine WL.det (op_fieldAddr (off' := 2) rfl Try.runUnderlying40 rfl rfl Try.sizeOf25 rfl) rfl rfl rfl ?_
  refine WL.det (op_load1 (i := 2) rfl Try.isAgg25 (q.ext m1).rng rfl rfl) rfl rfl rfl ?_
  refine WL.det (op_move rfl) rfl rfl rfl ?_
  refine WL.op (op_farith (e := (fop .mul .f32 g (xs.getD i 0))) (.inr (.inr (.inl rfl))) rfl rfl rfl rfl rfl) rfl rfl (ltb rfl) ?_
  rintro _ w2 ⟨⟨f1, rfl, hf1, lf1⟩, m2⟩
  refine WL.op (op_farith (e := (fop .add .f32 x (fop .mul .f32 g (xs.getD i 0)))) (.inl rfl) rfl rfl ha hf1 rfl) rfl rfl (ltb rfl) ?_
  rintro _ w3 ⟨⟨f2, rfl, hf2, lf2⟩, m3⟩
  refine WL.det (op_assign rfl) rfl rfl rfl ?_
  refine WL.end ?_
  refine NE.code ?_
  refine CE.seq ?_
  refine CE.draw (fun | 4 => some (fun _ wA uA wB => uA = vF (keptF (fop .add .f32 x (fop .mul .f32 g (xs.getD i 0)))) ∧ (keptF (fop .add .f32 x (fop .mul .f32 g (xs.getD i 0))) < wid .f32) ∧ Mod [] wA wB) | _ => none) [0, 1, 2, 3, 4] [5] [] (by kernel_rfl) (by kernel_rfl) ?_
  have md1 : Mod [] w3 w3.drew := (Mod.refl _ _).drew
  generalize w3.drew = w4 at md1 ⊢
  refine DR.det (i := 0) rfl rfl (by kernel_rfl) (.free rfl) rfl rfl (fun wD mD => op_move rfl) ?_
  refine DR.det (i := 1) rfl rfl (by kernel_rfl) (.free rfl) rfl rfl (fun wD mD => op_nilCheck rfl) ?_
  refine DR.det (i := 2) rfl rfl (by kernel_rfl) (.free rfl) rfl rfl (fun wD mD => op_fieldAddr (off' := 0) rfl Try.runUnderlying40 rfl rfl Try.sizeOf27 rfl) ?_
  refine DR.det (i := 3) rfl rfl (by kernel_rfl) (.free rfl) rfl rfl (fun wD mD => op_move rfl) ?_
  refine DR.call (i := 4) (fun uA => uA = vF (keptF (fop .add .f32 x (fop .mul .f32 g (xs.getD i 0)))) ∧ (keptF (fop .add .f32 x (fop .mul .f32 g (xs.getD i 0))) < wid .f32)) rfl rfl (by kernel_rfl) (.free rfl) rfl (ltb rfl) ⟨_, rfl, keptF_wid hf2 lf2⟩ (vs := [.func (.func 79) #[] #[], vF f2]) rfl (fun wD mD => oc_call (vs := [vF f2]) (cap := []) rfl rfl rfl Try.call79 (c_kept f2 (fop .add .f32 x (fop .mul .f32 g (xs.getD i 0))) hf2 lf2 wD)) ?_ ?_
  · rintro w1 _ w2 m1 ⟨rfl, p0, m2⟩; exact ⟨⟨rfl, p0⟩, m2⟩
  rintro _ ⟨rfl, h1⟩
  refine DR.done rfl ?_
  intro w5 m4
  refine WO.call rfl (.free rfl) rfl (ltb rfl) (oc_call (vs := [vP p 0, vF (keptF (fop .add .f32 x (fop .mul .f32 g (xs.getD i 0))))]) (cap := []) rfl rfl rfl Try.call46 (c_push n c b xs i p 0 [vS b 0 n c, vI ((i : Nat) : Int), vF g] (keptF (fop .add .f32 x (fop .mul .f32 g (xs.getD i 0)))) ln (by omega) (by omega) (lB rfl) w5 (Row.congr (((((q.ext m1).ext m2).ext m3).ext md1).ext m4) rfl) (((((r.ext m1).ext m2).ext m3).ext md1).ext m4) hne)) ?_
  rintro _ w6 ⟨rfl, r1, r2, m5⟩
  have r3 : Row w6 p 0 [vS b 0 n c, vI (((i + 1) % n : Nat) : Int), vF g] := r1
  refine WO.end ?_
  refine NE.code ?_
  refine CE.seq ?_
  refine CE.region ?_
  refine WL.det (op_move rfl) rfl rfl rfl ?_
  refine WL.det (op_move rfl) rfl rfl rfl ?_
  refine WL.det (op_nilCheck rfl) rfl rfl rfl ?_
  refine WL.det (op_fieldAddr (off' := 2) rfl Try.runUnderlying40 rfl rfl Try.sizeOf25 rfl) rfl rfl rfl ?_
  refine WL.det (op_load1 (i := 2) rfl Try.isAgg25 r3.rng rfl rfl) rfl rfl rfl ?_
  refine WL.det (op_move rfl) rfl rfl rfl ?_
  refine WL.op (op_farith (e := (fop .mul .f32 g (fop .add .f32 x (fop .mul .f32 g (xs.getD i 0))))) (.inr (.inr (.inl rfl))) rfl rfl rfl hf2 rfl) rfl rfl (ltb rfl) ?_
  rintro _ w7 ⟨⟨f3, rfl, hf3, lf3⟩, m6⟩
  refine WL.op (op_farith (e := (fop .sub .f32 (xs.getD i 0) (fop .mul .f32 g (fop .add .f32 x (fop .mul .f32 g (xs.getD i 0)))))) (.inr (.inl rfl)) rfl rfl rfl hf3 rfl) rfl rfl (ltb rfl) ?_
  rintro _ w8 ⟨⟨f4, rfl, hf4, lf4⟩, m7⟩
  refine WL.det (op_assign rfl) rfl rfl rfl ?_
  refine WL.end ?_
  refine NE.code ?_
  refine CE.ret' ?_
  refine XE.leave1 Try.results56 rfl ?_
  refine ⟨f4, rfl, ?_, lf4, ?_, ((r3.ext m6).ext m7), (Row.congr ((r2.ext m6).ext m7) ?_), (((((((((Mod.refl [p, b] w).nt m1).nt m2).nt m3).nt md1).nt m4).then m5 ((aC (.inl (by simp)) (aC (.inl (by simp)) aN)))).nt m6).nt m7)⟩
  all_goals first | assumption | rfl

set_option maxRecDepth 100000 in
set_option maxHeartbeats 2000000 in
theorem c_sComb (n : Nat) (c : Nat) (b : Nat) (xs : List Nat) (i : Nat) (g : Nat) (a : Nat) (ln : xs.length = n) (hi : i < n) (hn : n ≤ 1024) (la : a < wid .f32) (hv : vComb n ((i : Nat) : Int) xs g = true) (w : World) (r : Rng w b 0 (fl xs)) : Cl Try.prog 22 #[.agg #[vS b 0 n c, vI ((i : Nat) : Int), vF g], vF a] w fun v w' => ∃ (b' : Nat) (c' : Nat) (y : Nat), v = .tuple #[.agg #[vS b' 0 n c', vI (((i + 1) % n : Nat) : Int), vF g], vF y, vI 0] ∧ (cn .f32 y = cn .f32 (combY g xs i a)) ∧ (y < wid .f32) ∧ Row w' b' 0 (fl (xs.set i (keptF (combW g xs i a)))) ∧ w.heap.size ≤ b' ∧ Mod [] w w' := by
  refine Cl.of Try.func22 Try.ntmps22 rfl rfl (ρ := [(0, .agg #[vS b 0 n c, vI ((i : Nat) : Int), vF g]), (1, vF a)]) rfl ?_
  refine CE.seq ?_
  refine CE.region ?_
  refine WL.op (op_box (cs := [vS b 0 n c, vI ((i : Nat) : Int), vF g]) rfl rfl) rfl rfl (ltb rfl) ?_
  rintro _ w1 ⟨rfl, r1, m1, z1⟩
  refine WL.op (op_alloc (cs := [.slice none 0 0, vI 0, vF 0]) Try.zeroValue40 rfl) rfl rfl (ltb rfl) ?_
  rintro _ w2 ⟨rfl, r2, m2, z2⟩
  refine WL.det (op_assign rfl) rfl rfl rfl ?_
  refine WL.det (op_assign rfl) rfl rfl rfl ?_
  refine WL.end ?_
  refine NE.code ?_
  refine CE.seq ?_
  refine CE.seq ?_
  refine CE.region ?_
  refine WL.call (oc_call (vs := [vP w.heap.size 0]) (cap := []) rfl rfl rfl Try.call57 (c_l06Comb n c b xs ((i : Nat) : Int) g w.heap.size ln (by omega) w2 (r1.ext m2).rng ((r.ext m1).ext m2))) rfl rfl (ltb rfl) ?_
  rintro _ w3 ⟨rfl, m3⟩
  refine WL.det (op_not rfl) rfl rfl rfl ?_
  refine WL.end ?_
  refine NE.code ?_
  refine CE.cond_f rfl (bnot_t hv) ?_
  refine CE.skip' ?_
  refine NE.code ?_
  refine CE.seq ?_
  refine CE.region ?_
  refine WL.call (oc_call (vs := [vP w.heap.size 0]) (cap := []) rfl rfl rfl Try.call58 (c_l06Copy n c b xs ((i : Nat) : Int) g w.heap.size ln (by omega) (by omega) w3 ((r1.ext m2).ext m3).rng (((r.ext m1).ext m2).ext m3))) rfl rfl (ltb rfl) ?_
  rintro _ w4 ⟨b'1, c'1, rfl, r3, ge1, m4⟩
  refine WL.op (op_alloc (cs := [.slice none 0 0, vI 0, vF 0]) Try.zeroValue40 rfl) rfl rfl (ltb rfl) ?_
  rintro _ w5 ⟨rfl, r4, m5, z3⟩
  refine WL.op0 (op_store (i := 0) (cs := [vS b'1 0 n c'1, vI ((i : Nat) : Int), vF g]) rfl rfl rfl Try.sizeOf40 rfl r4 rfl (lB rfl) rfl) rfl rfl ?_
  rintro _ w6 ⟨r5, m6, z4⟩
  have r6 : Row w6 w4.heap.size 0 [vS b'1 0 n c'1, vI ((i : Nat) : Int), vF g] := Row.congr r5 rfl
  refine WL.end ?_
  refine NE.code ?_
  refine CE.seq ?_
  refine CE.region ?_
  refine WL.det (op_move rfl) rfl rfl rfl ?_
  refine WL.call (oc_call (vs := [vP w4.heap.size 0, vF a]) (cap := []) rfl rfl rfl Try.call59 (c_l06Step n c'1 b'1 xs i g w4.heap.size a a ln (by omega) (by omega) rfl la w6 r6 ((r3.ext m5).mod m6 (nC (lE (lL r3.lt lR)) nN)) (lG (lL r3.lt lR)))) rfl rfl (ltb rfl) ?_
  rintro _ w7 ⟨y1, rfl, h1, h2, h3, r7, r8, m7⟩
  refine WL.det (op_assign rfl) rfl rfl rfl ?_
  refine WL.end ?_
  refine NE.code ?_
  refine CE.seq ?_
  refine CE.region ?_
  refine WL.det (op_loadA (i := 0) (cs := [vS b'1 0 n c'1, vI (((i + 1) % n : Nat) : Int), vF g]) rfl Try.isAgg40 Try.sizeOf40 r7.rng rfl rfl rfl) rfl rfl rfl ?_
  refine WL.det (op_move rfl) rfl rfl rfl ?_
  refine WL.op0 (op_store (i := 0) (cs := [vS b'1 0 n c'1, vI (((i + 1) % n : Nat) : Int), vF g]) rfl rfl rfl Try.sizeOf40 rfl (((((r2.ext m3).ext m4).ext m5).mod m6 (nC (lE (lL (lL r2.lt (lT m3.size m4.size)) lR)) nN)).mod m7 (nC (lE (lL (lL r2.lt (lT m3.size m4.size)) lR)) (nC (lE (lL (lL r2.lt m3.size) ge1)) nN))) rfl (lB rfl) rfl) rfl rfl ?_
  rintro _ w8 ⟨r9, m8, z5⟩
  have r10 : Row w8 w1.heap.size 0 [vS b'1 0 n c'1, vI (((i + 1) % n : Nat) : Int), vF g] := Row.congr r9 rfl
  refine WL.det (op_assign rfl) rfl rfl rfl ?_
  refine WL.det (op_assign rfl) rfl rfl rfl ?_
  refine WL.end ?_
  refine NE.code ?_
  refine CE.ret' ?_
  refine XE.leaveT Try.results22 (res_agg (cs := [vS b'1 0 n c'1, vI (((i + 1) % n : Nat) : Int), vF g]) rfl Try.isAgg40 Try.sizeOf40 r10.rng rfl (res_tmp rfl (res_tmp rfl res_nil))) ?_
  refine ⟨b'1, c'1, y1, rfl, h1, h2, (r8.mod m8 (nC (lG (lL (lL r2.lt m3.size) ge1)) nN)), (lT (lT (lT m1.size m2.size) m3.size) ge1), (((((((((Mod.refl [] w).nt m1).nt m2).nt m3).nt m4).nt m5).then m6 ((aC (.inr (lT (lT (lT (lT m1.size m2.size) m3.size) m4.size) lR)) aN))).then m7 ((aC (.inr (lT (lT (lT (lT m1.size m2.size) m3.size) m4.size) lR)) (aC (.inr (lT (lT (lT m1.size m2.size) m3.size) ge1)) aN)))).then m8 ((aC (.inr (lT m1.size lR)) aN)))⟩

set_option maxRecDepth 100000 in
set_option maxHeartbeats 2000000 in
theorem c_sComb_bad (n : Nat) (c : Nat) (b : Nat) (xs : List Nat) (j : Int) (g : Nat) (a : Nat) (ln : xs.length = n) (hn : n ≤ 1048576) (la : a < wid .f32) (hv : vComb n j xs g = false) (w : World) (r : Rng w b 0 (fl xs)) : Cl Try.prog 22 #[.agg #[vS b 0 n c, vI j, vF g], vF a] w fun v w' => v = .tuple #[.agg #[.slice none 0 0, vI 0, vF 0], vF 0, vI 1] ∧ Mod [] w w' := by
  refine Cl.of Try.func22 Try.ntmps22 rfl rfl (ρ := [(0, .agg #[vS b 0 n c, vI j, vF g]), (1, vF a)]) rfl ?_
  refine CE.seq ?_
  refine CE.region ?_
  refine WL.op (op_box (cs := [vS b 0 n c, vI j, vF g]) rfl rfl) rfl rfl (ltb rfl) ?_
  rintro _ w1 ⟨rfl, r1, m1, z1⟩
  refine WL.op (op_alloc (cs := [.slice none 0 0, vI 0, vF 0]) Try.zeroValue40 rfl) rfl rfl (ltb rfl) ?_
  rintro _ w2 ⟨rfl, r2, m2, z2⟩
  refine WL.det (op_assign rfl) rfl rfl rfl ?_
  refine WL.det (op_assign rfl) rfl rfl rfl ?_
  refine WL.end ?_
  refine NE.code ?_
  refine CE.seq ?_
  refine CE.seq ?_
  refine CE.region ?_
  refine WL.call (oc_call (vs := [vP w.heap.size 0]) (cap := []) rfl rfl rfl Try.call57 (c_l06Comb n c b xs j g w.heap.size ln (by omega) w2 (r1.ext m2).rng ((r.ext m1).ext m2))) rfl rfl (ltb rfl) ?_
  rintro _ w3 ⟨rfl, m3⟩
  refine WL.det (op_not rfl) rfl rfl rfl ?_
  refine WL.end ?_
  refine NE.code ?_
  refine CE.cond_t rfl (bnot_f hv) ?_
  refine CE.seq ?_
  refine CE.region ?_
  refine WL.det (op_build (qs := []) (cells := #[.slice none 0 0, vI 0, vF 0]) rfl (by kernel_rfl)) rfl rfl rfl ?_
  refine WL.op0 (op_store (i := 0) (cs := [.slice none 0 0, vI 0, vF 0]) rfl rfl rfl Try.sizeOf40 rfl (r2.ext m3) rfl (lB rfl) rfl) rfl rfl ?_
  rintro _ w4 ⟨r3, m4, z3⟩
  have r4 : Row w4 w1.heap.size 0 [.slice none 0 0, vI 0, vF 0] := Row.congr r3 rfl
  refine WL.det (op_assign rfl) rfl rfl rfl ?_
  refine WL.det (op_assign rfl) rfl rfl rfl ?_
  refine WL.end ?_
  refine NE.code ?_
  refine CE.ret' ?_
  refine XE.ret_then ?_
  refine XE.leaveT Try.results22 (res_agg (cs := [.slice none 0 0, vI 0, vF 0]) rfl Try.isAgg40 Try.sizeOf40 r4.rng rfl (res_tmp rfl (res_tmp rfl res_nil))) ?_
  refine ⟨rfl, (((((Mod.refl [] w).nt m1).nt m2).nt m3).then m4 ((aC (.inr (lT m1.size lR)) aN)))⟩

set_option maxRecDepth 100000 in
set_option maxHeartbeats 2000000 in
theorem c_iComb (n : Nat) (c : Nat) (b : Nat) (xs : List Nat) (i : Nat) (g : Nat) (a : Nat) (ln : xs.length = n) (hi : i < n) (hn : n ≤ 1024) (la : a < wid .f32) (hv : vComb n ((i : Nat) : Int) xs g = true) (w : World) (r : Rng w b 0 (fl xs)) : Cl Try.prog 21 #[.agg #[vS b 0 n c, vI ((i : Nat) : Int), vF g], vF a] w fun v w' => ∃ (b' : Nat) (c' : Nat) (y : Nat), v = .tuple #[.agg #[vS b' 0 n c', vI (((i + 1) % n : Nat) : Int), vF g], vF y, vI 0] ∧ (cn .f32 y = cn .f32 (combY g xs i a)) ∧ (y < wid .f32) ∧ Row w' b' 0 (fl (xs.set i (keptF (combW g xs i a)))) ∧ w.heap.size ≤ b' ∧ Mod [] w w' := by
  refine Cl.of Try.func21 Try.ntmps21 rfl rfl (ρ := [(0, .agg #[vS b 0 n c, vI ((i : Nat) : Int), vF g]), (1, vF a)]) rfl ?_
  refine CE.seq ?_
  refine CE.region ?_
  refine WL.op (op_box (cs := [vS b 0 n c, vI ((i : Nat) : Int), vF g]) rfl rfl) rfl rfl (ltb rfl) ?_
  rintro _ w1 ⟨rfl, r1, m1, z1⟩
  refine WL.op (op_alloc (cs := [.slice none 0 0, vI 0, vF 0]) Try.zeroValue40 rfl) rfl rfl (ltb rfl) ?_
  rintro _ w2 ⟨rfl, r2, m2, z2⟩
  refine WL.det (op_assign rfl) rfl rfl rfl ?_
  refine WL.det (op_assign rfl) rfl rfl rfl ?_
  refine WL.end ?_
  refine NE.code ?_
  refine CE.seq ?_
  refine CE.seq ?_
  refine CE.region ?_
  refine WL.det (op_loadA (i := 0) (cs := [vS b 0 n c, vI ((i : Nat) : Int), vF g]) rfl Try.isAgg40 Try.sizeOf40 (r1.ext m2).rng rfl rfl rfl) rfl rfl rfl ?_
  refine WL.call (oc_call (vs := [.agg #[vS b 0 n c, vI ((i : Nat) : Int), vF g]]) (cap := []) rfl rfl rfl Try.call20 (c_ValidComb n c b xs ((i : Nat) : Int) g ln (by omega) w2 ((r.ext m1).ext m2))) rfl rfl (ltb rfl) ?_
  rintro _ w3 ⟨rfl, m3⟩
  refine WL.det (op_not rfl) rfl rfl rfl ?_
  refine WL.end ?_
  refine NE.code ?_
  refine CE.cond_f rfl (bnot_t hv) ?_
  refine CE.skip' ?_
  refine NE.code ?_
  refine CE.seq ?_
  refine CE.region ?_
  refine WL.det (op_fieldAddr (off' := 0) rfl Try.runUnderlying40 rfl rfl Try.sizeOf27 rfl) rfl rfl rfl ?_
  refine WL.det (op_loadA (i := 0) (cs := [vS b 0 n c, vI ((i : Nat) : Int)]) rfl Try.isAgg27 Try.sizeOf27 ((r1.ext m2).ext m3).rng rfl rfl rfl) rfl rfl rfl ?_
  refine WL.call (oc_call (vs := [.agg #[vS b 0 n c, vI ((i : Nat) : Int)]]) (cap := []) rfl rfl rfl Try.call45 (c_cloneRing n c b xs ((i : Nat) : Int) ln (by omega) (by omega) w3 (((r.ext m1).ext m2).ext m3))) rfl rfl (ltb rfl) ?_
  rintro _ w4 ⟨b'1, c'1, rfl, r3, ge1, m4⟩
  refine WL.det (op_fieldAddr (off' := 0) rfl Try.runUnderlying40 rfl rfl Try.sizeOf27 rfl) rfl rfl rfl ?_
  refine WL.op0 (op_store (i := 0) (cs := [vS b'1 0 n c'1, vI ((i : Nat) : Int)]) rfl rfl rfl Try.sizeOf27 rfl (((r1.ext m2).ext m3).ext m4) rfl (lB rfl) rfl) rfl rfl ?_
  rintro _ w5 ⟨r4, m5, z3⟩
  have r5 : Row w5 w.heap.size 0 [vS b'1 0 n c'1, vI ((i : Nat) : Int), vF g] := Row.congr r4 rfl
  refine WL.end ?_
  refine NE.code ?_
  refine CE.seq ?_
  refine CE.region ?_
  refine WL.det (op_move rfl) rfl rfl rfl ?_
  refine WL.call (oc_call (vs := [vP w.heap.size 0, vF a]) (cap := []) rfl rfl rfl Try.call56 (c_combStep n c'1 b'1 xs i g w.heap.size a a ln (by omega) (by omega) rfl la w5 r5 (r3.mod m5 (nC (lG (lL (lL r1.lt (lT m2.size m3.size)) ge1)) nN)) (lE (lL (lL r1.lt (lT m2.size m3.size)) ge1)))) rfl rfl (ltb rfl) ?_
  rintro _ w6 ⟨y1, rfl, h1, h2, h3, r6, r7, m6⟩
  refine WL.det (op_assign rfl) rfl rfl rfl ?_
  refine WL.end ?_
  refine NE.code ?_
  refine CE.seq ?_
  refine CE.region ?_
  refine WL.det (op_loadA (i := 0) (cs := [vS b'1 0 n c'1, vI (((i + 1) % n : Nat) : Int), vF g]) rfl Try.isAgg40 Try.sizeOf40 r6.rng rfl rfl rfl) rfl rfl rfl ?_
  refine WL.det (op_move rfl) rfl rfl rfl ?_
  refine WL.op0 (op_store (i := 0) (cs := [vS b'1 0 n c'1, vI (((i + 1) % n : Nat) : Int), vF g]) rfl rfl rfl Try.sizeOf40 rfl ((((r2.ext m3).ext m4).mod m5 (nC (lG (lL r1.lt lR)) nN)).mod m6 (nC (lG (lL r1.lt lR)) (nC (lE (lL (lL r2.lt m3.size) ge1)) nN))) rfl (lB rfl) rfl) rfl rfl ?_
  rintro _ w7 ⟨r8, m7, z4⟩
  have r9 : Row w7 w1.heap.size 0 [vS b'1 0 n c'1, vI (((i + 1) % n : Nat) : Int), vF g] := Row.congr r8 rfl
  refine WL.det (op_assign rfl) rfl rfl rfl ?_
  refine WL.det (op_assign rfl) rfl rfl rfl ?_
  refine WL.end ?_
  refine NE.code ?_
  refine CE.ret' ?_
  refine XE.leaveT Try.results21 (res_agg (cs := [vS b'1 0 n c'1, vI (((i + 1) % n : Nat) : Int), vF g]) rfl Try.isAgg40 Try.sizeOf40 r9.rng rfl (res_tmp rfl (res_tmp rfl res_nil))) ?_
  refine ⟨b'1, c'1, y1, rfl, h1, h2, (r7.mod m7 (nC (lG (lL (lL r2.lt m3.size) ge1)) nN)), (lT (lT (lT m1.size m2.size) m3.size) ge1), ((((((((Mod.refl [] w).nt m1).nt m2).nt m3).nt m4).then m5 ((aC (.inr lR) aN))).then m6 ((aC (.inr lR) (aC (.inr (lT (lT (lT m1.size m2.size) m3.size) ge1)) aN)))).then m7 ((aC (.inr (lT m1.size lR)) aN)))⟩

set_option maxRecDepth 100000 in
set_option maxHeartbeats 2000000 in
theorem c_iComb_bad (n : Nat) (c : Nat) (b : Nat) (xs : List Nat) (j : Int) (g : Nat) (a : Nat) (ln : xs.length = n) (hn : n ≤ 1048576) (la : a < wid .f32) (hv : vComb n j xs g = false) (w : World) (r : Rng w b 0 (fl xs)) : Cl Try.prog 21 #[.agg #[vS b 0 n c, vI j, vF g], vF a] w fun v w' => v = .tuple #[.agg #[.slice none 0 0, vI 0, vF 0], vF 0, vI 1] ∧ Mod [] w w' := by
  refine Cl.of Try.func21 Try.ntmps21 rfl rfl (ρ := [(0, .agg #[vS b 0 n c, vI j, vF g]), (1, vF a)]) rfl ?_
  refine CE.seq ?_
  refine CE.region ?_
  refine WL.op (op_box (cs := [vS b 0 n c, vI j, vF g]) rfl rfl) rfl rfl (ltb rfl) ?_
  rintro _ w1 ⟨rfl, r1, m1, z1⟩
  refine WL.op (op_alloc (cs := [.slice none 0 0, vI 0, vF 0]) Try.zeroValue40 rfl) rfl rfl (ltb rfl) ?_
  rintro _ w2 ⟨rfl, r2, m2, z2⟩
  refine WL.det (op_assign rfl) rfl rfl rfl ?_
  refine WL.det (op_assign rfl) rfl rfl rfl ?_
  refine WL.end ?_
  refine NE.code ?_
  refine CE.seq ?_
  refine CE.seq ?_
  refine CE.region ?_
  refine WL.det (op_loadA (i := 0) (cs := [vS b 0 n c, vI j, vF g]) rfl Try.isAgg40 Try.sizeOf40 (r1.ext m2).rng rfl rfl rfl) rfl rfl rfl ?_
  refine WL.call (oc_call (vs := [.agg #[vS b 0 n c, vI j, vF g]]) (cap := []) rfl rfl rfl Try.call20 (c_ValidComb n c b xs j g ln (by omega) w2 ((r.ext m1).ext m2))) rfl rfl (ltb rfl) ?_
  rintro _ w3 ⟨rfl, m3⟩
  refine WL.det (op_not rfl) rfl rfl rfl ?_
  refine WL.end ?_
  refine NE.code ?_
  refine CE.cond_t rfl (bnot_f hv) ?_
  refine CE.seq ?_
  refine CE.region ?_
  refine WL.det (op_build (qs := []) (cells := #[.slice none 0 0, vI 0, vF 0]) rfl (by kernel_rfl)) rfl rfl rfl ?_
  refine WL.op0 (op_store (i := 0) (cs := [.slice none 0 0, vI 0, vF 0]) rfl rfl rfl Try.sizeOf40 rfl (r2.ext m3) rfl (lB rfl) rfl) rfl rfl ?_
  rintro _ w4 ⟨r3, m4, z3⟩
  have r4 : Row w4 w1.heap.size 0 [.slice none 0 0, vI 0, vF 0] := Row.congr r3 rfl
  refine WL.det (op_assign rfl) rfl rfl rfl ?_
  refine WL.det (op_assign rfl) rfl rfl rfl ?_
  refine WL.end ?_
  refine NE.code ?_
  refine CE.ret' ?_
  refine XE.ret_then ?_
  refine XE.leaveT Try.results21 (res_agg (cs := [.slice none 0 0, vI 0, vF 0]) rfl Try.isAgg40 Try.sizeOf40 r4.rng rfl (res_tmp rfl (res_tmp rfl res_nil))) ?_
  refine ⟨rfl, (((((Mod.refl [] w).nt m1).nt m2).nt m3).then m4 ((aC (.inr (lT m1.size lR)) aN)))⟩

end Go.Proofs.Ytdjmhecijopfmaa
