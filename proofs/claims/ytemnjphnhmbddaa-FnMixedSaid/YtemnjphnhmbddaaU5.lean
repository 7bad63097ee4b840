/- Valid rooms. -/
import Derived.Test.YtemnjphnhmbddaaU3
import Derived.Test.YtemnjphnhmbddaaE38
import Derived.Test.YtemnjphnhmbddaaG1
import Derived.Test.YtemnjphnhmbddaaE34
set_option linter.unusedVariables false
set_option linter.unusedSimpArgs false
namespace Go.Proofs.Ytemnjphnhmbddaa

theorem Bw.fin {x k : Nat} (h : Bw x k) (hk : k ≤ 100) : finF x = true := fin_of (h.2.fin hk)
theorem LBw.allF {xs : List Nat} {k : Nat} (h : LBw xs k) (hk : k ≤ 100) (n : Nat) : allF xs n = true := List.all_eq_true.2 fun j _ => (h j).fin hk
theorem LBw.ring {n i k : Nat} {xs : List Nat} (h : LBw xs k) (hk : k ≤ 100) (hi : i < n) (hn : n ≤ 1024) : vRingF n ((i : Nat) : Int) xs = true := by
  unfold vRingF
  rw [vRing_i hi hn, h.allF hk]; rfl
theorem Bw.fil {s k : Nat} (h : Bw s k) (hk : k ≤ 100) : vFil 1 1056964608 1056964608 0 s 0 = true := by
  have e0 : finF 0 = true := by decide +kernel
  have e1 : finF 1056964608 = true := by decide +kernel
  have e2 := h.fin hk
  have e3 : cn .f32 0 = 0 := cn_zero
  simp [vFil, usesC, usesS, usedF, okF, List.range_succ, e0, e1, e2, e3]
theorem gainsF {a b c d : Nat} (ha : Bw a 0) (hb : Bw b 0) (hc : Bw c 0) (hd : Bw d 0) : allF [a, b, c, d] 4 = true := by
  simp [allF, List.range_succ, ha.fin (by omega), hb.fin (by omega), hc.fin (by omega), hd.fin (by omega)]

theorem c_isRingT (n : Nat) (c : Nat) (b : Nat) (xs : List Nat) (i : Nat) (ln : xs.length = n) (hi : i < n) (hn : n ≤ 1024) (hL : LBw xs 99) (w : World) (r : Rng w b 0 (fl xs)) : Cl Try.prog 34 #[.agg #[vS b 0 n c, vI ((i : Nat) : Int)]] w fun v w' => v = .bool true ∧ Mod [] w w' := by
  refine Cl.mono (c_isRing n c b xs i ln (by omega) w r) ?_
  rintro v w' ⟨rfl, m⟩
  rw [hL.ring (by omega) hi hn]
  exact ⟨rfl, m⟩
theorem c_ValidCombT (n : Nat) (c : Nat) (b : Nat) (xs : List Nat) (i : Nat) (ln : xs.length = n) (hi : i < n) (hn : n ≤ 1024) (hL : LBw xs 99) (w : World) (r : Rng w b 0 (fl xs)) : Cl Try.prog 36 #[.agg #[vS b 0 n c, vI ((i : Nat) : Int), vF 1056964608]] w fun v w' => v = .bool true ∧ Mod [] w w' := by
  refine Cl.mono (c_ValidComb n c b xs i 1056964608 ln (by omega) w r) ?_
  rintro v w' ⟨rfl, m⟩
  have e : vComb n i xs 1056964608 = true := by
    unfold vComb
    rw [hL.ring (by omega) hi hn]; decide +kernel
  rw [e]
  exact ⟨rfl, m⟩
set_option maxRecDepth 100000 in
set_option maxHeartbeats 2000000 in
theorem c_isFilter (kd : Int) (c0 : Nat) (c1 : Nat) (c2 : Nat) (s0 : Nat) (s1 : Nat) (kk : Int) (w : World) : Cl Try.prog 37 #[.agg #[vI kd, vF c0, vF c1, vF c2, vF s0, vF s1], vI kk] w fun v w' => v = .bool (vFil kd c0 c1 c2 s0 s1 && (kd == kk)) ∧ Mod [] w w' := by
  refine Cl.of Try.func37 Try.ntmps37 rfl rfl (ρ := [(0, .agg #[vI kd, vF c0, vF c1, vF c2, vF s0, vF s1]), (1, vI kk)]) rfl ?_
  refine CE.seq ?_
  refine CE.region ?_
  refine WL.op (op_box (cs := [vI kd, vF c0, vF c1, vF c2, vF s0, vF s1]) rfl rfl) rfl rfl (ltb rfl) ?_
  rintro _ w1 ⟨rfl, r1, m1, z1⟩
  refine WL.det (op_assign rfl) rfl rfl rfl ?_
  refine WL.end ?_
  refine NE.code ?_
  refine CE.seq ?_
  refine CE.region ?_
  refine WL.det (op_loadA (i := 0) (cs := [vI kd, vF c0, vF c1, vF c2, vF s0, vF s1]) rfl Try.isAgg40 Try.sizeOf40 r1.rng rfl rfl rfl) rfl rfl rfl ?_
  refine WL.call (oc_call (vs := [.agg #[vI kd, vF c0, vF c1, vF c2, vF s0, vF s1]]) (cap := []) rfl rfl rfl Try.call53 (c_ValidFilter kd c0 c1 c2 s0 s1 w1)) rfl rfl (ltb rfl) ?_
  rintro _ w2 ⟨rfl, m2⟩
  refine WL.det (op_move rfl) rfl rfl rfl ?_
  rcases Bool.eq_false_or_eq_true (vFil kd c0 c1 c2 s0 s1) with hb1 | hb1
  · refine WL.yes rfl rfl rfl (ltb rfl) rfl hb1 ?_
    refine WL.det (op_fieldAddr (off' := 0) rfl Try.runUnderlying40 rfl rfl Try.sizeOf2 rfl) rfl rfl rfl ?_
    refine WL.yes rfl rfl rfl (ltb rfl) rfl hb1 ?_
    refine WL.det (op_load1 (i := 0) rfl Try.isAgg2 (r1.ext m2).rng rfl rfl) rfl rfl rfl ?_
    refine WL.yes rfl rfl rfl (ltb rfl) rfl hb1 ?_
    refine WL.det (op_move rfl) rfl rfl rfl ?_
    refine WL.yes rfl rfl rfl (ltb rfl) rfl hb1 ?_
    refine WL.det (op_eqi rfl rfl) rfl rfl rfl ?_
    refine WL.det (op_pick_t rfl hb1 rfl) rfl rfl rfl ?_
    refine WL.det (op_assign rfl) rfl rfl rfl ?_
    refine WL.end ?_
    refine NE.code ?_
    refine CE.ret' ?_
    refine XE.leave1 Try.results37 rfl ?_
    refine ⟨?_, (((Mod.refl [] w).nt m1).nt m2)⟩
    all_goals simp_all
  · refine WL.no rfl rfl rfl (ltb rfl) rfl hb1 rfl (ltb rfl) ?_
    iterate 3 refine WL.no rfl rfl rfl (ltb rfl) rfl hb1 rfl (ltb rfl) ?_
    refine WL.det (op_pick_f rfl hb1 rfl) rfl rfl rfl ?_
    refine WL.det (op_assign rfl) rfl rfl rfl ?_
    refine WL.end ?_
    refine NE.code ?_
    refine CE.ret' ?_
    refine XE.leave1 Try.results37 rfl ?_
    refine ⟨?_, (((Mod.refl [] w).nt m1).nt m2)⟩
    all_goals simp_all

theorem c_isFilterT (s0 : Nat) (hs : Bw s0 99) (w : World) : Cl Try.prog 37 #[.agg #[vI 1, vF 1056964608, vF 1056964608, vF 0, vF s0, vF 0], vI 1] w fun v w' => v = .bool true ∧ Mod [] w w' := by
  refine Cl.mono (c_isFilter 1 1056964608 1056964608 0 s0 0 1 w) ?_
  rintro v w' ⟨rfl, m⟩
  rw [hs.fil (by omega)]
  exact ⟨rfl, m⟩
set_option maxRecDepth 100000 in
set_option maxHeartbeats 2000000 in
theorem c_indexFinO (n : Nat) (c : Nat) (b : Nat) (o : Nat) (xs : List Nat) (ln : xs.length = n) (hn : n ≤ 1048576) (w : World) (r : Rng w b o (fl xs)) : Cl Try.prog 58 #[vS b o n c, .func (.func 52) #[] #[]] w fun v w' => ∃ (z : Int), v = vI z ∧ ((decide (0 ≤ z)) = !allF xs n) ∧ Mod [] w w' := by
  refine Cl.of Try.func58 Try.ntmps58 rfl rfl (ρ := [(0, vS b o n c), (1, .func (.func 52) #[] #[])]) rfl ?_
  refine CE.seq ?_
  refine CE.region ?_
  refine WL.det (op_assign rfl) rfl rfl rfl ?_
  refine WL.end ?_
  refine NE.code ?_
  iterate 2 refine CE.seq ?_
  refine CE.region ?_
  refine WL.det (op_move rfl) rfl rfl rfl ?_
  refine WL.det (op_len rfl Try.runUnderlying29) rfl rfl rfl ?_
  refine WL.det (op_move rfl) rfl rfl rfl ?_
  refine WL.end ?_
  refine NE.code ?_
  refine CE.block ?_
  refine CE.loop (fun (i : Nat) => [(8, vI ((i : Nat) : Int)), (0, vS b o n c), (1, .func (.func 52) #[] #[]), (4, vI 0), (7, vI ((n : Nat) : Int))]) (fun (i : Nat) => fun W => (i ≤ n) ∧ (allF xs i = true) ∧ Mod [] w W) (fun (i : Nat) => n - i) 0 (⟨rfl, rfl, rfl, rfl, rfl, trivial⟩) ⟨(by omega), (by rfl), Mod.refl _ _⟩ ?_
  rintro i w1 ⟨hi, hu, m1⟩
  show CE _ _ _ _ [(8, vI ((i : Nat) : Int)), (0, vS b o n c), (1, .func (.func 52) #[] #[]), (4, vI 0), (7, vI ((n : Nat) : Int))] _
  refine CE.seq ?_
  refine CE.region ?_
  refine WL.det (op_lti rfl rfl) rfl rfl rfl ?_
  refine WL.end ?_
  refine NE.code ?_
  refine CE.seq ?_
  rcases Bool.eq_false_or_eq_true (decide (((i : Nat) : Int) < ((n : Nat) : Int))) with hb1 | hb1
  · have hp1 := of_decide_eq_true hb1
    refine CE.cond_t rfl hb1 ?_
    refine CE.skip' ?_
    refine NE.code ?_
    refine CE.seq ?_
    refine CE.block ?_
    refine CE.seq ?_
    refine CE.region ?_
    refine WL.det (op_move rfl) rfl rfl rfl ?_
    refine WL.det (op_assign rfl) rfl rfl rfl ?_
    refine WL.end ?_
    refine NE.code ?_
    refine CE.seq ?_
    refine CE.region ?_
    iterate 3 refine WL.det (op_move rfl) rfl rfl rfl ?_
    refine WL.det (op_indexSl (off' := o + i) rfl rfl rfl Try.runUnderlying29 Try.sizeOf24 (by omega) (by omega) (by omega)) rfl rfl rfl ?_
    refine WL.det (op_load1 (i := i) rfl Try.isAgg24 (r.ext m1) rfl (fl_get (by have eL : List.length xs = n := ln; omega))) rfl rfl rfl ?_
    refine WL.call (oc_call (vs := [vF (xs.getD i 0)]) (cap := []) rfl rfl rfl Try.call52 (c_areFin1 (xs.getD i 0) (xs.getD i 0) rfl w1)) rfl rfl (ltb rfl) ?_
    rintro _ w2 ⟨rfl, m2⟩
    refine WL.end ?_
    refine NE.code ?_
    rcases Bool.eq_false_or_eq_true (finF (xs.getD i 0)) with hb2 | hb2
    · refine CE.cond_f rfl (bnot_t hb2) ?_
      refine CE.skip' ?_
      refine NE.blk ?_
      refine NE.code ?_
      refine CE.region ?_
      refine WL.det (op_add (r := ((i + 1 : Nat) : Int)) rfl rfl (w_i64 (by omega) (by omega))) rfl rfl rfl ?_
      refine WL.det (op_move rfl) rfl rfl rfl ?_
      refine WL.end ?_
      exact NE.again (i + 1) (⟨rfl, rfl, rfl, rfl, rfl, trivial⟩) ⟨(by omega), (by exact allF_step hu (by simp_all)), (m1.nt m2)⟩ (by first | (dsimp only; omega) | omega)
    · refine CE.cond_t rfl (bnot_f hb2) ?_
      refine CE.seq ?_
      refine CE.region ?_
      refine WL.det (op_move rfl) rfl rfl rfl ?_
      refine WL.det (op_assign rfl) rfl rfl rfl ?_
      refine WL.end ?_
      refine NE.code ?_
      refine CE.ret' ?_
      refine XE.ret_blk ?_
      iterate 2 refine XE.ret_then ?_
      refine XE.ret_blk ?_
      refine XE.ret_then ?_
      refine XE.leave1 Try.results58 rfl ?_
      refine ⟨((i : Nat) : Int), rfl, ?_, (((Mod.refl [] w).nt m1).nt m2)⟩
      all_goals first | (rw [allF_out (i := i) (by omega) (by simp_all)]; simp; done) | (have e : i = n := (by omega); subst e; rw [hu]; rfl)
  · have hp1 := of_decide_eq_false hb1
    refine CE.cond_f rfl hb1 ?_
    refine CE.exit' ?_
    iterate 2 refine XE.exit_then ?_
    refine XE.exit_here ?_
    refine NE.code ?_
    refine CE.seq ?_
    refine CE.region ?_
    refine WL.det (op_assign rfl) rfl rfl rfl ?_
    refine WL.end ?_
    refine NE.code ?_
    refine CE.ret' ?_
    refine XE.leave1 Try.results58 rfl ?_
    refine ⟨(-1), rfl, ?_, ((Mod.refl [] w).nt m1)⟩
    all_goals first | (rw [allF_out (i := i) (by omega) (by simp_all)]; simp; done) | (have e : i = n := (by omega); subst e; rw [hu]; rfl)

set_option maxRecDepth 100000 in
set_option maxHeartbeats 2000000 in
theorem c_containsFinO (n : Nat) (c : Nat) (b : Nat) (o : Nat) (xs : List Nat) (ln : xs.length = n) (hn : n ≤ 1048576) (w : World) (r : Rng w b o (fl xs)) : Cl Try.prog 51 #[vS b o n c, .func (.func 52) #[] #[]] w fun v w' => v = .bool (!allF xs n) ∧ Mod [] w w' := by
  refine Cl.of Try.func51 Try.ntmps51 rfl rfl (ρ := [(0, vS b o n c), (1, .func (.func 52) #[] #[])]) rfl ?_
  refine CE.seq ?_
  refine CE.region ?_
  refine WL.det (op_assign rfl) rfl rfl rfl ?_
  refine WL.end ?_
  refine NE.code ?_
  refine CE.seq ?_
  refine CE.region ?_
  iterate 2 refine WL.det (op_move rfl) rfl rfl rfl ?_
  refine WL.call (oc_call (vs := [vS b o n c, .func (.func 52) #[] #[]]) (cap := []) rfl rfl rfl Try.call58 (c_indexFinO n c b o xs ln (by omega) w r)) rfl rfl (ltb rfl) ?_
  rintro _ w1 ⟨z1, rfl, h1, m1⟩
  refine WL.det (op_gei rfl rfl) rfl rfl rfl ?_
  refine WL.det (op_assign rfl) rfl rfl rfl ?_
  refine WL.end ?_
  refine NE.code ?_
  refine CE.ret' ?_
  refine XE.leave1 Try.results51 rfl ?_
  refine ⟨?_, ((Mod.refl [] w).nt m1)⟩
  all_goals (exact congrArg Value.bool (by assumption))

set_option maxRecDepth 100000 in
set_option maxHeartbeats 2000000 in
theorem c_areFiniteO (n : Nat) (c : Nat) (b : Nat) (o : Nat) (xs : List Nat) (ln : xs.length = n) (hn : n ≤ 1048576) (w : World) (r : Rng w b o (fl xs)) : Cl Try.prog 35 #[vS b o n c] w fun v w' => v = .bool (allF xs n) ∧ Mod [] w w' := by
  refine Cl.of Try.func35 Try.ntmps35 rfl rfl (ρ := [(0, vS b o n c)]) rfl ?_
  refine CE.seq ?_
  refine CE.region ?_
  refine WL.det (op_assign rfl) rfl rfl rfl ?_
  refine WL.end ?_
  refine NE.code ?_
  refine CE.seq ?_
  refine CE.region ?_
  refine WL.det (op_move rfl) rfl rfl rfl ?_
  refine WL.call (oc_call (vs := [vS b o n c, .func (.func 52) #[] #[]]) (cap := []) rfl rfl rfl Try.call51 (c_containsFinO n c b o xs ln (by omega) w r)) rfl rfl (ltb rfl) ?_
  rintro _ w1 ⟨rfl, m1⟩
  refine WL.det (op_not rfl) rfl rfl rfl ?_
  refine WL.det (op_assign rfl) rfl rfl rfl ?_
  refine WL.end ?_
  refine NE.code ?_
  refine CE.ret' ?_
  refine XE.leave1 Try.results35 rfl ?_
  refine ⟨?_, ((Mod.refl [] w).nt m1)⟩
  all_goals simp

set_option maxRecDepth 100000 in
set_option maxHeartbeats 2000000 in
theorem c_indexTap (p : Nat) (w : World) : Cl Try.prog 54 #[.slice none 0 0, .func (.func 39) #[] #[vP p 0]] w fun v w' => v = vI (-1) ∧ Mod [] w w' := by
  refine Cl.of Try.func54 Try.ntmps54 rfl rfl (ρ := [(0, .slice none 0 0), (1, .func (.func 39) #[] #[vP p 0])]) rfl ?_
  refine CE.seq ?_
  refine CE.region ?_
  refine WL.det (op_assign rfl) rfl rfl rfl ?_
  refine WL.end ?_
  refine NE.code ?_
  iterate 2 refine CE.seq ?_
  refine CE.region ?_
  refine WL.det (op_move rfl) rfl rfl rfl ?_
  refine WL.det (op_len rfl Try.runUnderlying32) rfl rfl rfl ?_
  refine WL.det (op_move rfl) rfl rfl rfl ?_
  refine WL.end ?_
  refine NE.code ?_
  refine CE.block ?_
  refine CE.rounds 1 ?_
  refine RN.one ?_
  refine CE.seq ?_
  refine CE.region ?_
  refine WL.det (op_lti rfl rfl) rfl rfl rfl ?_
  refine WL.end ?_
  refine NE.code ?_
  refine CE.seq ?_
  refine CE.cond_f rfl rfl ?_
  refine CE.exit' ?_
  iterate 2 refine XE.exit_then ?_
  refine XE.exit_here ?_
  refine NE.code ?_
  refine CE.seq ?_
  refine CE.region ?_
  refine WL.det (op_assign rfl) rfl rfl rfl ?_
  refine WL.end ?_
  refine NE.code ?_
  refine CE.ret' ?_
  refine XE.leave1 Try.results54 rfl ?_
  refine ⟨rfl, (Mod.refl [] w)⟩

set_option maxRecDepth 100000 in
set_option maxHeartbeats 2000000 in
theorem c_containsTap (p : Nat) (w : World) : Cl Try.prog 38 #[.slice none 0 0, .func (.func 39) #[] #[vP p 0]] w fun v w' => v = .bool false ∧ Mod [] w w' := by
  refine Cl.of Try.func38 Try.ntmps38 rfl rfl (ρ := [(0, .slice none 0 0), (1, .func (.func 39) #[] #[vP p 0])]) rfl ?_
  refine CE.seq ?_
  refine CE.region ?_
  refine WL.det (op_assign rfl) rfl rfl rfl ?_
  refine WL.end ?_
  refine NE.code ?_
  refine CE.seq ?_
  refine CE.region ?_
  iterate 2 refine WL.det (op_move rfl) rfl rfl rfl ?_
  refine WL.call (oc_call (vs := [.slice none 0 0, .func (.func 39) #[] #[vP p 0]]) (cap := []) rfl rfl rfl Try.call54 (c_indexTap p w)) rfl rfl (ltb rfl) ?_
  rintro _ w1 ⟨rfl, m1⟩
  refine WL.det (op_gei rfl rfl) rfl rfl rfl ?_
  refine WL.det (op_assign rfl) rfl rfl rfl ?_
  refine WL.end ?_
  refine NE.code ?_
  refine CE.ret' ?_
  refine XE.leave1 Try.results38 rfl ?_
  refine ⟨rfl, ((Mod.refl [] w).nt m1)⟩

set_option maxRecDepth 100000 in
set_option maxHeartbeats 2000000 in
theorem c_CloneTap (w : World) : Cl Try.prog 43 #[.slice none 0 0] w fun v w' => v = .slice none 0 0 ∧ Mod [] w w' := by
  refine Cl.of Try.func43 Try.ntmps43 rfl rfl (ρ := [(0, .slice none 0 0)]) rfl ?_
  refine CE.seq ?_
  refine CE.region ?_
  refine WL.det (op_assign rfl) rfl rfl rfl ?_
  refine WL.end ?_
  refine NE.code ?_
  iterate 2 refine CE.seq ?_
  refine CE.region ?_
  refine WL.det (op_move rfl) rfl rfl rfl ?_
  refine WL.det (op_sl_isnil rfl rfl Try.underlying32) rfl rfl rfl ?_
  refine WL.end ?_
  refine NE.code ?_
  refine CE.cond_t rfl rfl ?_
  refine CE.seq ?_
  refine CE.region ?_
  refine WL.det (op_assign rfl) rfl rfl rfl ?_
  refine WL.end ?_
  refine NE.code ?_
  refine CE.ret' ?_
  refine XE.ret_then ?_
  refine XE.leave1 Try.results43 rfl ?_
  refine ⟨rfl, (Mod.refl [] w)⟩

set_option maxRecDepth 100000 in
set_option maxHeartbeats 2000000 in
theorem c_ValidRoom (nE : Nat) (cE : Nat) (bE : Nat) (xE : List Nat) (iE : Nat) (nC0 : Nat) (cC0 : Nat) (bC0 : Nat) (xC0 : List Nat) (iC0 : Nat) (nC1 : Nat) (cC1 : Nat) (bC1 : Nat) (xC1 : List Nat) (iC1 : Nat) (nL0 : Nat) (cL0 : Nat) (bL0 : Nat) (xL0 : List Nat) (iL0 : Nat) (nL1 : Nat) (cL1 : Nat) (bL1 : Nat) (xL1 : List Nat) (iL1 : Nat) (nL2 : Nat) (cL2 : Nat) (bL2 : Nat) (xL2 : List Nat) (iL2 : Nat) (nL3 : Nat) (cL3 : Nat) (bL3 : Nat) (xL3 : List Nat) (iL3 : Nat) (s0 : Nat) (s1 : Nat) (s2 : Nat) (s3 : Nat) (g0 : Nat) (g1 : Nat) (g2 : Nat) (g3 : Nat) (lnE : xE.length = nE) (lnC0 : xC0.length = nC0) (lnC1 : xC1.length = nC1) (lnL0 : xL0.length = nL0) (lnL1 : xL1.length = nL1) (lnL2 : xL2.length = nL2) (lnL3 : xL3.length = nL3) (hiE : iE < nE) (hiC0 : iC0 < nC0) (hiC1 : iC1 < nC1) (hiL0 : iL0 < nL0) (hiL1 : iL1 < nL1) (hiL2 : iL2 < nL2) (hiL3 : iL3 < nL3) (hnE : nE ≤ 1024) (hnC0 : nC0 ≤ 1024) (hnC1 : nC1 ≤ 1024) (hnL0 : nL0 ≤ 1024) (hnL1 : nL1 ≤ 1024) (hnL2 : nL2 ≤ 1024) (hnL3 : nL3 ≤ 1024) (hLE : LBw xE 1) (hLC0 : LBw xC0 3) (hLC1 : LBw xC1 5) (hLL0 : LBw xL0 (99)) (hLL1 : LBw xL1 (99)) (hLL2 : LBw xL2 (99)) (hLL3 : LBw xL3 (99)) (hs0 : Bw s0 (99)) (hs1 : Bw s1 (99)) (hs2 : Bw s2 (99)) (hs3 : Bw s3 (99)) (hg0 : Bw g0 0) (hg1 : Bw g1 0) (hg2 : Bw g2 0) (hg3 : Bw g3 0) (w : World) (rE : Rng w bE 0 (fl xE)) (rC0 : Rng w bC0 0 (fl xC0)) (rC1 : Rng w bC1 0 (fl xC1)) (rL0 : Rng w bL0 0 (fl xL0)) (rL1 : Rng w bL1 0 (fl xL1)) (rL2 : Rng w bL2 0 (fl xL2)) (rL3 : Rng w bL3 0 (fl xL3)) : Cl Try.prog 26 #[.agg #[vS bE 0 nE cE, vI ((iE : Nat) : Int), .slice none 0 0, vS bC0 0 nC0 cC0, vI ((iC0 : Nat) : Int), vF 1056964608, vS bC1 0 nC1 cC1, vI ((iC1 : Nat) : Int), vF 1056964608, vS bL0 0 nL0 cL0, vI ((iL0 : Nat) : Int), vS bL1 0 nL1 cL1, vI ((iL1 : Nat) : Int), vS bL2 0 nL2 cL2, vI ((iL2 : Nat) : Int), vS bL3 0 nL3 cL3, vI ((iL3 : Nat) : Int), vI 1, vF 1056964608, vF 1056964608, vF 0, vF s0, vF 0, vI 1, vF 1056964608, vF 1056964608, vF 0, vF s1, vF 0, vI 1, vF 1056964608, vF 1056964608, vF 0, vF s2, vF 0, vI 1, vF 1056964608, vF 1056964608, vF 0, vF s3, vF 0, vF g0, vF g1, vF g2, vF g3, vF 1065353216, vF 0]] w fun v w' => v = .bool true ∧ Mod [] w w' := by
  refine Cl.of Try.func26 Try.ntmps26 rfl rfl (ρ := [(0, .agg #[vS bE 0 nE cE, vI ((iE : Nat) : Int), .slice none 0 0, vS bC0 0 nC0 cC0, vI ((iC0 : Nat) : Int), vF 1056964608, vS bC1 0 nC1 cC1, vI ((iC1 : Nat) : Int), vF 1056964608, vS bL0 0 nL0 cL0, vI ((iL0 : Nat) : Int), vS bL1 0 nL1 cL1, vI ((iL1 : Nat) : Int), vS bL2 0 nL2 cL2, vI ((iL2 : Nat) : Int), vS bL3 0 nL3 cL3, vI ((iL3 : Nat) : Int), vI 1, vF 1056964608, vF 1056964608, vF 0, vF s0, vF 0, vI 1, vF 1056964608, vF 1056964608, vF 0, vF s1, vF 0, vI 1, vF 1056964608, vF 1056964608, vF 0, vF s2, vF 0, vI 1, vF 1056964608, vF 1056964608, vF 0, vF s3, vF 0, vF g0, vF g1, vF g2, vF g3, vF 1065353216, vF 0])]) rfl ?_
  refine CE.seq ?_
  refine CE.region ?_
  refine WL.op (op_box (cs := [vS bE 0 nE cE, vI ((iE : Nat) : Int), .slice none 0 0, vS bC0 0 nC0 cC0, vI ((iC0 : Nat) : Int), vF 1056964608, vS bC1 0 nC1 cC1, vI ((iC1 : Nat) : Int), vF 1056964608, vS bL0 0 nL0 cL0, vI ((iL0 : Nat) : Int), vS bL1 0 nL1 cL1, vI ((iL1 : Nat) : Int), vS bL2 0 nL2 cL2, vI ((iL2 : Nat) : Int), vS bL3 0 nL3 cL3, vI ((iL3 : Nat) : Int), vI 1, vF 1056964608, vF 1056964608, vF 0, vF s0, vF 0, vI 1, vF 1056964608, vF 1056964608, vF 0, vF s1, vF 0, vI 1, vF 1056964608, vF 1056964608, vF 0, vF s2, vF 0, vI 1, vF 1056964608, vF 1056964608, vF 0, vF s3, vF 0, vF g0, vF g1, vF g2, vF g3, vF 1065353216, vF 0]) rfl rfl) rfl rfl (ltb rfl) ?_
  rintro _ w1 ⟨rfl, r1, m1, z1⟩
  refine WL.det (op_assign rfl) rfl rfl rfl ?_
  refine WL.end ?_
  refine NE.code ?_
  iterate 2 refine CE.seq ?_
  refine CE.region ?_
  refine WL.det (op_fieldAddr (off' := 0) rfl Try.runUnderlying43 rfl rfl Try.sizeOf31 rfl) rfl rfl rfl ?_
  refine WL.det (op_loadA (i := 0) (cs := [vS bE 0 nE cE, vI ((iE : Nat) : Int)]) rfl Try.isAgg31 Try.sizeOf31 r1.rng rfl rfl rfl) rfl rfl rfl ?_
  refine WL.call (oc_call (vs := [.agg #[vS bE 0 nE cE, vI ((iE : Nat) : Int)]]) (cap := []) rfl rfl rfl Try.call34 (c_isRingT nE cE bE xE iE lnE (by omega) (by omega) (by exact LBw.mono (by assumption) (by omega)) w1 (rE.ext m1))) rfl rfl (ltb rfl) ?_
  rintro _ w2 ⟨rfl, m2⟩
  refine WL.det (op_not rfl) rfl rfl rfl ?_
  refine WL.det (op_move rfl) rfl rfl rfl ?_
  refine WL.yes rfl rfl rfl (ltb rfl) rfl rfl ?_
  refine WL.det (op_fieldAddr (off' := 2) rfl Try.runUnderlying43 rfl rfl Try.sizeOf32 rfl) rfl rfl rfl ?_
  refine WL.yes rfl rfl rfl (ltb rfl) rfl rfl ?_
  refine WL.det (op_load1 (i := 2) rfl Try.isAgg32 (r1.ext m2).rng rfl rfl) rfl rfl rfl ?_
  refine WL.yes rfl rfl rfl (ltb rfl) rfl rfl ?_
  refine WL.det (op_len rfl Try.runUnderlying32) rfl rfl rfl ?_
  refine WL.yes rfl rfl rfl (ltb rfl) rfl rfl ?_
  refine WL.det (op_gti rfl rfl) rfl rfl rfl ?_
  refine WL.det (op_pick_f rfl rfl rfl) rfl rfl rfl ?_
  refine WL.det (op_move rfl) rfl rfl rfl ?_
  refine WL.yes rfl rfl rfl (ltb rfl) rfl rfl ?_
  refine WL.det (op_fieldAddr (off' := 41) rfl Try.runUnderlying43 rfl rfl Try.sizeOf25 rfl) rfl rfl rfl ?_
  refine WL.yes rfl rfl rfl (ltb rfl) rfl rfl ?_
  refine WL.det (op_sliceArr rfl Try.runUnderlying25 Try.sizeOf24) rfl rfl rfl ?_
  refine WL.yes rfl rfl rfl (ltb rfl) rfl rfl ?_
  refine WL.call (oc_call (vs := [vS w.heap.size 41 4 4]) (cap := []) rfl rfl rfl Try.call35 (c_areFiniteO 4 4 w.heap.size 41 [g0, g1, g2, g3] rfl (by omega) w2 (((r1.ext m2).rng.drop 41).take 4))) rfl rfl (ltb rfl) ?_
  rintro _ w3 ⟨rfl, m3⟩
  refine WL.yes rfl rfl rfl (ltb rfl) rfl rfl ?_
  refine WL.det (op_not rfl) rfl rfl rfl ?_
  refine WL.det (op_pick_f rfl rfl rfl) rfl rfl rfl ?_
  refine WL.det (op_move rfl) rfl rfl rfl ?_
  refine WL.yes rfl rfl rfl (ltb rfl) rfl (bnot_t (gainsF hg0 hg1 hg2 hg3)) ?_
  refine WL.det (op_fieldAddr (off' := 45) rfl Try.runUnderlying43 rfl rfl Try.sizeOf24 rfl) rfl rfl rfl ?_
  refine WL.yes rfl rfl rfl (ltb rfl) rfl (bnot_t (gainsF hg0 hg1 hg2 hg3)) ?_
  refine WL.det (op_load1 (i := 45) rfl Try.isAgg24 ((r1.ext m2).ext m3).rng rfl rfl) rfl rfl rfl ?_
  refine WL.yes rfl rfl rfl (ltb rfl) rfl (bnot_t (gainsF hg0 hg1 hg2 hg3)) ?_
  refine WL.det (op_fieldAddr (off' := 46) rfl Try.runUnderlying43 rfl rfl Try.sizeOf24 rfl) rfl rfl rfl ?_
  refine WL.yes rfl rfl rfl (ltb rfl) rfl (bnot_t (gainsF hg0 hg1 hg2 hg3)) ?_
  refine WL.det (op_load1 (i := 46) rfl Try.isAgg24 ((r1.ext m2).ext m3).rng rfl rfl) rfl rfl rfl ?_
  refine WL.yes rfl rfl rfl (ltb rfl) rfl (bnot_t (gainsF hg0 hg1 hg2 hg3)) ?_
  refine WL.op (op_buildSl (qs := [(0, vF 1065353216), (1, vF 0)]) (cells := #[vF 1065353216, vF 0]) rfl Try.runUnderlying29 Try.sizeOf24 Try.zeroValue24 (by decide) (by decide) (by kernel_rfl)) rfl rfl (ltb rfl) ?_
  rintro _ w4 ⟨rfl, r2, m4, z2⟩
  refine WL.yes rfl rfl rfl (ltb rfl) rfl (bnot_t (gainsF hg0 hg1 hg2 hg3)) ?_
  refine WL.call (oc_call (vs := [vS w3.heap.size 0 2 2]) (cap := []) rfl rfl rfl Try.call35 (c_areFinite 2 2 w3.heap.size [1065353216, 0] rfl (by omega) w4 r2.rng)) rfl rfl (ltb rfl) ?_
  rintro _ w5 ⟨rfl, m5⟩
  refine WL.yes rfl rfl rfl (ltb rfl) rfl (bnot_t (gainsF hg0 hg1 hg2 hg3)) ?_
  refine WL.det (op_not rfl) rfl rfl rfl ?_
  refine WL.det (op_pick_f rfl (bnot_t (gainsF hg0 hg1 hg2 hg3)) rfl) rfl rfl rfl ?_
  refine WL.det (op_move rfl) rfl rfl rfl ?_
  refine WL.yes rfl rfl rfl (ltb rfl) rfl (bnot_t (by decide +kernel)) ?_
  refine WL.det (op_fieldAddr (off' := 3) rfl Try.runUnderlying43 rfl rfl Try.sizeOf35 rfl) rfl rfl rfl ?_
  refine WL.yes rfl rfl rfl (ltb rfl) rfl (bnot_t (by decide +kernel)) ?_
  refine WL.det (op_indexArr (off' := 3) rfl rfl Try.runUnderlying35 Try.sizeOf34 (by decide) (by decide) rfl) rfl rfl rfl ?_
  have r3 := ((((r1.ext m2).ext m3).ext m4).ext m5)
  refine WL.yes rfl rfl rfl (ltb rfl) rfl (bnot_t (by decide +kernel)) ?_
  refine WL.det (op_loadA (i := 3) (cs := [vS bC0 0 nC0 cC0, vI ((iC0 : Nat) : Int), vF 1056964608]) rfl Try.isAgg34 Try.sizeOf34 r3.rng rfl rfl rfl) rfl rfl rfl ?_
  have r4 := (((((rC0.ext m1).ext m2).ext m3).ext m4).ext m5)
  refine WL.yes rfl rfl rfl (ltb rfl) rfl (bnot_t (by decide +kernel)) ?_
  refine WL.call (oc_call (vs := [.agg #[vS bC0 0 nC0 cC0, vI ((iC0 : Nat) : Int), vF 1056964608]]) (cap := []) rfl rfl rfl Try.call36 (c_ValidCombT nC0 cC0 bC0 xC0 iC0 lnC0 (by omega) (by omega) (by exact LBw.mono (by assumption) (by omega)) w5 r4)) rfl rfl (ltb rfl) ?_
  rintro _ w6 ⟨rfl, m6⟩
  refine WL.yes rfl rfl rfl (ltb rfl) rfl (bnot_t (by decide +kernel)) ?_
  refine WL.det (op_not rfl) rfl rfl rfl ?_
  refine WL.det (op_pick_f rfl (bnot_t (by decide +kernel)) rfl) rfl rfl rfl ?_
  refine WL.det (op_move rfl) rfl rfl rfl ?_
  refine WL.yes rfl rfl rfl (ltb rfl) rfl rfl ?_
  refine WL.det (op_fieldAddr (off' := 3) rfl Try.runUnderlying43 rfl rfl Try.sizeOf35 rfl) rfl rfl rfl ?_
  refine WL.yes rfl rfl rfl (ltb rfl) rfl rfl ?_
  refine WL.det (op_indexArr (off' := 6) rfl rfl Try.runUnderlying35 Try.sizeOf34 (by decide) (by decide) rfl) rfl rfl rfl ?_
  refine WL.yes rfl rfl rfl (ltb rfl) rfl rfl ?_
  refine WL.det (op_loadA (i := 6) (cs := [vS bC1 0 nC1 cC1, vI ((iC1 : Nat) : Int), vF 1056964608]) rfl Try.isAgg34 Try.sizeOf34 (r3.ext m6).rng rfl rfl rfl) rfl rfl rfl ?_
  have r5 := ((((((rC1.ext m1).ext m2).ext m3).ext m4).ext m5).ext m6)
  refine WL.yes rfl rfl rfl (ltb rfl) rfl rfl ?_
  refine WL.call (oc_call (vs := [.agg #[vS bC1 0 nC1 cC1, vI ((iC1 : Nat) : Int), vF 1056964608]]) (cap := []) rfl rfl rfl Try.call36 (c_ValidCombT nC1 cC1 bC1 xC1 iC1 lnC1 (by omega) (by omega) (by exact LBw.mono (by assumption) (by omega)) w6 r5)) rfl rfl (ltb rfl) ?_
  rintro _ w7 ⟨rfl, m7⟩
  refine WL.yes rfl rfl rfl (ltb rfl) rfl rfl ?_
  refine WL.det (op_not rfl) rfl rfl rfl ?_
  refine WL.det (op_pick_f rfl rfl rfl) rfl rfl rfl ?_
  refine WL.end ?_
  refine NE.code ?_
  refine CE.cond_f rfl rfl ?_
  refine CE.skip' ?_
  refine NE.code ?_
  iterate 2 refine CE.seq ?_
  refine CE.region ?_
  refine WL.det (op_fieldAddr (off' := 9) rfl Try.runUnderlying43 rfl rfl Try.sizeOf36 rfl) rfl rfl rfl ?_
  refine WL.det (op_loadA (i := 9) (cs := [vS bL0 0 nL0 cL0, vI ((iL0 : Nat) : Int), vS bL1 0 nL1 cL1, vI ((iL1 : Nat) : Int), vS bL2 0 nL2 cL2, vI ((iL2 : Nat) : Int), vS bL3 0 nL3 cL3, vI ((iL3 : Nat) : Int)]) rfl Try.isAgg36 Try.sizeOf36 ((r3.ext m6).ext m7).rng rfl rfl rfl) rfl rfl rfl ?_
  refine WL.det (op_move rfl) rfl rfl rfl ?_
  refine WL.end ?_
  refine NE.code ?_
  refine CE.block ?_
  refine CE.rounds 5 ?_
  refine RN.one ?_
  refine CE.seq ?_
  refine CE.region ?_
  refine WL.det (op_lti rfl rfl) rfl rfl rfl ?_
  refine WL.end ?_
  refine NE.code ?_
  refine CE.seq ?_
  refine CE.cond_t rfl rfl ?_
  refine CE.skip' ?_
  refine NE.code ?_
  refine CE.seq ?_
  refine CE.block ?_
  refine CE.seq ?_
  refine CE.region ?_
  refine WL.det (op_move rfl) rfl rfl rfl ?_
  refine WL.det (op_idxA (cs := [vS bL0 0 nL0 cL0, vI ((iL0 : Nat) : Int)]) rfl rfl Try.runUnderlying36 Try.sizeOf31 Try.isAgg31 (by decide) (by decide) rfl) rfl rfl rfl ?_
  refine WL.op (op_alloc (cs := [.slice none 0 0, vI 0]) Try.zeroValue31 rfl) rfl rfl (ltb rfl) ?_
  rintro _ w8 ⟨rfl, r6, m8, z3⟩
  refine WL.det (op_assign rfl) rfl rfl rfl ?_
  refine WL.op0 (op_store (i := 0) (cs := [vS bL0 0 nL0 cL0, vI ((iL0 : Nat) : Int)]) rfl rfl rfl Try.sizeOf31 rfl r6 rfl (lB rfl) rfl) rfl rfl ?_
  rintro _ w9 ⟨r7, m9, z4⟩
  have r8 : Row w9 w7.heap.size 0 [vS bL0 0 nL0 cL0, vI ((iL0 : Nat) : Int)] := Row.congr r7 rfl
  refine WL.end ?_
  refine NE.code ?_
  refine CE.seq ?_
  refine CE.region ?_
  refine WL.det (op_loadA (i := 0) (cs := [vS bL0 0 nL0 cL0, vI ((iL0 : Nat) : Int)]) rfl Try.isAgg31 Try.sizeOf31 r8.rng rfl rfl rfl) rfl rfl rfl ?_
  have sz1 := (lT (lT (lT (lT (lT (lT m1.size m2.size) m3.size) m4.size) m5.size) m6.size) m7.size)
  have r9 := (Rng.youngS rL0 ((((((((rL0.ext m1).ext m2).ext m3).ext m4).ext m5).ext m6).ext m7).ext m8) m9 (allge_cons (lT sz1 lR) allge_nil))
  refine WL.call (oc_call (vs := [.agg #[vS bL0 0 nL0 cL0, vI ((iL0 : Nat) : Int)]]) (cap := []) rfl rfl rfl Try.call34 (c_isRingT nL0 cL0 bL0 xL0 iL0 lnL0 (by omega) (by omega) (by exact LBw.mono (by assumption) (by omega)) w9 r9)) rfl rfl (ltb rfl) ?_
  rintro _ w10 ⟨rfl, m10⟩
  refine WL.det (op_not rfl) rfl rfl rfl ?_
  refine WL.det (op_move rfl) rfl rfl rfl ?_
  refine WL.yes rfl rfl rfl (ltb rfl) rfl rfl ?_
  refine WL.det (op_move rfl) rfl rfl rfl ?_
  refine WL.yes rfl rfl rfl (ltb rfl) rfl rfl ?_
  refine WL.det (op_fieldAddr (off' := 17) rfl Try.runUnderlying43 rfl rfl Try.sizeOf41 rfl) rfl rfl rfl ?_
  refine WL.yes rfl rfl rfl (ltb rfl) rfl rfl ?_
  refine WL.det (op_indexArr (off' := 17) rfl rfl Try.runUnderlying41 Try.sizeOf40 (by decide) (by decide) rfl) rfl rfl rfl ?_
  have sz2 := (lT (lT (lT (lT (lT m2.size m3.size) m4.size) m5.size) m6.size) m7.size)
  have r10 := (((((r3.ext m6).ext m7).ext m8).mod m9 (nC (lE (lL (lL r1.lt sz2) lR)) nN)).ext m10)
  refine WL.yes rfl rfl rfl (ltb rfl) rfl rfl ?_
  refine WL.det (op_loadA (i := 17) (cs := [vI 1, vF 1056964608, vF 1056964608, vF 0, vF s0, vF 0]) rfl Try.isAgg40 Try.sizeOf40 r10.rng rfl rfl rfl) rfl rfl rfl ?_
  refine WL.yes rfl rfl rfl (ltb rfl) rfl rfl ?_
  refine WL.call (oc_call (vs := [.agg #[vI 1, vF 1056964608, vF 1056964608, vF 0, vF s0, vF 0], vI 1]) (cap := []) rfl rfl rfl Try.call37 (c_isFilterT s0 (by exact Bw.mono (by assumption) (by omega)) w10)) rfl rfl (ltb rfl) ?_
  rintro _ w11 ⟨rfl, m11⟩
  refine WL.yes rfl rfl rfl (ltb rfl) rfl rfl ?_
  refine WL.det (op_not rfl) rfl rfl rfl ?_
  refine WL.det (op_pick_f rfl rfl rfl) rfl rfl rfl ?_
  refine WL.end ?_
  refine NE.code ?_
  refine CE.cond_f rfl rfl ?_
  refine CE.skip' ?_
  refine NE.blk ?_
  refine NE.code ?_
  refine CE.region ?_
  refine WL.det (op_add (r := 1) rfl rfl (by decide)) rfl rfl rfl ?_
  refine WL.det (op_move rfl) rfl rfl rfl ?_
  refine WL.end ?_
  refine NE.round ?_
  refine RN.one ?_
  refine CE.seq ?_
  refine CE.region ?_
  refine WL.det (op_lti rfl rfl) rfl rfl rfl ?_
  refine WL.end ?_
  refine NE.code ?_
  refine CE.seq ?_
  refine CE.cond_t rfl rfl ?_
  refine CE.skip' ?_
  refine NE.code ?_
  refine CE.seq ?_
  refine CE.block ?_
  refine CE.seq ?_
  refine CE.region ?_
  refine WL.det (op_move rfl) rfl rfl rfl ?_
  refine WL.det (op_idxA (cs := [vS bL1 0 nL1 cL1, vI ((iL1 : Nat) : Int)]) rfl rfl Try.runUnderlying36 Try.sizeOf31 Try.isAgg31 (by decide) (by decide) rfl) rfl rfl rfl ?_
  refine WL.op (op_alloc (cs := [.slice none 0 0, vI 0]) Try.zeroValue31 rfl) rfl rfl (ltb rfl) ?_
  rintro _ w12 ⟨rfl, r11, m12, z5⟩
  refine WL.det (op_assign rfl) rfl rfl rfl ?_
  refine WL.op0 (op_store (i := 0) (cs := [vS bL1 0 nL1 cL1, vI ((iL1 : Nat) : Int)]) rfl rfl rfl Try.sizeOf31 rfl r11 rfl (lB rfl) rfl) rfl rfl ?_
  rintro _ w13 ⟨r12, m13, z6⟩
  have r13 : Row w13 w11.heap.size 0 [vS bL1 0 nL1 cL1, vI ((iL1 : Nat) : Int)] := Row.congr r12 rfl
  refine WL.end ?_
  refine NE.code ?_
  refine CE.seq ?_
  refine CE.region ?_
  refine WL.det (op_loadA (i := 0) (cs := [vS bL1 0 nL1 cL1, vI ((iL1 : Nat) : Int)]) rfl Try.isAgg31 Try.sizeOf31 r13.rng rfl rfl rfl) rfl rfl rfl ?_
  have sz3 := (lT (lT (lT (lT sz1 m8.size) m9.size) m10.size) m11.size)
  have r14 := (Rng.youngS rL1 ((((Rng.youngS rL1 ((((((((rL1.ext m1).ext m2).ext m3).ext m4).ext m5).ext m6).ext m7).ext m8) m9 (allge_cons (lT sz1 lR) allge_nil)).ext m10).ext m11).ext m12) m13 (allge_cons (lT sz3 lR) allge_nil))
  refine WL.call (oc_call (vs := [.agg #[vS bL1 0 nL1 cL1, vI ((iL1 : Nat) : Int)]]) (cap := []) rfl rfl rfl Try.call34 (c_isRingT nL1 cL1 bL1 xL1 iL1 lnL1 (by omega) (by omega) (by exact LBw.mono (by assumption) (by omega)) w13 r14)) rfl rfl (ltb rfl) ?_
  rintro _ w14 ⟨rfl, m14⟩
  refine WL.det (op_not rfl) rfl rfl rfl ?_
  refine WL.det (op_move rfl) rfl rfl rfl ?_
  refine WL.yes rfl rfl rfl (ltb rfl) rfl rfl ?_
  refine WL.det (op_move rfl) rfl rfl rfl ?_
  refine WL.yes rfl rfl rfl (ltb rfl) rfl rfl ?_
  refine WL.det (op_fieldAddr (off' := 17) rfl Try.runUnderlying43 rfl rfl Try.sizeOf41 rfl) rfl rfl rfl ?_
  refine WL.yes rfl rfl rfl (ltb rfl) rfl rfl ?_
  refine WL.det (op_indexArr (off' := 23) rfl rfl Try.runUnderlying41 Try.sizeOf40 (by decide) (by decide) rfl) rfl rfl rfl ?_
  have sz4 := (lT (lT (lT (lT sz2 m8.size) m9.size) m10.size) m11.size)
  have r15 := ((((r10.ext m11).ext m12).mod m13 (nC (lE (lL (lL r1.lt sz4) lR)) nN)).ext m14)
  refine WL.yes rfl rfl rfl (ltb rfl) rfl rfl ?_
  refine WL.det (op_loadA (i := 23) (cs := [vI 1, vF 1056964608, vF 1056964608, vF 0, vF s1, vF 0]) rfl Try.isAgg40 Try.sizeOf40 r15.rng rfl rfl rfl) rfl rfl rfl ?_
  refine WL.yes rfl rfl rfl (ltb rfl) rfl rfl ?_
  refine WL.call (oc_call (vs := [.agg #[vI 1, vF 1056964608, vF 1056964608, vF 0, vF s1, vF 0], vI 1]) (cap := []) rfl rfl rfl Try.call37 (c_isFilterT s1 (by exact Bw.mono (by assumption) (by omega)) w14)) rfl rfl (ltb rfl) ?_
  rintro _ w15 ⟨rfl, m15⟩
  refine WL.yes rfl rfl rfl (ltb rfl) rfl rfl ?_
  refine WL.det (op_not rfl) rfl rfl rfl ?_
  refine WL.det (op_pick_f rfl rfl rfl) rfl rfl rfl ?_
  refine WL.end ?_
  refine NE.code ?_
  refine CE.cond_f rfl rfl ?_
  refine CE.skip' ?_
  refine NE.blk ?_
  refine NE.code ?_
  refine CE.region ?_
  refine WL.det (op_add (r := 2) rfl rfl (by decide)) rfl rfl rfl ?_
  refine WL.det (op_move rfl) rfl rfl rfl ?_
  refine WL.end ?_
  refine NE.round ?_
  refine RN.one ?_
  refine CE.seq ?_
  refine CE.region ?_
  refine WL.det (op_lti rfl rfl) rfl rfl rfl ?_
  refine WL.end ?_
  refine NE.code ?_
  refine CE.seq ?_
  refine CE.cond_t rfl rfl ?_
  refine CE.skip' ?_
  refine NE.code ?_
  refine CE.seq ?_
  refine CE.block ?_
  refine CE.seq ?_
  refine CE.region ?_
  refine WL.det (op_move rfl) rfl rfl rfl ?_
  refine WL.det (op_idxA (cs := [vS bL2 0 nL2 cL2, vI ((iL2 : Nat) : Int)]) rfl rfl Try.runUnderlying36 Try.sizeOf31 Try.isAgg31 (by decide) (by decide) rfl) rfl rfl rfl ?_
  refine WL.op (op_alloc (cs := [.slice none 0 0, vI 0]) Try.zeroValue31 rfl) rfl rfl (ltb rfl) ?_
  rintro _ w16 ⟨rfl, r16, m16, z7⟩
  refine WL.det (op_assign rfl) rfl rfl rfl ?_
  refine WL.op0 (op_store (i := 0) (cs := [vS bL2 0 nL2 cL2, vI ((iL2 : Nat) : Int)]) rfl rfl rfl Try.sizeOf31 rfl r16 rfl (lB rfl) rfl) rfl rfl ?_
  rintro _ w17 ⟨r17, m17, z8⟩
  have r18 : Row w17 w15.heap.size 0 [vS bL2 0 nL2 cL2, vI ((iL2 : Nat) : Int)] := Row.congr r17 rfl
  refine WL.end ?_
  refine NE.code ?_
  refine CE.seq ?_
  refine CE.region ?_
  refine WL.det (op_loadA (i := 0) (cs := [vS bL2 0 nL2 cL2, vI ((iL2 : Nat) : Int)]) rfl Try.isAgg31 Try.sizeOf31 r18.rng rfl rfl rfl) rfl rfl rfl ?_
  have sz5 := (lT (lT (lT (lT sz3 m12.size) m13.size) m14.size) m15.size)
  have r19 := (Rng.youngS rL2 ((((Rng.youngS rL2 ((((Rng.youngS rL2 ((((((((rL2.ext m1).ext m2).ext m3).ext m4).ext m5).ext m6).ext m7).ext m8) m9 (allge_cons (lT sz1 lR) allge_nil)).ext m10).ext m11).ext m12) m13 (allge_cons (lT sz3 lR) allge_nil)).ext m14).ext m15).ext m16) m17 (allge_cons (lT sz5 lR) allge_nil))
  refine WL.call (oc_call (vs := [.agg #[vS bL2 0 nL2 cL2, vI ((iL2 : Nat) : Int)]]) (cap := []) rfl rfl rfl Try.call34 (c_isRingT nL2 cL2 bL2 xL2 iL2 lnL2 (by omega) (by omega) (by exact LBw.mono (by assumption) (by omega)) w17 r19)) rfl rfl (ltb rfl) ?_
  rintro _ w18 ⟨rfl, m18⟩
  refine WL.det (op_not rfl) rfl rfl rfl ?_
  refine WL.det (op_move rfl) rfl rfl rfl ?_
  refine WL.yes rfl rfl rfl (ltb rfl) rfl rfl ?_
  refine WL.det (op_move rfl) rfl rfl rfl ?_
  refine WL.yes rfl rfl rfl (ltb rfl) rfl rfl ?_
  refine WL.det (op_fieldAddr (off' := 17) rfl Try.runUnderlying43 rfl rfl Try.sizeOf41 rfl) rfl rfl rfl ?_
  refine WL.yes rfl rfl rfl (ltb rfl) rfl rfl ?_
  refine WL.det (op_indexArr (off' := 29) rfl rfl Try.runUnderlying41 Try.sizeOf40 (by decide) (by decide) rfl) rfl rfl rfl ?_
  have sz6 := (lT (lT (lT (lT sz4 m12.size) m13.size) m14.size) m15.size)
  have r20 := ((((r15.ext m15).ext m16).mod m17 (nC (lE (lL (lL r1.lt sz6) lR)) nN)).ext m18)
  refine WL.yes rfl rfl rfl (ltb rfl) rfl rfl ?_
  refine WL.det (op_loadA (i := 29) (cs := [vI 1, vF 1056964608, vF 1056964608, vF 0, vF s2, vF 0]) rfl Try.isAgg40 Try.sizeOf40 r20.rng rfl rfl rfl) rfl rfl rfl ?_
  refine WL.yes rfl rfl rfl (ltb rfl) rfl rfl ?_
  refine WL.call (oc_call (vs := [.agg #[vI 1, vF 1056964608, vF 1056964608, vF 0, vF s2, vF 0], vI 1]) (cap := []) rfl rfl rfl Try.call37 (c_isFilterT s2 (by exact Bw.mono (by assumption) (by omega)) w18)) rfl rfl (ltb rfl) ?_
  rintro _ w19 ⟨rfl, m19⟩
  refine WL.yes rfl rfl rfl (ltb rfl) rfl rfl ?_
  refine WL.det (op_not rfl) rfl rfl rfl ?_
  refine WL.det (op_pick_f rfl rfl rfl) rfl rfl rfl ?_
  refine WL.end ?_
  refine NE.code ?_
  refine CE.cond_f rfl rfl ?_
  refine CE.skip' ?_
  refine NE.blk ?_
  refine NE.code ?_
  refine CE.region ?_
  refine WL.det (op_add (r := 3) rfl rfl (by decide)) rfl rfl rfl ?_
  refine WL.det (op_move rfl) rfl rfl rfl ?_
  refine WL.end ?_
  refine NE.round ?_
  refine RN.one ?_
  refine CE.seq ?_
  refine CE.region ?_
  refine WL.det (op_lti rfl rfl) rfl rfl rfl ?_
  refine WL.end ?_
  refine NE.code ?_
  refine CE.seq ?_
  refine CE.cond_t rfl rfl ?_
  refine CE.skip' ?_
  refine NE.code ?_
  refine CE.seq ?_
  refine CE.block ?_
  refine CE.seq ?_
  refine CE.region ?_
  refine WL.det (op_move rfl) rfl rfl rfl ?_
  refine WL.det (op_idxA (cs := [vS bL3 0 nL3 cL3, vI ((iL3 : Nat) : Int)]) rfl rfl Try.runUnderlying36 Try.sizeOf31 Try.isAgg31 (by decide) (by decide) rfl) rfl rfl rfl ?_
  refine WL.op (op_alloc (cs := [.slice none 0 0, vI 0]) Try.zeroValue31 rfl) rfl rfl (ltb rfl) ?_
  rintro _ w20 ⟨rfl, r21, m20, z9⟩
  refine WL.det (op_assign rfl) rfl rfl rfl ?_
  refine WL.op0 (op_store (i := 0) (cs := [vS bL3 0 nL3 cL3, vI ((iL3 : Nat) : Int)]) rfl rfl rfl Try.sizeOf31 rfl r21 rfl (lB rfl) rfl) rfl rfl ?_
  rintro _ w21 ⟨r22, m21, z10⟩
  have r23 : Row w21 w19.heap.size 0 [vS bL3 0 nL3 cL3, vI ((iL3 : Nat) : Int)] := Row.congr r22 rfl
  refine WL.end ?_
  refine NE.code ?_
  refine CE.seq ?_
  refine CE.region ?_
  refine WL.det (op_loadA (i := 0) (cs := [vS bL3 0 nL3 cL3, vI ((iL3 : Nat) : Int)]) rfl Try.isAgg31 Try.sizeOf31 r23.rng rfl rfl rfl) rfl rfl rfl ?_
  have sz7 := (lT (lT (lT (lT sz5 m16.size) m17.size) m18.size) m19.size)
  have r24 := (Rng.youngS rL3 ((((Rng.youngS rL3 ((((Rng.youngS rL3 ((((Rng.youngS rL3 ((((((((rL3.ext m1).ext m2).ext m3).ext m4).ext m5).ext m6).ext m7).ext m8) m9 (allge_cons (lT sz1 lR) allge_nil)).ext m10).ext m11).ext m12) m13 (allge_cons (lT sz3 lR) allge_nil)).ext m14).ext m15).ext m16) m17 (allge_cons (lT sz5 lR) allge_nil)).ext m18).ext m19).ext m20) m21 (allge_cons (lT sz7 lR) allge_nil))
  refine WL.call (oc_call (vs := [.agg #[vS bL3 0 nL3 cL3, vI ((iL3 : Nat) : Int)]]) (cap := []) rfl rfl rfl Try.call34 (c_isRingT nL3 cL3 bL3 xL3 iL3 lnL3 (by omega) (by omega) (by exact LBw.mono (by assumption) (by omega)) w21 r24)) rfl rfl (ltb rfl) ?_
  rintro _ w22 ⟨rfl, m22⟩
  refine WL.det (op_not rfl) rfl rfl rfl ?_
  refine WL.det (op_move rfl) rfl rfl rfl ?_
  refine WL.yes rfl rfl rfl (ltb rfl) rfl rfl ?_
  refine WL.det (op_move rfl) rfl rfl rfl ?_
  refine WL.yes rfl rfl rfl (ltb rfl) rfl rfl ?_
  refine WL.det (op_fieldAddr (off' := 17) rfl Try.runUnderlying43 rfl rfl Try.sizeOf41 rfl) rfl rfl rfl ?_
  refine WL.yes rfl rfl rfl (ltb rfl) rfl rfl ?_
  refine WL.det (op_indexArr (off' := 35) rfl rfl Try.runUnderlying41 Try.sizeOf40 (by decide) (by decide) rfl) rfl rfl rfl ?_
  have sz8 := (lT (lT (lT (lT sz6 m16.size) m17.size) m18.size) m19.size)
  have r25 := ((((r20.ext m19).ext m20).mod m21 (nC (lE (lL (lL r1.lt sz8) lR)) nN)).ext m22)
  refine WL.yes rfl rfl rfl (ltb rfl) rfl rfl ?_
  refine WL.det (op_loadA (i := 35) (cs := [vI 1, vF 1056964608, vF 1056964608, vF 0, vF s3, vF 0]) rfl Try.isAgg40 Try.sizeOf40 r25.rng rfl rfl rfl) rfl rfl rfl ?_
  refine WL.yes rfl rfl rfl (ltb rfl) rfl rfl ?_
  refine WL.call (oc_call (vs := [.agg #[vI 1, vF 1056964608, vF 1056964608, vF 0, vF s3, vF 0], vI 1]) (cap := []) rfl rfl rfl Try.call37 (c_isFilterT s3 (by exact Bw.mono (by assumption) (by omega)) w22)) rfl rfl (ltb rfl) ?_
  rintro _ w23 ⟨rfl, m23⟩
  refine WL.yes rfl rfl rfl (ltb rfl) rfl rfl ?_
  refine WL.det (op_not rfl) rfl rfl rfl ?_
  refine WL.det (op_pick_f rfl rfl rfl) rfl rfl rfl ?_
  refine WL.end ?_
  refine NE.code ?_
  refine CE.cond_f rfl rfl ?_
  refine CE.skip' ?_
  refine NE.blk ?_
  refine NE.code ?_
  refine CE.region ?_
  refine WL.det (op_add (r := 4) rfl rfl (by decide)) rfl rfl rfl ?_
  refine WL.det (op_move rfl) rfl rfl rfl ?_
  refine WL.end ?_
  refine NE.round ?_
  refine RN.one ?_
  refine CE.seq ?_
  refine CE.region ?_
  refine WL.det (op_lti rfl rfl) rfl rfl rfl ?_
  refine WL.end ?_
  refine NE.code ?_
  refine CE.seq ?_
  refine CE.cond_f rfl rfl ?_
  refine CE.exit' ?_
  iterate 2 refine XE.exit_then ?_
  refine XE.exit_here ?_
  refine NE.code ?_
  refine CE.seq ?_
  refine CE.region ?_
  refine WL.det (op_fieldAddr (off' := 2) rfl Try.runUnderlying43 rfl rfl Try.sizeOf32 rfl) rfl rfl rfl ?_
  refine WL.det (op_load1 (i := 2) rfl Try.isAgg32 (r25.ext m23).rng rfl rfl) rfl rfl rfl ?_
  refine WL.det (op_makeFunc (vs := []) (us := [vP w.heap.size 0]) rfl rfl) rfl rfl rfl ?_
  refine WL.call (oc_call (vs := [.slice none 0 0, .func (.func 39) #[] #[vP w.heap.size 0]]) (cap := []) rfl rfl rfl Try.call38 (c_containsTap w.heap.size w23)) rfl rfl (ltb rfl) ?_
  rintro _ w24 ⟨rfl, m24⟩
  refine WL.det (op_not rfl) rfl rfl rfl ?_
  refine WL.det (op_assign rfl) rfl rfl rfl ?_
  refine WL.end ?_
  refine NE.code ?_
  refine CE.ret' ?_
  refine XE.leave1 Try.results26 rfl ?_
  refine ⟨rfl, (((((((((((((((((((((((((Mod.refl [] w).nt m1).nt m2).nt m3).nt m4).nt m5).nt m6).nt m7).nt m8).then m9 ((aC (.inr (lT sz1 lR)) aN))).nt m10).nt m11).nt m12).then m13 ((aC (.inr (lT sz3 lR)) aN))).nt m14).nt m15).nt m16).then m17 ((aC (.inr (lT sz5 lR)) aN))).nt m18).nt m19).nt m20).then m21 ((aC (.inr (lT sz7 lR)) aN))).nt m22).nt m23).nt m24)⟩

end Go.Proofs.Ytemnjphnhmbddaa
