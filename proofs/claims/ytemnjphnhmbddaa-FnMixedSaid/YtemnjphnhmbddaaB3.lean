/- What the functions on filters compute. -/
import Derived.Test.YtemnjphnhmbddaaB2
set_option linter.unusedVariables false
set_option linter.unusedSimpArgs false
namespace Go.Proofs.Ytemnjphnhmbddaa

/-- how many numbers of C and of S a kind of filter has -/
def usesC (kd : Int) : Nat := if kd = 1 ∨ kd = 2 then 2 else if kd = 3 ∨ kd = 5 then 1 else if kd = 4 then 3 else 0
def usesS (kd : Int) : Nat := if kd = 1 ∨ kd = 2 then 1 else if kd = 3 ∨ kd = 5 then 2 else if kd = 4 then 2 else 0
def vFil (kd : Int) (c0 c1 c2 s0 s1 : Nat) : Bool := decide (1 ≤ kd ∧ kd ≤ 5) && (usedF [c0, c1, c2] (usesC kd) 3 && usedF [s0, s1] (usesS kd) 2)
theorem usesC_pos (kd : Int) : 0 < usesC kd ↔ 1 ≤ kd ∧ kd ≤ 5 := by
  unfold usesC
  by_cases h1 : kd = 1 ∨ kd = 2
  · simp [h1]; omega
  · by_cases h2 : kd = 3 ∨ kd = 5
    · simp [h1, h2]; omega
    · by_cases h3 : kd = 4
      · simp [h3]
      · simp [h1, h2, h3]; omega
theorem vFil_eq (kd : Int) (c0 c1 c2 s0 s1 : Nat) : vFil kd c0 c1 c2 s0 s1 = (decide (0 < usesC kd) && (usedF [c0, c1, c2] (usesC kd) 3 && usedF [s0, s1] (usesS kd) 2)) := by
  unfold vFil
  congr 1
  exact decide_eq_decide.2 (usesC_pos kd).symm
/-- what a filter makes of a sample, and its two numbers of state then -/
def stepY (kd : Int) (c0 c1 c2 s0 s1 x : Nat) : Nat :=
  if kd = 1 then fop .add .f32 (fop .mul .f32 c0 x) (fop .mul .f32 c1 s0)
  else if kd = 2 then fop .add .f32 (fop .mul .f32 c0 x) (fop .mul .f32 c1 s0)
  else if kd = 3 then fop .add .f32 (fop .mul .f32 c0 (fop .sub .f32 x s1)) s0
  else if kd = 4 then fop .sub .f32 (fop .sub .f32 (fop .mul .f32 c0 x) (fop .mul .f32 c1 s0)) (fop .mul .f32 c2 s1)
  else fop .add .f32 (fop .sub .f32 x s0) (fop .mul .f32 c0 s1)
def stepS (kd : Int) (c0 c1 c2 s0 s1 x : Nat) : Nat :=
  if kd = 1 then keptF (stepY kd c0 c1 c2 s0 s1 x) else if kd = 2 then keptF x else if kd = 3 then keptF x else if kd = 4 then keptF (stepY kd c0 c1 c2 s0 s1 x) else keptF x
def stepT (kd : Int) (c0 c1 c2 s0 s1 x : Nat) : Nat :=
  if kd = 1 then s1 else if kd = 2 then s1 else if kd = 3 then keptF (stepY kd c0 c1 c2 s0 s1 x) else if kd = 4 then keptF s0 else keptF (stepY kd c0 c1 c2 s0 s1 x)

set_option maxRecDepth 100000 in
set_option maxHeartbeats 2000000 in
theorem c_uses (kd : Int) (w : World) : Cl Try.prog 59 #[vI kd] w fun v w' => v = .tuple #[vI (((usesC kd) : Nat) : Int), vI (((usesS kd) : Nat) : Int)] ∧ w = w' := by
  refine Cl.of Try.func59 Try.ntmps59 rfl rfl (ρ := [(0, vI kd)]) rfl ?_
  refine CE.seq ?_
  refine CE.region ?_
  refine WL.det (op_assign rfl) rfl rfl rfl ?_
  refine WL.det (op_assign rfl) rfl rfl rfl ?_
  refine WL.end ?_
  refine NE.code ?_
  refine CE.seq ?_
  refine CE.seq ?_
  refine CE.region ?_
  refine WL.det (op_move rfl) rfl rfl rfl ?_
  refine WL.end ?_
  refine NE.code ?_
  refine CE.block ?_
  refine CE.seq ?_
  refine CE.seq ?_
  refine CE.region ?_
  refine WL.det (op_eqi rfl rfl) rfl rfl rfl ?_
  refine WL.det (op_assign rfl) rfl rfl rfl ?_
  refine WL.end ?_
  refine NE.code ?_
  rcases Bool.eq_false_or_eq_true ((kd == (1 : Int))) with hb1 | hb1
  · have hp1 := eq_of_beq hb1
    refine CE.cond_t rfl hb1 ?_
    refine CE.skip' ?_
    refine NE.code ?_
    refine CE.cond_t rfl hb1 ?_
    refine CE.seq ?_
    refine CE.region ?_
    refine WL.det (op_assign rfl) rfl rfl rfl ?_
    refine WL.det (op_assign rfl) rfl rfl rfl ?_
    refine WL.end ?_
    refine NE.code ?_
    refine CE.ret' ?_
    refine XE.ret_blk ?_
    refine XE.ret_then ?_
    refine XE.leaveT Try.results59 (res_tmp rfl (res_tmp rfl res_nil)) ?_
    refine ⟨?_, rfl⟩
    all_goals simp_all [usesC, usesS]
  · have hp1 := ne_of_beq_false hb1
    refine CE.cond_f rfl hb1 ?_
    refine CE.region ?_
    refine WL.det (op_eqi rfl rfl) rfl rfl rfl ?_
    refine WL.det (op_assign rfl) rfl rfl rfl ?_
    refine WL.end ?_
    refine NE.code ?_
    rcases Bool.eq_false_or_eq_true ((kd == (2 : Int))) with hb2 | hb2
    · have hp2 := eq_of_beq hb2
      refine CE.cond_t rfl hb2 ?_
      refine CE.seq ?_
      refine CE.region ?_
      refine WL.det (op_assign rfl) rfl rfl rfl ?_
      refine WL.det (op_assign rfl) rfl rfl rfl ?_
      refine WL.end ?_
      refine NE.code ?_
      refine CE.ret' ?_
      refine XE.ret_blk ?_
      refine XE.ret_then ?_
      refine XE.leaveT Try.results59 (res_tmp rfl (res_tmp rfl res_nil)) ?_
      refine ⟨?_, rfl⟩
      all_goals simp_all [usesC, usesS]
    · have hp2 := ne_of_beq_false hb2
      refine CE.cond_f rfl hb2 ?_
      refine CE.seq ?_
      refine CE.seq ?_
      refine CE.region ?_
      refine WL.det (op_eqi rfl rfl) rfl rfl rfl ?_
      refine WL.det (op_assign rfl) rfl rfl rfl ?_
      refine WL.end ?_
      refine NE.code ?_
      rcases Bool.eq_false_or_eq_true ((kd == (3 : Int))) with hb3 | hb3
      · have hp3 := eq_of_beq hb3
        refine CE.cond_t rfl hb3 ?_
        refine CE.skip' ?_
        refine NE.code ?_
        refine CE.cond_t rfl hb3 ?_
        refine CE.seq ?_
        refine CE.region ?_
        refine WL.det (op_assign rfl) rfl rfl rfl ?_
        refine WL.det (op_assign rfl) rfl rfl rfl ?_
        refine WL.end ?_
        refine NE.code ?_
        refine CE.ret' ?_
        refine XE.ret_blk ?_
        refine XE.ret_then ?_
        refine XE.leaveT Try.results59 (res_tmp rfl (res_tmp rfl res_nil)) ?_
        refine ⟨?_, rfl⟩
        all_goals simp_all [usesC, usesS]
      · have hp3 := ne_of_beq_false hb3
        refine CE.cond_f rfl hb3 ?_
        refine CE.region ?_
        refine WL.det (op_eqi rfl rfl) rfl rfl rfl ?_
        refine WL.det (op_assign rfl) rfl rfl rfl ?_
        refine WL.end ?_
        refine NE.code ?_
        rcases Bool.eq_false_or_eq_true ((kd == (5 : Int))) with hb4 | hb4
        · have hp4 := eq_of_beq hb4
          refine CE.cond_t rfl hb4 ?_
          refine CE.seq ?_
          refine CE.region ?_
          refine WL.det (op_assign rfl) rfl rfl rfl ?_
          refine WL.det (op_assign rfl) rfl rfl rfl ?_
          refine WL.end ?_
          refine NE.code ?_
          refine CE.ret' ?_
          refine XE.ret_blk ?_
          refine XE.ret_then ?_
          refine XE.leaveT Try.results59 (res_tmp rfl (res_tmp rfl res_nil)) ?_
          refine ⟨?_, rfl⟩
          all_goals simp_all [usesC, usesS]
        · have hp4 := ne_of_beq_false hb4
          refine CE.cond_f rfl hb4 ?_
          refine CE.seq ?_
          refine CE.region ?_
          refine WL.det (op_eqi rfl rfl) rfl rfl rfl ?_
          refine WL.det (op_assign rfl) rfl rfl rfl ?_
          refine WL.end ?_
          refine NE.code ?_
          rcases Bool.eq_false_or_eq_true ((kd == (4 : Int))) with hb5 | hb5
          · have hp5 := eq_of_beq hb5
            refine CE.cond_t rfl hb5 ?_
            refine CE.seq ?_
            refine CE.region ?_
            refine WL.det (op_assign rfl) rfl rfl rfl ?_
            refine WL.det (op_assign rfl) rfl rfl rfl ?_
            refine WL.end ?_
            refine NE.code ?_
            refine CE.ret' ?_
            refine XE.ret_blk ?_
            refine XE.ret_then ?_
            refine XE.leaveT Try.results59 (res_tmp rfl (res_tmp rfl res_nil)) ?_
            refine ⟨?_, rfl⟩
            all_goals simp_all [usesC, usesS]
          · have hp5 := ne_of_beq_false hb5
            refine CE.cond_f rfl hb5 ?_
            refine CE.skip' ?_
            refine NE.blk ?_
            refine NE.code ?_
            refine CE.seq ?_
            refine CE.region ?_
            refine WL.det (op_assign rfl) rfl rfl rfl ?_
            refine WL.det (op_assign rfl) rfl rfl rfl ?_
            refine WL.end ?_
            refine NE.code ?_
            refine CE.ret' ?_
            refine XE.leaveT Try.results59 (res_tmp rfl (res_tmp rfl res_nil)) ?_
            refine ⟨?_, rfl⟩
            all_goals simp_all [usesC, usesS]

set_option maxRecDepth 100000 in
set_option maxHeartbeats 2000000 in
theorem c_isUsed (n : Nat) (c : Nat) (b : Nat) (o : Nat) (xs : List Nat) (k : Nat) (ln : xs.length = n) (hn : n ≤ 1048576) (w : World) (r : Rng w b o (fl xs)) : Cl Try.prog 60 #[vS b o n c, vI ((k : Nat) : Int)] w fun v w' => v = .bool (usedF xs k n) ∧ Mod [] w w' := by
  refine Cl.of Try.func60 Try.ntmps60 rfl rfl (ρ := [(0, vS b o n c), (1, vI ((k : Nat) : Int))]) rfl ?_
  refine CE.seq ?_
  refine CE.region ?_
  refine WL.det (op_assign rfl) rfl rfl rfl ?_
  refine WL.end ?_
  refine NE.code ?_
  refine CE.seq ?_
  refine CE.seq ?_
  refine CE.region ?_
  refine WL.det (op_move rfl) rfl rfl rfl ?_
  refine WL.det (op_len rfl Try.runUnderlying29) rfl rfl rfl ?_
  refine WL.det (op_move rfl) rfl rfl rfl ?_
  refine WL.end ?_
  refine NE.code ?_
  refine CE.block ?_
  refine CE.loop (fun (i : Nat) => [(9, vI ((i : Nat) : Int)), (1, vI ((k : Nat) : Int)), (4, .bool false), (7, vS b o n c), (8, vI ((n : Nat) : Int))]) (fun (i : Nat) => fun W => (i ≤ n) ∧ (usedF xs k i = true) ∧ Mod [] w W) (fun (i : Nat) => n - i) 0 (⟨rfl, rfl, rfl, rfl, rfl, trivial⟩) ⟨(by omega), (by rfl), Mod.refl _ _⟩ ?_
  rintro i w1 ⟨hi, hu, m1⟩
  show CE _ _ _ _ [(9, vI ((i : Nat) : Int)), (1, vI ((k : Nat) : Int)), (4, .bool false), (7, vS b o n c), (8, vI ((n : Nat) : Int))] _
  refine CE.seq ?_
  refine CE.region ?_
  refine WL.det (op_lti rfl rfl) rfl rfl rfl ?_
  refine WL.end ?_
  refine NE.code ?_
  refine CE.seq ?_
  rcases Bool.eq_false_or_eq_true (decide (((i : Nat) : Int) < ((n : Nat) : Int))) with hb1 | hb1
  · have hp1 := of_decide_eq_true hb1
    refine CE.cond_t rfl hb1 ?_
    refine CE.skip' ?_
    refine NE.code ?_
    refine CE.seq ?_
    refine CE.block ?_
    refine CE.seq ?_
    refine CE.region ?_
    refine WL.det (op_move rfl) rfl rfl rfl ?_
    refine WL.det (op_indexSl (off' := o + i) rfl rfl rfl Try.runUnderlying29 Try.sizeOf24 (by omega) (by omega) (by omega)) rfl rfl rfl ?_
    refine WL.det (op_load1 (i := i) rfl Try.isAgg24 (r.ext m1) rfl (fl_get (by have eL : List.length xs = n := ln; omega))) rfl rfl rfl ?_
    refine WL.det (op_assign rfl) rfl rfl rfl ?_
    refine WL.det (op_assign rfl) rfl rfl rfl ?_
    refine WL.end ?_
    refine NE.code ?_
    refine CE.seq ?_
    refine CE.region ?_
    refine WL.det (op_move rfl) rfl rfl rfl ?_
    refine WL.call (oc_call (vs := [vF (xs.getD i 0)]) (cap := []) rfl rfl rfl Try.call20 (c_isFinite (xs.getD i 0) (xs.getD i 0) rfl w1)) rfl rfl (ltb rfl) ?_
    rintro _ w2 ⟨rfl, m2⟩
    refine WL.det (op_not rfl) rfl rfl rfl ?_
    refine WL.det (op_move rfl) rfl rfl rfl ?_
    rcases Bool.eq_false_or_eq_true (finF (xs.getD i 0)) with hb2 | hb2
    · refine WL.yes rfl rfl rfl (ltb rfl) rfl (bnot_t hb2) ?_
      refine WL.det (op_move rfl) rfl rfl rfl ?_
      refine WL.yes rfl rfl rfl (ltb rfl) rfl (bnot_t hb2) ?_
      refine WL.det (op_move rfl) rfl rfl rfl ?_
      refine WL.yes rfl rfl rfl (ltb rfl) rfl (bnot_t hb2) ?_
      refine WL.det (op_gei rfl rfl) rfl rfl rfl ?_
      refine WL.yes rfl rfl rfl (ltb rfl) rfl (bnot_t hb2) ?_
      refine WL.det (op_move rfl) rfl rfl rfl ?_
      rcases Bool.eq_false_or_eq_true (decide (((k : Nat) : Int) ≤ ((i : Nat) : Int))) with hb3 | hb3
      · have hp3 := of_decide_eq_true hb3
        refine WL.yes rfl rfl rfl (ltb rfl) rfl hb3 ?_
        refine WL.det (op_move rfl) rfl rfl rfl ?_
        refine WL.yes rfl rfl rfl (ltb rfl) rfl hb3 ?_
        refine WL.call (oc_call (vs := [vF (xs.getD i 0)]) (cap := []) rfl rfl rfl Try.call62 (c_bitsOf (xs.getD i 0) (xs.getD i 0) rfl w2)) rfl rfl (ltb rfl) ?_
        rintro _ _ ⟨rfl, rfl⟩
        refine WL.yes rfl rfl rfl (ltb rfl) rfl hb3 ?_
        refine WL.det (op_nei rfl rfl) rfl rfl rfl ?_
        refine WL.yes rfl rfl rfl (ltb rfl) rfl (bnot_t hb2) ?_
        refine WL.det (op_pick_t rfl hb3 rfl) rfl rfl rfl ?_
        refine WL.det (op_pick_f rfl (bnot_t hb2) rfl) rfl rfl rfl ?_
        refine WL.end ?_
        refine NE.code ?_
        rcases Bool.eq_false_or_eq_true ((((cn .f32 (xs.getD i 0) : Nat) : Int) != (0 : Int))) with hb4 | hb4
        · have hp4 := bne_iff_ne.1 hb4
          refine CE.cond_t rfl hb4 ?_
          refine CE.seq ?_
          refine CE.region ?_
          refine WL.det (op_assign rfl) rfl rfl rfl ?_
          refine WL.end ?_
          refine NE.code ?_
          refine CE.ret' ?_
          refine XE.ret_blk ?_
          refine XE.ret_then ?_
          refine XE.ret_then ?_
          refine XE.ret_blk ?_
          refine XE.ret_then ?_
          refine XE.leave1 Try.results60 rfl ?_
          refine ⟨?_, (((Mod.refl [] w).nt m1).nt m2)⟩
          all_goals first | (have e : i = n := (by omega); subst e; rw [hu]; done) | (rw [usedF_out (i := i) (by omega) (by simp_all [okF, cn_zero])])
        · have hp4 := bne_eq_false_iff_eq.1 hb4
          refine CE.cond_f rfl hb4 ?_
          refine CE.skip' ?_
          refine NE.blk ?_
          refine NE.code ?_
          refine CE.region ?_
          refine WL.det (op_add (r := ((i + 1 : Nat) : Int)) rfl rfl (w_i64 (by omega) (by omega))) rfl rfl rfl ?_
          refine WL.det (op_move rfl) rfl rfl rfl ?_
          refine WL.end ?_
          exact NE.again (i + 1) (⟨rfl, rfl, rfl, rfl, rfl, trivial⟩) ⟨(by omega), (by exact usedF_step hu (by simp_all [okF, cn_zero])), (m1.nt m2)⟩ (by first | (dsimp only; omega) | omega)
      · have hp3 := of_decide_eq_false hb3
        refine WL.no rfl rfl rfl (ltb rfl) rfl hb3 rfl (ltb rfl) ?_
        refine WL.no rfl rfl rfl (ltb rfl) rfl hb3 rfl (ltb rfl) ?_
        refine WL.no rfl rfl rfl (ltb rfl) rfl hb3 rfl (ltb rfl) ?_
        refine WL.yes rfl rfl rfl (ltb rfl) rfl (bnot_t hb2) ?_
        refine WL.det (op_pick_f rfl hb3 rfl) rfl rfl rfl ?_
        refine WL.det (op_pick_f rfl (bnot_t hb2) rfl) rfl rfl rfl ?_
        refine WL.end ?_
        refine NE.code ?_
        refine CE.cond_f rfl rfl ?_
        refine CE.skip' ?_
        refine NE.blk ?_
        refine NE.code ?_
        refine CE.region ?_
        refine WL.det (op_add (r := ((i + 1 : Nat) : Int)) rfl rfl (w_i64 (by omega) (by omega))) rfl rfl rfl ?_
        refine WL.det (op_move rfl) rfl rfl rfl ?_
        refine WL.end ?_
        exact NE.again (i + 1) (⟨rfl, rfl, rfl, rfl, rfl, trivial⟩) ⟨(by omega), (by exact usedF_step hu (by simp_all [okF, cn_zero])), (m1.nt m2)⟩ (by first | (dsimp only; omega) | omega)
    · refine WL.no rfl rfl rfl (ltb rfl) rfl (bnot_f hb2) rfl (ltb rfl) ?_
      refine WL.no rfl rfl rfl (ltb rfl) rfl (bnot_f hb2) rfl (ltb rfl) ?_
      refine WL.no rfl rfl rfl (ltb rfl) rfl (bnot_f hb2) rfl (ltb rfl) ?_
      refine WL.no rfl rfl rfl (ltb rfl) rfl (bnot_f hb2) rfl (ltb rfl) ?_
      refine WL.nou rfl rfl rfl (ltb rfl) rfl rfl (ltb rfl) ?_
      refine WL.nou rfl rfl rfl (ltb rfl) rfl rfl (ltb rfl) ?_
      refine WL.nou rfl rfl rfl (ltb rfl) rfl rfl (ltb rfl) ?_
      refine WL.no rfl rfl rfl (ltb rfl) rfl (bnot_f hb2) rfl (ltb rfl) ?_
      refine WL.det (op_pick_t rfl (bnot_f hb2) rfl) rfl rfl rfl ?_
      refine WL.end ?_
      refine NE.code ?_
      refine CE.cond_t rfl rfl ?_
      refine CE.seq ?_
      refine CE.region ?_
      refine WL.det (op_assign rfl) rfl rfl rfl ?_
      refine WL.end ?_
      refine NE.code ?_
      refine CE.ret' ?_
      refine XE.ret_blk ?_
      refine XE.ret_then ?_
      refine XE.ret_then ?_
      refine XE.ret_blk ?_
      refine XE.ret_then ?_
      refine XE.leave1 Try.results60 rfl ?_
      refine ⟨?_, (((Mod.refl [] w).nt m1).nt m2)⟩
      all_goals first | (have e : i = n := (by omega); subst e; rw [hu]; done) | (rw [usedF_out (i := i) (by omega) (by simp_all [okF, cn_zero])])
  · have hp1 := of_decide_eq_false hb1
    refine CE.cond_f rfl hb1 ?_
    refine CE.exit' ?_
    refine XE.exit_then ?_
    refine XE.exit_then ?_
    refine XE.exit_here ?_
    refine NE.code ?_
    refine CE.seq ?_
    refine CE.region ?_
    refine WL.det (op_assign rfl) rfl rfl rfl ?_
    refine WL.end ?_
    refine NE.code ?_
    refine CE.ret' ?_
    refine XE.leave1 Try.results60 rfl ?_
    refine ⟨?_, ((Mod.refl [] w).nt m1)⟩
    all_goals first | (have e : i = n := (by omega); subst e; rw [hu]; done) | (rw [usedF_out (i := i) (by omega) (by simp_all [okF, cn_zero])])

set_option maxRecDepth 100000 in
set_option maxHeartbeats 2000000 in
theorem c_ValidFilter (kd : Int) (c0 : Nat) (c1 : Nat) (c2 : Nat) (s0 : Nat) (s1 : Nat) (w : World) : Cl Try.prog 53 #[.agg #[vI kd, vF c0, vF c1, vF c2, vF s0, vF s1]] w fun v w' => v = .bool (vFil kd c0 c1 c2 s0 s1) ∧ Mod [] w w' := by
  refine Cl.of Try.func53 Try.ntmps53 rfl rfl (ρ := [(0, .agg #[vI kd, vF c0, vF c1, vF c2, vF s0, vF s1])]) rfl ?_
  refine CE.seq ?_
  refine CE.region ?_
  refine WL.op (op_box (cs := [vI kd, vF c0, vF c1, vF c2, vF s0, vF s1]) rfl rfl) rfl rfl (ltb rfl) ?_
  rintro _ w1 ⟨rfl, r1, m1, z1⟩
  refine WL.det (op_assign rfl) rfl rfl rfl ?_
  refine WL.end ?_
  refine NE.code ?_
  refine CE.seq ?_
  refine CE.region ?_
  refine WL.det (op_fieldAddr (off' := 0) rfl Try.runUnderlying40 rfl rfl Try.sizeOf2 rfl) rfl rfl rfl ?_
  refine WL.det (op_load1 (i := 0) rfl Try.isAgg2 r1.rng rfl rfl) rfl rfl rfl ?_
  refine WL.call (oc_call (vs := [vI kd]) (cap := []) rfl rfl rfl Try.call59 (c_uses kd w1)) rfl rfl (ltb rfl) ?_
  rintro _ _ ⟨rfl, rfl⟩
  refine WL.det (op_move rfl) rfl rfl rfl ?_
  refine WL.det (op_extract rfl rfl) rfl rfl rfl ?_
  refine WL.det (op_extract rfl rfl) rfl rfl rfl ?_
  refine WL.det (op_assign rfl) rfl rfl rfl ?_
  refine WL.det (op_assign rfl) rfl rfl rfl ?_
  refine WL.end ?_
  refine NE.code ?_
  refine CE.seq ?_
  refine CE.region ?_
  refine WL.det (op_move rfl) rfl rfl rfl ?_
  refine WL.det (op_gti rfl rfl) rfl rfl rfl ?_
  refine WL.det (op_move rfl) rfl rfl rfl ?_
  rcases Bool.eq_false_or_eq_true (decide ((0 : Int) < (((usesC kd) : Nat) : Int))) with hb1 | hb1
  · have hp1 := of_decide_eq_true hb1
    refine WL.yes rfl rfl rfl (ltb rfl) rfl hb1 ?_
    refine WL.det (op_fieldAddr (off' := 1) rfl Try.runUnderlying40 rfl rfl Try.sizeOf37 rfl) rfl rfl rfl ?_
    refine WL.yes rfl rfl rfl (ltb rfl) rfl hb1 ?_
    refine WL.det (op_sliceArr rfl Try.runUnderlying37 Try.sizeOf24) rfl rfl rfl ?_
    refine WL.yes rfl rfl rfl (ltb rfl) rfl hb1 ?_
    refine WL.det (op_move rfl) rfl rfl rfl ?_
    refine WL.yes rfl rfl rfl (ltb rfl) rfl hb1 ?_
    refine WL.call (oc_call (vs := [vS w.heap.size 1 3 3, vI (((usesC kd) : Nat) : Int)]) (cap := []) rfl rfl rfl Try.call60 (c_isUsed 3 3 w.heap.size 1 [c0, c1, c2] (usesC kd) rfl (by omega) w1 ((r1.rng.drop 1).take 3))) rfl rfl (ltb rfl) ?_
    rintro _ w2 ⟨rfl, m2⟩
    refine WL.det (op_pick_t rfl hb1 rfl) rfl rfl rfl ?_
    refine WL.det (op_move rfl) rfl rfl rfl ?_
    rcases Bool.eq_false_or_eq_true (usedF [c0, c1, c2] (usesC kd) 3) with hb2 | hb2
    · refine WL.yes rfl rfl rfl (ltb rfl) rfl hb2 ?_
      refine WL.det (op_fieldAddr (off' := 4) rfl Try.runUnderlying40 rfl rfl Try.sizeOf38 rfl) rfl rfl rfl ?_
      refine WL.yes rfl rfl rfl (ltb rfl) rfl hb2 ?_
      refine WL.det (op_sliceArr rfl Try.runUnderlying38 Try.sizeOf24) rfl rfl rfl ?_
      refine WL.yes rfl rfl rfl (ltb rfl) rfl hb2 ?_
      refine WL.det (op_move rfl) rfl rfl rfl ?_
      refine WL.yes rfl rfl rfl (ltb rfl) rfl hb2 ?_
      refine WL.call (oc_call (vs := [vS w.heap.size 4 2 2, vI (((usesS kd) : Nat) : Int)]) (cap := []) rfl rfl rfl Try.call60 (c_isUsed 2 2 w.heap.size 4 [s0, s1] (usesS kd) rfl (by omega) w2 (((r1.ext m2).rng.drop 4).take 2))) rfl rfl (ltb rfl) ?_
      rintro _ w3 ⟨rfl, m3⟩
      refine WL.det (op_pick_t rfl hb2 rfl) rfl rfl rfl ?_
      refine WL.det (op_assign rfl) rfl rfl rfl ?_
      refine WL.end ?_
      refine NE.code ?_
      refine CE.ret' ?_
      refine XE.leave1 Try.results53 rfl ?_
      refine ⟨?_, ((((Mod.refl [] w).nt m1).nt m2).nt m3)⟩
      all_goals simp_all [vFil_eq]
    · refine WL.no rfl rfl rfl (ltb rfl) rfl hb2 rfl (ltb rfl) ?_
      refine WL.no rfl rfl rfl (ltb rfl) rfl hb2 rfl (ltb rfl) ?_
      refine WL.no rfl rfl rfl (ltb rfl) rfl hb2 rfl (ltb rfl) ?_
      refine WL.no rfl rfl rfl (ltb rfl) rfl hb2 rfl (ltb rfl) ?_
      refine WL.det (op_pick_f rfl hb2 rfl) rfl rfl rfl ?_
      refine WL.det (op_assign rfl) rfl rfl rfl ?_
      refine WL.end ?_
      refine NE.code ?_
      refine CE.ret' ?_
      refine XE.leave1 Try.results53 rfl ?_
      refine ⟨?_, (((Mod.refl [] w).nt m1).nt m2)⟩
      all_goals simp_all [vFil_eq]
  · have hp1 := of_decide_eq_false hb1
    refine WL.no rfl rfl rfl (ltb rfl) rfl hb1 rfl (ltb rfl) ?_
    refine WL.no rfl rfl rfl (ltb rfl) rfl hb1 rfl (ltb rfl) ?_
    refine WL.no rfl rfl rfl (ltb rfl) rfl hb1 rfl (ltb rfl) ?_
    refine WL.no rfl rfl rfl (ltb rfl) rfl hb1 rfl (ltb rfl) ?_
    refine WL.det (op_pick_f rfl hb1 rfl) rfl rfl rfl ?_
    refine WL.det (op_move rfl) rfl rfl rfl ?_
    refine WL.no rfl rfl rfl (ltb rfl) rfl rfl rfl (ltb rfl) ?_
    refine WL.no rfl rfl rfl (ltb rfl) rfl rfl rfl (ltb rfl) ?_
    refine WL.no rfl rfl rfl (ltb rfl) rfl rfl rfl (ltb rfl) ?_
    refine WL.no rfl rfl rfl (ltb rfl) rfl rfl rfl (ltb rfl) ?_
    refine WL.det (op_pick_f rfl rfl rfl) rfl rfl rfl ?_
    refine WL.det (op_assign rfl) rfl rfl rfl ?_
    refine WL.end ?_
    refine NE.code ?_
    refine CE.ret' ?_
    refine XE.leave1 Try.results53 rfl ?_
    refine ⟨?_, ((Mod.refl [] w).nt m1)⟩
    all_goals simp_all [vFil_eq]

set_option maxRecDepth 100000 in
set_option maxHeartbeats 2000000 in
theorem c_fstep (kd : Int) (c0 : Nat) (c1 : Nat) (c2 : Nat) (s0 : Nat) (s1 : Nat) (p : Nat) (k : Nat) (vs : List Value) (a : Nat) (x : Nat) (l0 : s0 < wid .f32) (l1 : s1 < wid .f32) (hk : k + 6 ≤ vs.length) (ha : cn .f32 a = cn .f32 x) (la : a < wid .f32) (w : World) (r : Row w p 0 (splice vs k [vI kd, vF c0, vF c1, vF c2, vF s0, vF s1])) : Cl Try.prog 49 #[vP p k, vF a] w fun v w' => ∃ (y : Nat), v = vF y ∧ (cn .f32 y = cn .f32 (stepY kd c0 c1 c2 s0 s1 x)) ∧ (y < wid .f32) ∧ (stepS kd c0 c1 c2 s0 s1 x < wid .f32) ∧ (stepT kd c0 c1 c2 s0 s1 x < wid .f32) ∧ Row w' p 0 (splice vs k [vI kd, vF c0, vF c1, vF c2, vF (stepS kd c0 c1 c2 s0 s1 x), vF (stepT kd c0 c1 c2 s0 s1 x)]) ∧ Mod [p] w w' := by
  refine Cl.of Try.func49 Try.ntmps49 rfl rfl (ρ := [(0, vP p k), (1, vF a)]) rfl ?_
  refine CE.seq ?_
  refine CE.region ?_
  refine WL.det (op_assign rfl) rfl rfl rfl ?_
  refine WL.end ?_
  refine NE.code ?_
  refine CE.seq ?_
  refine CE.draw (fun _ => none) [0, 1, 2, 3, 4, 5, 6, 7, 8, 9, 10] [11] [] (by kernel_rfl) (by kernel_rfl) ?_
  have md1 : Mod [] w w.drew := (Mod.refl _ _).drew
  generalize w.drew = w1 at md1 ⊢
  refine DR.det (i := 0) rfl rfl (by kernel_rfl) (.free rfl) rfl rfl (fun wD mD => op_move rfl) ?_
  refine DR.det (i := 1) rfl rfl (by kernel_rfl) (.free rfl) rfl rfl (fun wD mD => op_nilCheck rfl) ?_
  refine DR.det (i := 2) rfl rfl (by kernel_rfl) (.free rfl) rfl rfl (fun wD mD => op_fieldAddr (off' := k + 1) rfl Try.runUnderlying40 rfl rfl Try.sizeOf37 rfl) ?_
  refine DR.det (i := 3) rfl rfl (by kernel_rfl) (.free rfl) rfl rfl (fun wD mD => op_loadA (i := k + 1) (cs := [vF c0, vF c1, vF c2]) rfl Try.isAgg37 Try.sizeOf37 ((r.ext md1).ext mD).rng (Nat.zero_add _) (sub_take (i := 1) hk (lB rfl) rfl) rfl) ?_
  refine DR.det (i := 4) rfl rfl (by kernel_rfl) (.free rfl) rfl rfl (fun wD mD => op_move rfl) ?_
  refine DR.det (i := 5) rfl rfl (by kernel_rfl) (.free rfl) rfl rfl (fun wD mD => op_nilCheck rfl) ?_
  refine DR.det (i := 6) rfl rfl (by kernel_rfl) (.free rfl) rfl rfl (fun wD mD => op_fieldAddr (off' := k + 4) rfl Try.runUnderlying40 rfl rfl Try.sizeOf38 rfl) ?_
  refine DR.det (i := 7) rfl rfl (by kernel_rfl) (.free rfl) rfl rfl (fun wD mD => op_loadA (i := k + 4) (cs := [vF s0, vF s1]) rfl Try.isAgg38 Try.sizeOf38 ((r.ext md1).ext mD).rng (Nat.zero_add _) (sub_take (i := 4) hk (lB rfl) rfl) rfl) ?_
  refine DR.two (i := 8) (j := 9) rfl rfl rfl rfl (by kernel_rfl) (by kernel_rfl) (by kernel_rfl) (by decide) (by decide) rfl rfl rfl rfl (ltb rfl) (ltb rfl) (fun _ _ => op_alloc (cs := [vF 0, vF 0, vF 0]) Try.zeroValue37 rfl) (fun _ _ => op_alloc (cs := [vF 0, vF 0]) Try.zeroValue38 rfl) ?_
  intro b1 b2 w2 r1 r2 ge1 ge2 ne1 m1
  refine DR.st1 (i := 10) rfl rfl (by kernel_rfl) (.free rfl) rfl ?_
  intro w3 m2
  refine Op1.mono (op_store (i := 0) (cs := [vF c0, vF c1, vF c2]) rfl rfl rfl Try.sizeOf37 rfl (r1.ext m2) rfl (lB rfl) rfl) ?_
  rintro _ w4 ⟨r3, m3, z1⟩
  have r4 : Row w4 b1 0 [vF c0, vF c1, vF c2] := Row.congr r3 rfl
  refine ⟨((((Mod.refl [] w1).nt m1).nt m2).then m3 ((aC (.inr ge1) aN))), ?_⟩
  refine DR.done rfl ?_
  intro w5 m4
  refine WO.op0 rfl (.free rfl) rfl (op_store (i := 0) (cs := [vF s0, vF s1]) rfl rfl rfl Try.sizeOf38 rfl (((r2.ext m2).mod m3 (nC (Ne.symm ne1) nN)).ext m4) rfl (lB rfl) rfl) ?_
  rintro _ w6 ⟨r5, m5, z2⟩
  have r6 : Row w6 b2 0 [vF s0, vF s1] := Row.congr r5 rfl
  refine WO.end ?_
  refine NE.code ?_
  refine CE.seq ?_
  refine CE.region ?_
  refine WL.det (op_assign rfl) rfl rfl rfl ?_
  refine WL.end ?_
  refine NE.code ?_
  refine CE.seq ?_
  refine CE.seq ?_
  refine CE.region ?_
  refine WL.det (op_move rfl) rfl rfl rfl ?_
  refine WL.det (op_nilCheck rfl) rfl rfl rfl ?_
  refine WL.det (op_fieldAddr (off' := k) rfl Try.runUnderlying40 rfl rfl Try.sizeOf2 rfl) rfl rfl rfl ?_
  refine WL.det (op_load1 (i := k) rfl Try.isAgg2 ((((((r.ext md1).ext m1).ext m2).mod m3 (nC (lE (lL (lL r.lt md1.size) ge1)) nN)).ext m4).mod m5 (nC (lE (lL (lL r.lt md1.size) ge2)) nN)).rng (Nat.zero_add _) (sub_get (i := 0) hk rfl)) rfl rfl rfl ?_
  refine WL.end ?_
  refine NE.code ?_
  refine CE.block ?_
  refine CE.seq ?_
  refine CE.region ?_
  refine WL.det (op_eqi rfl rfl) rfl rfl rfl ?_
  refine WL.det (op_assign rfl) rfl rfl rfl ?_
  refine WL.end ?_
  refine NE.code ?_
  rcases Bool.eq_false_or_eq_true ((kd == (1 : Int))) with hb1 | hb1
  · have hp1 := eq_of_beq hb1
    refine CE.cond_t rfl hb1 ?_
    refine CE.seq ?_
    refine CE.region ?_
    refine WL.det (op_indexArr (off' := 0) rfl rfl Try.runUnderlying37 Try.sizeOf24 (by decide) (by decide) rfl) rfl rfl rfl ?_
    refine WL.det (op_load1 (i := 0) rfl Try.isAgg24 ((r4.ext m4).mod m5 (nC ne1 nN)).rng rfl rfl) rfl rfl rfl ?_
    refine WL.det (op_move rfl) rfl rfl rfl ?_
    refine WL.op (op_farith (e := (fop .mul .f32 c0 x)) (.inr (.inr (.inl rfl))) rfl rfl rfl ha rfl) rfl rfl (ltb rfl) ?_
    rintro _ w7 ⟨⟨f1, rfl, hf1, lf1⟩, m6⟩
    refine WL.det (op_indexArr (off' := 1) rfl rfl Try.runUnderlying37 Try.sizeOf24 (by decide) (by decide) rfl) rfl rfl rfl ?_
    refine WL.det (op_load1 (i := 1) rfl Try.isAgg24 (((r4.ext m4).mod m5 (nC ne1 nN)).ext m6).rng rfl rfl) rfl rfl rfl ?_
    refine WL.det (op_indexArr (off' := 0) rfl rfl Try.runUnderlying38 Try.sizeOf24 (by decide) (by decide) rfl) rfl rfl rfl ?_
    refine WL.det (op_load1 (i := 0) rfl Try.isAgg24 (r6.ext m6).rng rfl rfl) rfl rfl rfl ?_
    refine WL.op (op_farith (e := (fop .mul .f32 c1 s0)) (.inr (.inr (.inl rfl))) rfl rfl rfl rfl rfl) rfl rfl (ltb rfl) ?_
    rintro _ w8 ⟨⟨f2, rfl, hf2, lf2⟩, m7⟩
    refine WL.op (op_farith (e := (fop .add .f32 (fop .mul .f32 c0 x) (fop .mul .f32 c1 s0))) (.inl rfl) rfl rfl hf1 hf2 rfl) rfl rfl (ltb rfl) ?_
    rintro _ w9 ⟨⟨f3, rfl, hf3, lf3⟩, m8⟩
    refine WL.det (op_assign rfl) rfl rfl rfl ?_
    refine WL.end ?_
    refine NE.code ?_
    refine CE.draw (fun | 2 => some (fun _ wA uA wB => uA = vF (keptF (fop .add .f32 (fop .mul .f32 c0 x) (fop .mul .f32 c1 s0))) ∧ (keptF (fop .add .f32 (fop .mul .f32 c0 x) (fop .mul .f32 c1 s0)) < wid .f32) ∧ Mod [] wA wB) | _ => none) [0, 1, 2, 3, 4] [5, 6] [] (by kernel_rfl) (by kernel_rfl) ?_
    have md2 : Mod [] w9 w9.drew := (Mod.refl _ _).drew
    generalize w9.drew = w10 at md2 ⊢
    refine DR.det (i := 0) rfl rfl (by kernel_rfl) (.free rfl) rfl rfl (fun wD mD => op_move rfl) ?_
    refine DR.det (i := 1) rfl rfl (by kernel_rfl) (.free rfl) rfl rfl (fun wD mD => op_move rfl) ?_
    refine DR.call (i := 2) (fun uA => uA = vF (keptF (fop .add .f32 (fop .mul .f32 c0 x) (fop .mul .f32 c1 s0))) ∧ (keptF (fop .add .f32 (fop .mul .f32 c0 x) (fop .mul .f32 c1 s0)) < wid .f32)) rfl rfl (by kernel_rfl) (.free rfl) rfl (ltb rfl) ⟨_, rfl, keptF_wid hf3 lf3⟩ (vs := [.func (.func 46) #[] #[], vF f3]) rfl (fun wD mD => oc_call (vs := [vF f3]) (cap := []) rfl rfl rfl Try.call46 (c_kept f3 (fop .add .f32 (fop .mul .f32 c0 x) (fop .mul .f32 c1 s0)) hf3 lf3 wD)) ?_ ?_
    · rintro w1 _ w2 m1 ⟨rfl, p0, m2⟩; exact ⟨⟨rfl, p0⟩, m2⟩
    rintro _ ⟨rfl, h1⟩
    refine DR.det (i := 3) rfl rfl (by kernel_rfl) (.free rfl) rfl rfl (fun wD mD => op_nilCheck rfl) ?_
    refine DR.det (i := 4) rfl rfl (by kernel_rfl) (.free rfl) rfl rfl (fun wD mD => op_fieldAddr (off' := k + 4) rfl Try.runUnderlying40 rfl rfl Try.sizeOf38 rfl) ?_
    refine DR.done rfl ?_
    intro w11 m9
    refine WO.det (op_indexArr (off' := k + 4) rfl rfl Try.runUnderlying38 Try.sizeOf24 (by decide) (by decide) rfl) rfl (.free rfl) rfl rfl ?_
    refine WO.op0 rfl (.free rfl) rfl (op_store (i := k + 4) (cs := [vF (keptF (fop .add .f32 (fop .mul .f32 c0 x) (fop .mul .f32 c1 s0)))]) rfl rfl rfl Try.sizeOf24 rfl (((((((((((r.ext md1).ext m1).ext m2).mod m3 (nC (lE (lL (lL r.lt md1.size) ge1)) nN)).ext m4).mod m5 (nC (lE (lL (lL r.lt md1.size) ge2)) nN)).ext m6).ext m7).ext m8).ext md2).ext m9) (Nat.zero_add _) (sub_fit (i := 4) hk (lB rfl)) rfl) ?_
    rintro _ w12 ⟨r7, m10, z3⟩
    have r8 : Row w12 p 0 (splice vs k [vI kd, vF c0, vF c1, vF c2, vF (keptF (fop .add .f32 (fop .mul .f32 c0 x) (fop .mul .f32 c1 s0))), vF s1]) := Row.congr r7 (sub_put (i := 4) hk (lB rfl) rfl)
    refine WO.end ?_
    refine NE.blk ?_
    refine NE.code ?_
    refine CE.seq ?_
    refine CE.region ?_
    refine WL.det (op_move rfl) rfl rfl rfl ?_
    refine WL.det (op_assign rfl) rfl rfl rfl ?_
    refine WL.end ?_
    refine NE.code ?_
    refine CE.ret' ?_
    refine XE.leave1 Try.results49 rfl ?_
    refine ⟨f3, rfl, ?_, lf3, ?_, ?_, (Row.congr r8 ?_), (((((((((((((Mod.refl [p] w).nt md1).nt m1).nt m2).then m3 ((aC (.inr (lT md1.size ge1)) aN))).nt m4).then m5 ((aC (.inr (lT md1.size ge2)) aN))).nt m6).nt m7).nt m8).nt md2).nt m9).then m10 ((aC (.inl (by simp)) aN)))⟩
    all_goals simp_all [stepY, stepS, stepT]
  · have hp1 := ne_of_beq_false hb1
    refine CE.cond_f rfl hb1 ?_
    refine CE.seq ?_
    refine CE.region ?_
    refine WL.det (op_eqi rfl rfl) rfl rfl rfl ?_
    refine WL.det (op_assign rfl) rfl rfl rfl ?_
    refine WL.end ?_
    refine NE.code ?_
    rcases Bool.eq_false_or_eq_true ((kd == (2 : Int))) with hb2 | hb2
    · have hp2 := eq_of_beq hb2
      refine CE.cond_t rfl hb2 ?_
      refine CE.seq ?_
      refine CE.region ?_
      refine WL.det (op_indexArr (off' := 0) rfl rfl Try.runUnderlying37 Try.sizeOf24 (by decide) (by decide) rfl) rfl rfl rfl ?_
      refine WL.det (op_load1 (i := 0) rfl Try.isAgg24 ((r4.ext m4).mod m5 (nC ne1 nN)).rng rfl rfl) rfl rfl rfl ?_
      refine WL.det (op_move rfl) rfl rfl rfl ?_
      refine WL.op (op_farith (e := (fop .mul .f32 c0 x)) (.inr (.inr (.inl rfl))) rfl rfl rfl ha rfl) rfl rfl (ltb rfl) ?_
      rintro _ w13 ⟨⟨f4, rfl, hf4, lf4⟩, m11⟩
      refine WL.det (op_indexArr (off' := 1) rfl rfl Try.runUnderlying37 Try.sizeOf24 (by decide) (by decide) rfl) rfl rfl rfl ?_
      refine WL.det (op_load1 (i := 1) rfl Try.isAgg24 (((r4.ext m4).mod m5 (nC ne1 nN)).ext m11).rng rfl rfl) rfl rfl rfl ?_
      refine WL.det (op_indexArr (off' := 0) rfl rfl Try.runUnderlying38 Try.sizeOf24 (by decide) (by decide) rfl) rfl rfl rfl ?_
      refine WL.det (op_load1 (i := 0) rfl Try.isAgg24 (r6.ext m11).rng rfl rfl) rfl rfl rfl ?_
      refine WL.op (op_farith (e := (fop .mul .f32 c1 s0)) (.inr (.inr (.inl rfl))) rfl rfl rfl rfl rfl) rfl rfl (ltb rfl) ?_
      rintro _ w14 ⟨⟨f5, rfl, hf5, lf5⟩, m12⟩
      refine WL.op (op_farith (e := (fop .add .f32 (fop .mul .f32 c0 x) (fop .mul .f32 c1 s0))) (.inl rfl) rfl rfl hf4 hf5 rfl) rfl rfl (ltb rfl) ?_
      rintro _ w15 ⟨⟨f6, rfl, hf6, lf6⟩, m13⟩
      refine WL.det (op_assign rfl) rfl rfl rfl ?_
      refine WL.end ?_
      refine NE.code ?_
      refine CE.draw (fun | 2 => some (fun _ wA uA wB => uA = vF (keptF x) ∧ (keptF x < wid .f32) ∧ Mod [] wA wB) | _ => none) [0, 1, 2, 3, 4] [5, 6] [] (by kernel_rfl) (by kernel_rfl) ?_
      have md3 : Mod [] w15 w15.drew := (Mod.refl _ _).drew
      generalize w15.drew = w16 at md3 ⊢
      refine DR.det (i := 0) rfl rfl (by kernel_rfl) (.free rfl) rfl rfl (fun wD mD => op_move rfl) ?_
      refine DR.det (i := 1) rfl rfl (by kernel_rfl) (.free rfl) rfl rfl (fun wD mD => op_move rfl) ?_
      refine DR.call (i := 2) (fun uA => uA = vF (keptF x) ∧ (keptF x < wid .f32)) rfl rfl (by kernel_rfl) (.free rfl) rfl (ltb rfl) ⟨_, rfl, keptF_wid ha la⟩ (vs := [.func (.func 46) #[] #[], vF a]) rfl (fun wD mD => oc_call (vs := [vF a]) (cap := []) rfl rfl rfl Try.call46 (c_kept a x ha la wD)) ?_ ?_
      · rintro w1 _ w2 m1 ⟨rfl, p0, m2⟩; exact ⟨⟨rfl, p0⟩, m2⟩
      rintro _ ⟨rfl, h2⟩
      refine DR.det (i := 3) rfl rfl (by kernel_rfl) (.free rfl) rfl rfl (fun wD mD => op_nilCheck rfl) ?_
      refine DR.det (i := 4) rfl rfl (by kernel_rfl) (.free rfl) rfl rfl (fun wD mD => op_fieldAddr (off' := k + 4) rfl Try.runUnderlying40 rfl rfl Try.sizeOf38 rfl) ?_
      refine DR.done rfl ?_
      intro w17 m14
      refine WO.det (op_indexArr (off' := k + 4) rfl rfl Try.runUnderlying38 Try.sizeOf24 (by decide) (by decide) rfl) rfl (.free rfl) rfl rfl ?_
      refine WO.op0 rfl (.free rfl) rfl (op_store (i := k + 4) (cs := [vF (keptF x)]) rfl rfl rfl Try.sizeOf24 rfl (((((((((((r.ext md1).ext m1).ext m2).mod m3 (nC (lE (lL (lL r.lt md1.size) ge1)) nN)).ext m4).mod m5 (nC (lE (lL (lL r.lt md1.size) ge2)) nN)).ext m11).ext m12).ext m13).ext md3).ext m14) (Nat.zero_add _) (sub_fit (i := 4) hk (lB rfl)) rfl) ?_
      rintro _ w18 ⟨r9, m15, z4⟩
      have r10 : Row w18 p 0 (splice vs k [vI kd, vF c0, vF c1, vF c2, vF (keptF x), vF s1]) := Row.congr r9 (sub_put (i := 4) hk (lB rfl) rfl)
      refine WO.end ?_
      refine NE.blk ?_
      refine NE.code ?_
      refine CE.seq ?_
      refine CE.region ?_
      refine WL.det (op_move rfl) rfl rfl rfl ?_
      refine WL.det (op_assign rfl) rfl rfl rfl ?_
      refine WL.end ?_
      refine NE.code ?_
      refine CE.ret' ?_
      refine XE.leave1 Try.results49 rfl ?_
      refine ⟨f6, rfl, ?_, lf6, ?_, ?_, (Row.congr r10 ?_), (((((((((((((Mod.refl [p] w).nt md1).nt m1).nt m2).then m3 ((aC (.inr (lT md1.size ge1)) aN))).nt m4).then m5 ((aC (.inr (lT md1.size ge2)) aN))).nt m11).nt m12).nt m13).nt md3).nt m14).then m15 ((aC (.inl (by simp)) aN)))⟩
      all_goals simp_all [stepY, stepS, stepT]
    · have hp2 := ne_of_beq_false hb2
      refine CE.cond_f rfl hb2 ?_
      refine CE.seq ?_
      refine CE.region ?_
      refine WL.det (op_eqi rfl rfl) rfl rfl rfl ?_
      refine WL.det (op_assign rfl) rfl rfl rfl ?_
      refine WL.end ?_
      refine NE.code ?_
      rcases Bool.eq_false_or_eq_true ((kd == (3 : Int))) with hb3 | hb3
      · have hp3 := eq_of_beq hb3
        refine CE.cond_t rfl hb3 ?_
        refine CE.seq ?_
        refine CE.region ?_
        refine WL.det (op_indexArr (off' := 0) rfl rfl Try.runUnderlying37 Try.sizeOf24 (by decide) (by decide) rfl) rfl rfl rfl ?_
        refine WL.det (op_load1 (i := 0) rfl Try.isAgg24 ((r4.ext m4).mod m5 (nC ne1 nN)).rng rfl rfl) rfl rfl rfl ?_
        refine WL.det (op_move rfl) rfl rfl rfl ?_
        refine WL.det (op_indexArr (off' := 1) rfl rfl Try.runUnderlying38 Try.sizeOf24 (by decide) (by decide) rfl) rfl rfl rfl ?_
        refine WL.det (op_load1 (i := 1) rfl Try.isAgg24 r6.rng rfl rfl) rfl rfl rfl ?_
        refine WL.op (op_farith (e := (fop .sub .f32 x s1)) (.inr (.inl rfl)) rfl rfl ha rfl rfl) rfl rfl (ltb rfl) ?_
        rintro _ w19 ⟨⟨f7, rfl, hf7, lf7⟩, m16⟩
        refine WL.op (op_farith (e := (fop .mul .f32 c0 (fop .sub .f32 x s1))) (.inr (.inr (.inl rfl))) rfl rfl rfl hf7 rfl) rfl rfl (ltb rfl) ?_
        rintro _ w20 ⟨⟨f8, rfl, hf8, lf8⟩, m17⟩
        refine WL.det (op_indexArr (off' := 0) rfl rfl Try.runUnderlying38 Try.sizeOf24 (by decide) (by decide) rfl) rfl rfl rfl ?_
        refine WL.det (op_load1 (i := 0) rfl Try.isAgg24 ((r6.ext m16).ext m17).rng rfl rfl) rfl rfl rfl ?_
        refine WL.op (op_farith (e := (fop .add .f32 (fop .mul .f32 c0 (fop .sub .f32 x s1)) s0)) (.inl rfl) rfl rfl hf8 rfl rfl) rfl rfl (ltb rfl) ?_
        rintro _ w21 ⟨⟨f9, rfl, hf9, lf9⟩, m18⟩
        refine WL.det (op_assign rfl) rfl rfl rfl ?_
        refine WL.end ?_
        refine NE.code ?_
        refine CE.region ?_
        refine WL.det (op_move rfl) rfl rfl rfl ?_
        refine WL.det (op_move rfl) rfl rfl rfl ?_
        refine WL.call (oc_call (vs := [vF a]) (cap := []) rfl rfl rfl Try.call46 (c_kept a x ha la w21)) rfl rfl (ltb rfl) ?_
        rintro _ w22 ⟨rfl, h3, m19⟩
        refine WL.det (op_move rfl) rfl rfl rfl ?_
        refine WL.call (oc_call (vs := [vF f9]) (cap := []) rfl rfl rfl Try.call46 (c_kept f9 (fop .add .f32 (fop .mul .f32 c0 (fop .sub .f32 x s1)) s0) hf9 lf9 w22)) rfl rfl (ltb rfl) ?_
        rintro _ w23 ⟨rfl, h4, m20⟩
        refine WL.det (op_build (qs := [(0, vF (keptF x)), (1, vF (keptF (fop .add .f32 (fop .mul .f32 c0 (fop .sub .f32 x s1)) s0)))]) (cells := #[vF (keptF x), vF (keptF (fop .add .f32 (fop .mul .f32 c0 (fop .sub .f32 x s1)) s0))]) rfl (by kernel_rfl)) rfl rfl rfl ?_
        refine WL.det (op_nilCheck rfl) rfl rfl rfl ?_
        refine WL.det (op_fieldAddr (off' := k + 4) rfl Try.runUnderlying40 rfl rfl Try.sizeOf38 rfl) rfl rfl rfl ?_
        refine WL.op0 (op_store (i := k + 4) (cs := [vF (keptF x), vF (keptF (fop .add .f32 (fop .mul .f32 c0 (fop .sub .f32 x s1)) s0))]) rfl rfl rfl Try.sizeOf38 rfl (((((((((((r.ext md1).ext m1).ext m2).mod m3 (nC (lE (lL (lL r.lt md1.size) ge1)) nN)).ext m4).mod m5 (nC (lE (lL (lL r.lt md1.size) ge2)) nN)).ext m16).ext m17).ext m18).ext m19).ext m20) (Nat.zero_add _) (sub_fit (i := 4) hk (lB rfl)) rfl) rfl rfl ?_
        rintro _ w24 ⟨r11, m21, z5⟩
        have r12 : Row w24 p 0 (splice vs k [vI kd, vF c0, vF c1, vF c2, vF (keptF x), vF (keptF (fop .add .f32 (fop .mul .f32 c0 (fop .sub .f32 x s1)) s0))]) := Row.congr r11 (sub_put (i := 4) hk (lB rfl) rfl)
        refine WL.end ?_
        refine NE.blk ?_
        refine NE.code ?_
        refine CE.seq ?_
        refine CE.region ?_
        refine WL.det (op_move rfl) rfl rfl rfl ?_
        refine WL.det (op_assign rfl) rfl rfl rfl ?_
        refine WL.end ?_
        refine NE.code ?_
        refine CE.ret' ?_
        refine XE.leave1 Try.results49 rfl ?_
        refine ⟨f9, rfl, ?_, lf9, ?_, ?_, (Row.congr r12 ?_), (((((((((((((Mod.refl [p] w).nt md1).nt m1).nt m2).then m3 ((aC (.inr (lT md1.size ge1)) aN))).nt m4).then m5 ((aC (.inr (lT md1.size ge2)) aN))).nt m16).nt m17).nt m18).nt m19).nt m20).then m21 ((aC (.inl (by simp)) aN)))⟩
        all_goals simp_all [stepY, stepS, stepT]
      · have hp3 := ne_of_beq_false hb3
        refine CE.cond_f rfl hb3 ?_
        refine CE.seq ?_
        refine CE.region ?_
        refine WL.det (op_eqi rfl rfl) rfl rfl rfl ?_
        refine WL.det (op_assign rfl) rfl rfl rfl ?_
        refine WL.end ?_
        refine NE.code ?_
        rcases Bool.eq_false_or_eq_true ((kd == (4 : Int))) with hb4 | hb4
        · have hp4 := eq_of_beq hb4
          refine CE.cond_t rfl hb4 ?_
          refine CE.seq ?_
          refine CE.region ?_
          refine WL.det (op_indexArr (off' := 0) rfl rfl Try.runUnderlying37 Try.sizeOf24 (by decide) (by decide) rfl) rfl rfl rfl ?_
          refine WL.det (op_load1 (i := 0) rfl Try.isAgg24 ((r4.ext m4).mod m5 (nC ne1 nN)).rng rfl rfl) rfl rfl rfl ?_
          refine WL.det (op_move rfl) rfl rfl rfl ?_
          refine WL.op (op_farith (e := (fop .mul .f32 c0 x)) (.inr (.inr (.inl rfl))) rfl rfl rfl ha rfl) rfl rfl (ltb rfl) ?_
          rintro _ w25 ⟨⟨f10, rfl, hf10, lf10⟩, m22⟩
          refine WL.det (op_indexArr (off' := 1) rfl rfl Try.runUnderlying37 Try.sizeOf24 (by decide) (by decide) rfl) rfl rfl rfl ?_
          refine WL.det (op_load1 (i := 1) rfl Try.isAgg24 (((r4.ext m4).mod m5 (nC ne1 nN)).ext m22).rng rfl rfl) rfl rfl rfl ?_
          refine WL.det (op_indexArr (off' := 0) rfl rfl Try.runUnderlying38 Try.sizeOf24 (by decide) (by decide) rfl) rfl rfl rfl ?_
          refine WL.det (op_load1 (i := 0) rfl Try.isAgg24 (r6.ext m22).rng rfl rfl) rfl rfl rfl ?_
          refine WL.op (op_farith (e := (fop .mul .f32 c1 s0)) (.inr (.inr (.inl rfl))) rfl rfl rfl rfl rfl) rfl rfl (ltb rfl) ?_
          rintro _ w26 ⟨⟨f11, rfl, hf11, lf11⟩, m23⟩
          refine WL.op (op_farith (e := (fop .sub .f32 (fop .mul .f32 c0 x) (fop .mul .f32 c1 s0))) (.inr (.inl rfl)) rfl rfl hf10 hf11 rfl) rfl rfl (ltb rfl) ?_
          rintro _ w27 ⟨⟨f12, rfl, hf12, lf12⟩, m24⟩
          refine WL.det (op_indexArr (off' := 2) rfl rfl Try.runUnderlying37 Try.sizeOf24 (by decide) (by decide) rfl) rfl rfl rfl ?_
          refine WL.det (op_load1 (i := 2) rfl Try.isAgg24 (((((r4.ext m4).mod m5 (nC ne1 nN)).ext m22).ext m23).ext m24).rng rfl rfl) rfl rfl rfl ?_
          refine WL.det (op_indexArr (off' := 1) rfl rfl Try.runUnderlying38 Try.sizeOf24 (by decide) (by decide) rfl) rfl rfl rfl ?_
          refine WL.det (op_load1 (i := 1) rfl Try.isAgg24 (((r6.ext m22).ext m23).ext m24).rng rfl rfl) rfl rfl rfl ?_
          refine WL.op (op_farith (e := (fop .mul .f32 c2 s1)) (.inr (.inr (.inl rfl))) rfl rfl rfl rfl rfl) rfl rfl (ltb rfl) ?_
          rintro _ w28 ⟨⟨f13, rfl, hf13, lf13⟩, m25⟩
          refine WL.op (op_farith (e := (fop .sub .f32 (fop .sub .f32 (fop .mul .f32 c0 x) (fop .mul .f32 c1 s0)) (fop .mul .f32 c2 s1))) (.inr (.inl rfl)) rfl rfl hf12 hf13 rfl) rfl rfl (ltb rfl) ?_
          rintro _ w29 ⟨⟨f14, rfl, hf14, lf14⟩, m26⟩
          refine WL.det (op_assign rfl) rfl rfl rfl ?_
          refine WL.end ?_
          refine NE.code ?_
          refine CE.draw (fun | 2 => some (fun _ wA uA wB => uA = vF (keptF (fop .sub .f32 (fop .sub .f32 (fop .mul .f32 c0 x) (fop .mul .f32 c1 s0)) (fop .mul .f32 c2 s1))) ∧ (keptF (fop .sub .f32 (fop .sub .f32 (fop .mul .f32 c0 x) (fop .mul .f32 c1 s0)) (fop .mul .f32 c2 s1)) < wid .f32) ∧ Mod [] wA wB) | 5 => some (fun _ wA uA wB => uA = vF (keptF s0) ∧ (keptF s0 < wid .f32) ∧ Mod [] wA wB) | _ => none) [0, 1, 2, 3, 4, 5, 6] [7, 8, 9] [] (by kernel_rfl) (by kernel_rfl) ?_
          have md4 : Mod [] w29 w29.drew := (Mod.refl _ _).drew
          generalize w29.drew = w30 at md4 ⊢
          refine DR.det (i := 0) rfl rfl (by kernel_rfl) (.free rfl) rfl rfl (fun wD mD => op_move rfl) ?_
          refine DR.det (i := 1) rfl rfl (by kernel_rfl) (.free rfl) rfl rfl (fun wD mD => op_move rfl) ?_
          refine DR.call (i := 2) (fun uA => uA = vF (keptF (fop .sub .f32 (fop .sub .f32 (fop .mul .f32 c0 x) (fop .mul .f32 c1 s0)) (fop .mul .f32 c2 s1))) ∧ (keptF (fop .sub .f32 (fop .sub .f32 (fop .mul .f32 c0 x) (fop .mul .f32 c1 s0)) (fop .mul .f32 c2 s1)) < wid .f32)) rfl rfl (by kernel_rfl) (.free rfl) rfl (ltb rfl) ⟨_, rfl, keptF_wid hf14 lf14⟩ (vs := [.func (.func 46) #[] #[], vF f14]) rfl (fun wD mD => oc_call (vs := [vF f14]) (cap := []) rfl rfl rfl Try.call46 (c_kept f14 (fop .sub .f32 (fop .sub .f32 (fop .mul .f32 c0 x) (fop .mul .f32 c1 s0)) (fop .mul .f32 c2 s1)) hf14 lf14 wD)) ?_ ?_
          · rintro w1 _ w2 m1 ⟨rfl, p0, m2⟩; exact ⟨⟨rfl, p0⟩, m2⟩
          rintro _ ⟨rfl, h5⟩
          refine DR.det (i := 3) rfl rfl (by kernel_rfl) (.free rfl) rfl rfl (fun wD mD => op_indexArr (off' := 0) rfl rfl Try.runUnderlying38 Try.sizeOf24 (by decide) (by decide) rfl) ?_
          refine DR.det (i := 4) rfl rfl (by kernel_rfl) (.free rfl) rfl rfl (fun wD mD => op_load1 (i := 0) rfl Try.isAgg24 (((((((r6.ext m22).ext m23).ext m24).ext m25).ext m26).ext md4).ext mD).rng rfl rfl) ?_
          refine DR.call (i := 5) (fun uA => uA = vF (keptF s0) ∧ (keptF s0 < wid .f32)) rfl rfl (by kernel_rfl) (.free rfl) rfl (ltb rfl) ⟨_, rfl, keptF_wid rfl l0⟩ (vs := [.func (.func 46) #[] #[], vF s0]) rfl (fun wD mD => oc_call (vs := [vF s0]) (cap := []) rfl rfl rfl Try.call46 (c_kept s0 s0 rfl l0 wD)) ?_ ?_
          · rintro w1 _ w2 m1 ⟨rfl, p0, m2⟩; exact ⟨⟨rfl, p0⟩, m2⟩
          rintro _ ⟨rfl, h6⟩
          refine DR.det (i := 6) rfl rfl (by kernel_rfl) (.free rfl) rfl rfl (fun wD mD => op_build (qs := [(0, vF (keptF (fop .sub .f32 (fop .sub .f32 (fop .mul .f32 c0 x) (fop .mul .f32 c1 s0)) (fop .mul .f32 c2 s1)))), (1, vF (keptF s0))]) (cells := #[vF (keptF (fop .sub .f32 (fop .sub .f32 (fop .mul .f32 c0 x) (fop .mul .f32 c1 s0)) (fop .mul .f32 c2 s1))), vF (keptF s0)]) rfl (by kernel_rfl)) ?_
          refine DR.done rfl ?_
          intro w31 m27
          refine WO.det (op_nilCheck rfl) rfl (.free rfl) rfl rfl ?_
          refine WO.det (op_fieldAddr (off' := k + 4) rfl Try.runUnderlying40 rfl rfl Try.sizeOf38 rfl) rfl (.free rfl) rfl rfl ?_
          refine WO.op0 rfl (.free rfl) rfl (op_store (i := k + 4) (cs := [vF (keptF (fop .sub .f32 (fop .sub .f32 (fop .mul .f32 c0 x) (fop .mul .f32 c1 s0)) (fop .mul .f32 c2 s1))), vF (keptF s0)]) rfl rfl rfl Try.sizeOf38 rfl (((((((((((((r.ext md1).ext m1).ext m2).mod m3 (nC (lE (lL (lL r.lt md1.size) ge1)) nN)).ext m4).mod m5 (nC (lE (lL (lL r.lt md1.size) ge2)) nN)).ext m22).ext m23).ext m24).ext m25).ext m26).ext md4).ext m27) (Nat.zero_add _) (sub_fit (i := 4) hk (lB rfl)) rfl) ?_
          rintro _ w32 ⟨r13, m28, z6⟩
          have r14 : Row w32 p 0 (splice vs k [vI kd, vF c0, vF c1, vF c2, vF (keptF (fop .sub .f32 (fop .sub .f32 (fop .mul .f32 c0 x) (fop .mul .f32 c1 s0)) (fop .mul .f32 c2 s1))), vF (keptF s0)]) := Row.congr r13 (sub_put (i := 4) hk (lB rfl) rfl)
          refine WO.end ?_
          refine NE.blk ?_
          refine NE.code ?_
          refine CE.seq ?_
          refine CE.region ?_
          refine WL.det (op_move rfl) rfl rfl rfl ?_
          refine WL.det (op_assign rfl) rfl rfl rfl ?_
          refine WL.end ?_
          refine NE.code ?_
          refine CE.ret' ?_
          refine XE.leave1 Try.results49 rfl ?_
          refine ⟨f14, rfl, ?_, lf14, ?_, ?_, (Row.congr r14 ?_), (((((((((((((((Mod.refl [p] w).nt md1).nt m1).nt m2).then m3 ((aC (.inr (lT md1.size ge1)) aN))).nt m4).then m5 ((aC (.inr (lT md1.size ge2)) aN))).nt m22).nt m23).nt m24).nt m25).nt m26).nt md4).nt m27).then m28 ((aC (.inl (by simp)) aN)))⟩
          all_goals simp_all [stepY, stepS, stepT]
        · have hp4 := ne_of_beq_false hb4
          refine CE.cond_f rfl hb4 ?_
          refine CE.seq ?_
          refine CE.region ?_
          refine WL.det (op_move rfl) rfl rfl rfl ?_
          refine WL.det (op_indexArr (off' := 0) rfl rfl Try.runUnderlying38 Try.sizeOf24 (by decide) (by decide) rfl) rfl rfl rfl ?_
          refine WL.det (op_load1 (i := 0) rfl Try.isAgg24 r6.rng rfl rfl) rfl rfl rfl ?_
          refine WL.op (op_farith (e := (fop .sub .f32 x s0)) (.inr (.inl rfl)) rfl rfl ha rfl rfl) rfl rfl (ltb rfl) ?_
          rintro _ w33 ⟨⟨f15, rfl, hf15, lf15⟩, m29⟩
          refine WL.det (op_indexArr (off' := 0) rfl rfl Try.runUnderlying37 Try.sizeOf24 (by decide) (by decide) rfl) rfl rfl rfl ?_
          refine WL.det (op_load1 (i := 0) rfl Try.isAgg24 (((r4.ext m4).mod m5 (nC ne1 nN)).ext m29).rng rfl rfl) rfl rfl rfl ?_
          refine WL.det (op_indexArr (off' := 1) rfl rfl Try.runUnderlying38 Try.sizeOf24 (by decide) (by decide) rfl) rfl rfl rfl ?_
          refine WL.det (op_load1 (i := 1) rfl Try.isAgg24 (r6.ext m29).rng rfl rfl) rfl rfl rfl ?_
          refine WL.op (op_farith (e := (fop .mul .f32 c0 s1)) (.inr (.inr (.inl rfl))) rfl rfl rfl rfl rfl) rfl rfl (ltb rfl) ?_
          rintro _ w34 ⟨⟨f16, rfl, hf16, lf16⟩, m30⟩
          refine WL.op (op_farith (e := (fop .add .f32 (fop .sub .f32 x s0) (fop .mul .f32 c0 s1))) (.inl rfl) rfl rfl hf15 hf16 rfl) rfl rfl (ltb rfl) ?_
          rintro _ w35 ⟨⟨f17, rfl, hf17, lf17⟩, m31⟩
          refine WL.det (op_assign rfl) rfl rfl rfl ?_
          refine WL.end ?_
          refine NE.code ?_
          refine CE.region ?_
          refine WL.det (op_move rfl) rfl rfl rfl ?_
          refine WL.det (op_move rfl) rfl rfl rfl ?_
          refine WL.call (oc_call (vs := [vF a]) (cap := []) rfl rfl rfl Try.call46 (c_kept a x ha la w35)) rfl rfl (ltb rfl) ?_
          rintro _ w36 ⟨rfl, h7, m32⟩
          refine WL.det (op_move rfl) rfl rfl rfl ?_
          refine WL.call (oc_call (vs := [vF f17]) (cap := []) rfl rfl rfl Try.call46 (c_kept f17 (fop .add .f32 (fop .sub .f32 x s0) (fop .mul .f32 c0 s1)) hf17 lf17 w36)) rfl rfl (ltb rfl) ?_
          rintro _ w37 ⟨rfl, h8, m33⟩
          refine WL.det (op_build (qs := [(0, vF (keptF x)), (1, vF (keptF (fop .add .f32 (fop .sub .f32 x s0) (fop .mul .f32 c0 s1))))]) (cells := #[vF (keptF x), vF (keptF (fop .add .f32 (fop .sub .f32 x s0) (fop .mul .f32 c0 s1)))]) rfl (by kernel_rfl)) rfl rfl rfl ?_
          refine WL.det (op_nilCheck rfl) rfl rfl rfl ?_
          refine WL.det (op_fieldAddr (off' := k + 4) rfl Try.runUnderlying40 rfl rfl Try.sizeOf38 rfl) rfl rfl rfl ?_
          refine WL.op0 (op_store (i := k + 4) (cs := [vF (keptF x), vF (keptF (fop .add .f32 (fop .sub .f32 x s0) (fop .mul .f32 c0 s1)))]) rfl rfl rfl Try.sizeOf38 rfl (((((((((((r.ext md1).ext m1).ext m2).mod m3 (nC (lE (lL (lL r.lt md1.size) ge1)) nN)).ext m4).mod m5 (nC (lE (lL (lL r.lt md1.size) ge2)) nN)).ext m29).ext m30).ext m31).ext m32).ext m33) (Nat.zero_add _) (sub_fit (i := 4) hk (lB rfl)) rfl) rfl rfl ?_
          rintro _ w38 ⟨r15, m34, z7⟩
          have r16 : Row w38 p 0 (splice vs k [vI kd, vF c0, vF c1, vF c2, vF (keptF x), vF (keptF (fop .add .f32 (fop .sub .f32 x s0) (fop .mul .f32 c0 s1)))]) := Row.congr r15 (sub_put (i := 4) hk (lB rfl) rfl)
          refine WL.end ?_
          refine NE.blk ?_
          refine NE.code ?_
          refine CE.seq ?_
          refine CE.region ?_
          refine WL.det (op_move rfl) rfl rfl rfl ?_
          refine WL.det (op_assign rfl) rfl rfl rfl ?_
          refine WL.end ?_
          refine NE.code ?_
          refine CE.ret' ?_
          refine XE.leave1 Try.results49 rfl ?_
          refine ⟨f17, rfl, ?_, lf17, ?_, ?_, (Row.congr r16 ?_), (((((((((((((Mod.refl [p] w).nt md1).nt m1).nt m2).then m3 ((aC (.inr (lT md1.size ge1)) aN))).nt m4).then m5 ((aC (.inr (lT md1.size ge2)) aN))).nt m29).nt m30).nt m31).nt m32).nt m33).then m34 ((aC (.inl (by simp)) aN)))⟩
          all_goals simp_all [stepY, stepS, stepT]

end Go.Proofs.Ytemnjphnhmbddaa
