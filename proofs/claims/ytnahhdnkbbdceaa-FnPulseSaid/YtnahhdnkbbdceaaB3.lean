/- What the functions on filters compute. -/
import Derived.Test.YtnahhdnkbbdceaaB2
set_option linter.unusedVariables false
set_option linter.unusedSimpArgs false
set_option maxRecDepth 100000
set_option maxHeartbeats 8000000
namespace Go.Proofs.Ytnahhdnkbbdceaa

/-- how many numbers of C and of S a kind of filter has -/
def usesC (kd : Int) : Nat := if kd = 1 ∨ kd = 2 then 2 else if kd = 3 ∨ kd = 5 then 1 else if kd = 4 then 3 else 0
def usesS (kd : Int) : Nat := if kd = 1 ∨ kd = 2 then 1 else if kd = 3 ∨ kd = 5 then 2 else if kd = 4 then 2 else 0
def vFil (kd : Int) (c0 c1 c2 s0 s1 : Nat) : Bool := decide (1 ≤ kd ∧ kd ≤ 5) && (usedF [c0, c1, c2] (usesC kd) 3 && usedF [s0, s1] (usesS kd) 2)
theorem usesC_pos (kd : Int) : 0 < usesC kd ↔ 1 ≤ kd ∧ kd ≤ 5 := by
  unfold usesC
  by_cases h1 : kd = 1 ∨ kd = 2
  · simp [h1]; omega
  · by_cases h2 : kd = 3 ∨ kd = 5
    · simp [h1, h2]; omega
    · by_cases h3 : kd = 4
      · simp [h3]
      · simp [h1, h2, h3]; omega
theorem vFil_eq (kd : Int) (c0 c1 c2 s0 s1 : Nat) : vFil kd c0 c1 c2 s0 s1 = (decide (0 < usesC kd) && (usedF [c0, c1, c2] (usesC kd) 3 && usedF [s0, s1] (usesS kd) 2)) := by
  unfold vFil
  congr 1
  exact decide_eq_decide.2 (usesC_pos kd).symm
theorem vFil_kd {kd : Int} {c0 c1 c2 s0 s1 : Nat} (h : vIn kd 1 5 = false) : vFil kd c0 c1 c2 s0 s1 = false := by
  rw [vIn_f] at h; simp [vFil, h]
theorem vFil_c {kd : Int} {c0 c1 c2 s0 s1 : Nat} (h : usedF [c0, c1, c2] (usesC kd) 3 = false) : vFil kd c0 c1 c2 s0 s1 = false := by simp [vFil, h]
theorem vFil_s {kd : Int} {c0 c1 c2 s0 s1 : Nat} (h : usedF [s0, s1] (usesS kd) 2 = false) : vFil kd c0 c1 c2 s0 s1 = false := by simp [vFil, h]
theorem vFil_t {kd : Int} {c0 c1 c2 s0 s1 : Nat} (h : vIn kd 1 5 = true) (h1 : usedF [c0, c1, c2] (usesC kd) 3 = true) (h2 : usedF [s0, s1] (usesS kd) 2 = true) : vFil kd c0 c1 c2 s0 s1 = true := by
  rw [vIn_t] at h; simp [vFil, h, h1, h2]

/-- what a filter makes of a sample, and its two numbers of state then -/
def stepY (kd : Int) (c0 c1 c2 s0 s1 x : Nat) : Nat :=
  if kd = 1 then fop .add .f32 (fop .mul .f32 c0 x) (fop .mul .f32 c1 s0)
  else if kd = 2 then fop .add .f32 (fop .mul .f32 c0 x) (fop .mul .f32 c1 s0)
  else if kd = 3 then fop .add .f32 (fop .mul .f32 c0 (fop .sub .f32 x s1)) s0
  else if kd = 4 then fop .sub .f32 (fop .sub .f32 (fop .mul .f32 c0 x) (fop .mul .f32 c1 s0)) (fop .mul .f32 c2 s1)
  else fop .add .f32 (fop .sub .f32 x s0) (fop .mul .f32 c0 s1)
def stepS (kd : Int) (c0 c1 c2 s0 s1 x : Nat) : Nat :=
  if kd = 1 then keptF (stepY kd c0 c1 c2 s0 s1 x) else if kd = 2 then keptF x else if kd = 3 then keptF x else if kd = 4 then keptF (stepY kd c0 c1 c2 s0 s1 x) else keptF x
def stepT (kd : Int) (c0 c1 c2 s0 s1 x : Nat) : Nat :=
  if kd = 1 then s1 else if kd = 2 then s1 else if kd = 3 then keptF (stepY kd c0 c1 c2 s0 s1 x) else if kd = 4 then keptF s0 else keptF (stepY kd c0 c1 c2 s0 s1 x)

theorem c_uses (kd : Int) (w : World) : Cl Try.prog 156 #[vI kd] w fun v w' => v = .tuple #[vI (((usesC kd) : Nat) : Int), vI (((usesS kd) : Nat) : Int)] ∧ w = w' := by
 refine Cl.of Try.func156 Try.ntmps156 rfl rfl (ρ := [(0, vI kd)]) rfl ?_
 refine CE.seq (CE.region ?_)
 iterate 2 refine WD (op_assign rfl) rfl ?_
 refine WL.end (NE.code (CE.seq (CE.seq (CE.region ?_))))
 refine WD (op_move rfl) rfl ?_
 refine WL.end (NE.code (CE.block (CE.seq (CE.seq (CE.region ?_)))))
 refine WD (op_eqi rfl rfl) rfl ?_
 refine WD (op_assign rfl) rfl ?_
 refine WL.end (NE.code ?_)
 rcases Bool.eq_false_or_eq_true ((kd == (1 : Int))) with hb1 | hb1
 ·have hp1 := eq_of_beq hb1
  refine CE.cond_t rfl hb1 ?_
  refine CE.skip' (NE.code ?_)
  refine CE.cond_t rfl hb1 ?_
  refine CE.seq (CE.region ?_)
  iterate 2 refine WD (op_assign rfl) rfl ?_
  refine WL.end (NE.code (CE.ret' (XE.ret_blk (XE.ret_then ?_))))
  refine XE.leaveT Try.results156 (res_tmp rfl (res_tmp rfl res_nil)) ?_
  refine ⟨?_, rfl⟩
  all_goals simp_all [usesC, usesS]
 ·have hp1 := ne_of_beq_false hb1
  refine CE.cond_f rfl hb1 ?_
  refine CE.region ?_
  refine WD (op_eqi rfl rfl) rfl ?_
  refine WD (op_assign rfl) rfl ?_
  refine WL.end (NE.code ?_)
  rcases Bool.eq_false_or_eq_true ((kd == (2 : Int))) with hb2 | hb2
  ·have hp2 := eq_of_beq hb2
   refine CE.cond_t rfl hb2 ?_
   refine CE.seq (CE.region ?_)
   iterate 2 refine WD (op_assign rfl) rfl ?_
   refine WL.end (NE.code (CE.ret' (XE.ret_blk (XE.ret_then ?_))))
   refine XE.leaveT Try.results156 (res_tmp rfl (res_tmp rfl res_nil)) ?_
   refine ⟨?_, rfl⟩
   all_goals simp_all [usesC, usesS]
  ·have hp2 := ne_of_beq_false hb2
   refine CE.cond_f rfl hb2 ?_
   refine CE.seq (CE.seq (CE.region ?_))
   refine WD (op_eqi rfl rfl) rfl ?_
   refine WD (op_assign rfl) rfl ?_
   refine WL.end (NE.code ?_)
   rcases Bool.eq_false_or_eq_true ((kd == (3 : Int))) with hb3 | hb3
   ·have hp3 := eq_of_beq hb3
    refine CE.cond_t rfl hb3 ?_
    refine CE.skip' (NE.code ?_)
    refine CE.cond_t rfl hb3 ?_
    refine CE.seq (CE.region ?_)
    iterate 2 refine WD (op_assign rfl) rfl ?_
    refine WL.end (NE.code (CE.ret' (XE.ret_blk (XE.ret_then ?_))))
    refine XE.leaveT Try.results156 (res_tmp rfl (res_tmp rfl res_nil)) ?_
    refine ⟨?_, rfl⟩
    all_goals simp_all [usesC, usesS]
   ·have hp3 := ne_of_beq_false hb3
    refine CE.cond_f rfl hb3 ?_
    refine CE.region ?_
    refine WD (op_eqi rfl rfl) rfl ?_
    refine WD (op_assign rfl) rfl ?_
    refine WL.end (NE.code ?_)
    rcases Bool.eq_false_or_eq_true ((kd == (5 : Int))) with hb4 | hb4
    ·have hp4 := eq_of_beq hb4
     refine CE.cond_t rfl hb4 ?_
     refine CE.seq (CE.region ?_)
     iterate 2 refine WD (op_assign rfl) rfl ?_
     refine WL.end (NE.code (CE.ret' (XE.ret_blk (XE.ret_then ?_))))
     refine XE.leaveT Try.results156 (res_tmp rfl (res_tmp rfl res_nil)) ?_
     refine ⟨?_, rfl⟩
     all_goals simp_all [usesC, usesS]
    ·have hp4 := ne_of_beq_false hb4
     refine CE.cond_f rfl hb4 ?_
     refine CE.seq (CE.region ?_)
     refine WD (op_eqi rfl rfl) rfl ?_
     refine WD (op_assign rfl) rfl ?_
     refine WL.end (NE.code ?_)
     rcases Bool.eq_false_or_eq_true ((kd == (4 : Int))) with hb5 | hb5
     ·have hp5 := eq_of_beq hb5
      refine CE.cond_t rfl hb5 ?_
      refine CE.seq (CE.region ?_)
      iterate 2 refine WD (op_assign rfl) rfl ?_
      refine WL.end (NE.code (CE.ret' (XE.ret_blk (XE.ret_then ?_))))
      refine XE.leaveT Try.results156 (res_tmp rfl (res_tmp rfl res_nil)) ?_
      refine ⟨?_, rfl⟩
      all_goals simp_all [usesC, usesS]
     ·have hp5 := ne_of_beq_false hb5
      refine CE.cond_f rfl hb5 ?_
      refine CE.skip' (NE.blk (NE.code (CE.seq (CE.region ?_))))
      iterate 2 refine WD (op_assign rfl) rfl ?_
      refine WL.end (NE.code (CE.ret' ?_))
      refine XE.leaveT Try.results156 (res_tmp rfl (res_tmp rfl res_nil)) ?_
      refine ⟨?_, rfl⟩
      all_goals simp_all [usesC, usesS]

theorem c_l02Uses (kd : Int) (hk : 1 ≤ kd ∧ kd ≤ 5) (w : World) : Cl Try.prog 149 #[vI kd] w fun v w' => v = .tuple #[vI (((usesC kd) : Nat) : Int), vI (((usesS kd) : Nat) : Int)] ∧ w = w' := by
 refine Cl.of Try.func149 Try.ntmps149 rfl rfl (ρ := [(0, vI kd)]) rfl ?_
 refine CE.seq (CE.region ?_)
 iterate 2 refine WD (op_assign rfl) rfl ?_
 refine WL.end (NE.code (CE.seq (CE.seq (CE.region ?_))))
 refine WD (op_move rfl) rfl ?_
 refine WL.end (NE.code (CE.block (CE.seq (CE.seq (CE.region ?_)))))
 refine WD (op_eqi rfl rfl) rfl ?_
 refine WD (op_assign rfl) rfl ?_
 refine WL.end (NE.code ?_)
 rcases Bool.eq_false_or_eq_true ((kd == (1 : Int))) with hb1 | hb1
 ·have hp1 := eq_of_beq hb1
  refine CE.cond_t rfl hb1 ?_
  refine CE.skip' (NE.code ?_)
  refine CE.cond_t rfl hb1 ?_
  refine CE.seq (CE.region ?_)
  iterate 2 refine WD (op_assign rfl) rfl ?_
  refine WL.end (NE.code (CE.ret' (XE.ret_blk (XE.ret_then ?_))))
  refine XE.leaveT Try.results149 (res_tmp rfl (res_tmp rfl res_nil)) ?_
  refine ⟨?_, rfl⟩
  all_goals first | (simp_all [usesC, usesS]; done) | (have e : kd = 4 := (by omega); subst e; rfl)
 ·have hp1 := ne_of_beq_false hb1
  refine CE.cond_f rfl hb1 ?_
  refine CE.region ?_
  refine WD (op_eqi rfl rfl) rfl ?_
  refine WD (op_assign rfl) rfl ?_
  refine WL.end (NE.code ?_)
  rcases Bool.eq_false_or_eq_true ((kd == (2 : Int))) with hb2 | hb2
  ·have hp2 := eq_of_beq hb2
   refine CE.cond_t rfl hb2 ?_
   refine CE.seq (CE.region ?_)
   iterate 2 refine WD (op_assign rfl) rfl ?_
   refine WL.end (NE.code (CE.ret' (XE.ret_blk (XE.ret_then ?_))))
   refine XE.leaveT Try.results149 (res_tmp rfl (res_tmp rfl res_nil)) ?_
   refine ⟨?_, rfl⟩
   all_goals first | (simp_all [usesC, usesS]; done) | (have e : kd = 4 := (by omega); subst e; rfl)
  ·have hp2 := ne_of_beq_false hb2
   refine CE.cond_f rfl hb2 ?_
   refine CE.seq (CE.seq (CE.region ?_))
   refine WD (op_eqi rfl rfl) rfl ?_
   refine WD (op_assign rfl) rfl ?_
   refine WL.end (NE.code ?_)
   rcases Bool.eq_false_or_eq_true ((kd == (3 : Int))) with hb3 | hb3
   ·have hp3 := eq_of_beq hb3
    refine CE.cond_t rfl hb3 ?_
    refine CE.skip' (NE.code ?_)
    refine CE.cond_t rfl hb3 ?_
    refine CE.seq (CE.region ?_)
    iterate 2 refine WD (op_assign rfl) rfl ?_
    refine WL.end (NE.code (CE.ret' (XE.ret_blk (XE.ret_then ?_))))
    refine XE.leaveT Try.results149 (res_tmp rfl (res_tmp rfl res_nil)) ?_
    refine ⟨?_, rfl⟩
    all_goals first | (simp_all [usesC, usesS]; done) | (have e : kd = 4 := (by omega); subst e; rfl)
   ·have hp3 := ne_of_beq_false hb3
    refine CE.cond_f rfl hb3 ?_
    refine CE.region ?_
    refine WD (op_eqi rfl rfl) rfl ?_
    refine WD (op_assign rfl) rfl ?_
    refine WL.end (NE.code ?_)
    rcases Bool.eq_false_or_eq_true ((kd == (5 : Int))) with hb4 | hb4
    ·have hp4 := eq_of_beq hb4
     refine CE.cond_t rfl hb4 ?_
     refine CE.seq (CE.region ?_)
     iterate 2 refine WD (op_assign rfl) rfl ?_
     refine WL.end (NE.code (CE.ret' (XE.ret_blk (XE.ret_then ?_))))
     refine XE.leaveT Try.results149 (res_tmp rfl (res_tmp rfl res_nil)) ?_
     refine ⟨?_, rfl⟩
     all_goals first | (simp_all [usesC, usesS]; done) | (have e : kd = 4 := (by omega); subst e; rfl)
    ·have hp4 := ne_of_beq_false hb4
     refine CE.cond_f rfl hb4 ?_
     refine CE.skip' (NE.blk (NE.code (CE.seq (CE.region ?_))))
     iterate 2 refine WD (op_assign rfl) rfl ?_
     refine WL.end (NE.code (CE.ret' ?_))
     refine XE.leaveT Try.results149 (res_tmp rfl (res_tmp rfl res_nil)) ?_
     refine ⟨?_, rfl⟩
     all_goals first | (simp_all [usesC, usesS]; done) | (have e : kd = 4 := (by omega); subst e; rfl)

theorem c_isUsed (n : Nat) (c : Nat) (b : Nat) (o : Nat) (xs : List Nat) (k : Nat) (ln : xs.length = n) (hn : n ≤ 1048576) (w : World) (r : Rng w b o (fl xs)) : Cl Try.prog 157 #[vS b o n c, vI ((k : Nat) : Int)] w fun v w' => v = .bool (usedF xs k n) ∧ Mod [] w w' := by
 refine Cl.of Try.func157 Try.ntmps157 rfl rfl (ρ := [(0, vS b o n c), (1, vI ((k : Nat) : Int))]) rfl ?_
 refine CE.seq (CE.region ?_)
 refine WD (op_assign rfl) rfl ?_
 refine WL.end (NE.code (CE.seq (CE.seq (CE.region ?_))))
 refine WD (op_move rfl) rfl ?_
 refine WD (op_len rfl Try.runUnderlying26) rfl ?_
 refine WD (op_move rfl) rfl ?_
 refine WL.end (NE.code (CE.block ?_))
 refine CE.loop (fun (i : Nat) => [(9, vI ((i : Nat) : Int)), (1, vI ((k : Nat) : Int)), (4, .bool false), (7, vS b o n c), (8, vI ((n : Nat) : Int))]) (fun (i : Nat) => fun W => (i ≤ n) ∧ (usedF xs k i = true) ∧ Mod [] w W) (fun (i : Nat) => n - i) 0 (⟨rfl, rfl, rfl, rfl, rfl, trivial⟩) ⟨(by omega), (by rfl), Mod.refl _ _⟩ ?_
 rintro i w1 ⟨hi, hu, m1⟩
 show CE _ _ _ _ [(9, vI ((i : Nat) : Int)), (1, vI ((k : Nat) : Int)), (4, .bool false), (7, vS b o n c), (8, vI ((n : Nat) : Int))] _
 refine CE.seq (CE.region ?_)
 refine WD (op_lti rfl rfl) rfl ?_
 refine WL.end (NE.code (CE.seq ?_))
 rcases Bool.eq_false_or_eq_true (decide (((i : Nat) : Int) < ((n : Nat) : Int))) with hb1 | hb1
 ·have hp1 := of_decide_eq_true hb1
  refine CE.cond_t rfl hb1 ?_
  refine CE.skip' (NE.code (CE.seq (CE.block (CE.seq (CE.region ?_)))))
  refine WD (op_move rfl) rfl ?_
  refine WD (op_indexSl (off' := o + i) rfl rfl rfl Try.runUnderlying26 Try.sizeOf27 (by omega) (by omega) (by omega)) rfl ?_
  refine WD (op_load1 (i := i) rfl Try.isAgg27 (r.ext m1) rfl (fl_get (by have eL : List.length xs = n := ln; omega))) rfl ?_
  iterate 2 refine WD (op_assign rfl) rfl ?_
  refine WL.end (NE.code (CE.seq (CE.region ?_)))
  refine WD (op_move rfl) rfl ?_
  refine WL.call (oc_call (vs := [vF (xs.getD i 0)]) (cap := []) rfl rfl rfl Try.call92 (c_isFinite (xs.getD i 0) (xs.getD i 0) rfl w1)) rfl rfl (ltb rfl) ?_
  rintro _ w2 ⟨rfl, m2⟩
  refine WD (op_not rfl) rfl ?_
  refine WD (op_move rfl) rfl ?_
  rcases Bool.eq_false_or_eq_true (finF (xs.getD i 0)) with hb2 | hb2
  ·refine WL.yes rfl rfl rfl (ltb rfl) rfl (bnot_t hb2) ?_
   refine WD (op_move rfl) rfl ?_
   refine WL.yes rfl rfl rfl (ltb rfl) rfl (bnot_t hb2) ?_
   refine WD (op_move rfl) rfl ?_
   refine WL.yes rfl rfl rfl (ltb rfl) rfl (bnot_t hb2) ?_
   refine WD (op_gei rfl rfl) rfl ?_
   refine WL.yes rfl rfl rfl (ltb rfl) rfl (bnot_t hb2) ?_
   refine WD (op_move rfl) rfl ?_
   rcases Bool.eq_false_or_eq_true (decide (((k : Nat) : Int) ≤ ((i : Nat) : Int))) with hb3 | hb3
   ·have hp3 := of_decide_eq_true hb3
    refine WL.yes rfl rfl rfl (ltb rfl) rfl hb3 ?_
    refine WD (op_move rfl) rfl ?_
    refine WL.yes rfl rfl rfl (ltb rfl) rfl hb3 ?_
    refine WL.call (oc_call (vs := [vF (xs.getD i 0)]) (cap := []) rfl rfl rfl Try.call159 (c_bitsOf (xs.getD i 0) (xs.getD i 0) rfl w2)) rfl rfl (ltb rfl) ?_
    rintro _ _ ⟨rfl, rfl⟩
    refine WL.yes rfl rfl rfl (ltb rfl) rfl hb3 ?_
    refine WD (op_nei rfl rfl) rfl ?_
    refine WL.yes rfl rfl rfl (ltb rfl) rfl (bnot_t hb2) ?_
    refine WD (op_pick_t rfl hb3 rfl) rfl ?_
    refine WD (op_pick_f rfl (bnot_t hb2) rfl) rfl ?_
    refine WL.end (NE.code ?_)
    rcases Bool.eq_false_or_eq_true ((((cn .f32 (xs.getD i 0) : Nat) : Int) != (0 : Int))) with hb4 | hb4
    ·have hp4 := bne_iff_ne.1 hb4
     refine CE.cond_t rfl hb4 ?_
     refine CE.seq (CE.region ?_)
     refine WD (op_assign rfl) rfl ?_
     refine WL.end (NE.code (CE.ret' (XE.ret_blk (XE.ret_then (XE.ret_then (XE.ret_blk (XE.ret_then ?_)))))))
     refine XE.leave1 Try.results157 rfl ?_
     refine ⟨?_, (((Mod.refl [] w).nt m1).nt m2)⟩
     all_goals first | (have e : i = n := (by omega); subst e; rw [hu]; done) | (rw [usedF_out (i := i) (by omega) (by simp_all [okF, cn_zero])])
    ·have hp4 := bne_eq_false_iff_eq.1 hb4
     refine CE.cond_f rfl hb4 ?_
     refine CE.skip' (NE.blk (NE.code (CE.region ?_)))
     refine WD (op_add (r := ((i + 1 : Nat) : Int)) rfl rfl (w_i64 (by omega) (by omega))) rfl ?_
     refine WD (op_move rfl) rfl ?_
     refine WL.end ?_
     exact NE.again (i + 1) (⟨rfl, rfl, rfl, rfl, rfl, trivial⟩) ⟨(by omega), (by exact usedF_step hu (by simp_all [okF, cn_zero])), (m1.nt m2)⟩ (by first | (dsimp only; omega) | omega)
   ·have hp3 := of_decide_eq_false hb3
    iterate 3 refine WL.no rfl rfl rfl (ltb rfl) rfl hb3 rfl (ltb rfl) ?_
    refine WL.yes rfl rfl rfl (ltb rfl) rfl (bnot_t hb2) ?_
    refine WD (op_pick_f rfl hb3 rfl) rfl ?_
    refine WD (op_pick_f rfl (bnot_t hb2) rfl) rfl ?_
    refine WL.end (NE.code ?_)
    refine CE.cond_f rfl rfl ?_
    refine CE.skip' (NE.blk (NE.code (CE.region ?_)))
    refine WD (op_add (r := ((i + 1 : Nat) : Int)) rfl rfl (w_i64 (by omega) (by omega))) rfl ?_
    refine WD (op_move rfl) rfl ?_
    refine WL.end ?_
    exact NE.again (i + 1) (⟨rfl, rfl, rfl, rfl, rfl, trivial⟩) ⟨(by omega), (by exact usedF_step hu (by simp_all [okF, cn_zero])), (m1.nt m2)⟩ (by first | (dsimp only; omega) | omega)
  ·refine WL.no rfl rfl rfl (ltb rfl) rfl (bnot_f hb2) rfl (ltb rfl) ?_
   iterate 3 refine WL.no rfl rfl rfl (ltb rfl) rfl (bnot_f hb2) rfl (ltb rfl) ?_
   iterate 3 refine WL.nou rfl rfl rfl (ltb rfl) rfl rfl (ltb rfl) ?_
   refine WL.no rfl rfl rfl (ltb rfl) rfl (bnot_f hb2) rfl (ltb rfl) ?_
   refine WD (op_pick_t rfl (bnot_f hb2) rfl) rfl ?_
   refine WL.end (NE.code ?_)
   refine CE.cond_t rfl rfl ?_
   refine CE.seq (CE.region ?_)
   refine WD (op_assign rfl) rfl ?_
   refine WL.end (NE.code (CE.ret' (XE.ret_blk (XE.ret_then (XE.ret_then (XE.ret_blk (XE.ret_then ?_)))))))
   refine XE.leave1 Try.results157 rfl ?_
   refine ⟨?_, (((Mod.refl [] w).nt m1).nt m2)⟩
   all_goals first | (have e : i = n := (by omega); subst e; rw [hu]; done) | (rw [usedF_out (i := i) (by omega) (by simp_all [okF, cn_zero])])
 ·have hp1 := of_decide_eq_false hb1
  refine CE.cond_f rfl hb1 ?_
  refine CE.exit' (XE.exit_then (XE.exit_then (XE.exit_here (NE.code (CE.seq (CE.region ?_))))))
  refine WD (op_assign rfl) rfl ?_
  refine WL.end (NE.code (CE.ret' ?_))
  refine XE.leave1 Try.results157 rfl ?_
  refine ⟨?_, ((Mod.refl [] w).nt m1)⟩
  all_goals first | (have e : i = n := (by omega); subst e; rw [hu]; done) | (rw [usedF_out (i := i) (by omega) (by simp_all [okF, cn_zero])])

theorem c_ValidFilter (kd : Int) (c0 : Nat) (c1 : Nat) (c2 : Nat) (s0 : Nat) (s1 : Nat) (w : World) : Cl Try.prog 145 #[.agg #[vI kd, vF c0, vF c1, vF c2, vF s0, vF s1]] w fun v w' => v = .bool (vFil kd c0 c1 c2 s0 s1) ∧ Mod [] w w' := by
 refine Cl.of Try.func145 Try.ntmps145 rfl rfl (ρ := [(0, .agg #[vI kd, vF c0, vF c1, vF c2, vF s0, vF s1])]) rfl ?_
 refine CE.seq (CE.region ?_)
 refine WL.op (op_box (cs := [vI kd, vF c0, vF c1, vF c2, vF s0, vF s1]) rfl rfl) rfl rfl (ltb rfl) ?_
 rintro _ w1 ⟨rfl, r1, m1, z1⟩
 refine WD (op_assign rfl) rfl ?_
 refine WL.end (NE.code (CE.seq (CE.region ?_)))
 refine WD (op_fieldAddr (off' := 0) rfl Try.runUnderlying31 rfl rfl Try.sizeOf2 rfl) rfl ?_
 refine WD (op_load1 (i := 0) rfl Try.isAgg2 r1.rng rfl rfl) rfl ?_
 refine WL.call (oc_call (vs := [vI kd]) (cap := []) rfl rfl rfl Try.call156 (c_uses kd w1)) rfl rfl (ltb rfl) ?_
 rintro _ _ ⟨rfl, rfl⟩
 refine WD (op_move rfl) rfl ?_
 iterate 2 refine WD (op_extract rfl rfl) rfl ?_
 iterate 2 refine WD (op_assign rfl) rfl ?_
 refine WL.end (NE.code (CE.seq (CE.region ?_)))
 refine WD (op_move rfl) rfl ?_
 refine WD (op_gti rfl rfl) rfl ?_
 refine WD (op_move rfl) rfl ?_
 rcases Bool.eq_false_or_eq_true (decide ((0 : Int) < (((usesC kd) : Nat) : Int))) with hb1 | hb1
 ·have hp1 := of_decide_eq_true hb1
  refine WL.yes rfl rfl rfl (ltb rfl) rfl hb1 ?_
  refine WD (op_fieldAddr (off' := 1) rfl Try.runUnderlying31 rfl rfl Try.sizeOf28 rfl) rfl ?_
  refine WL.yes rfl rfl rfl (ltb rfl) rfl hb1 ?_
  refine WD (op_sliceArr rfl Try.runUnderlying28 Try.sizeOf27) rfl ?_
  refine WL.yes rfl rfl rfl (ltb rfl) rfl hb1 ?_
  refine WD (op_move rfl) rfl ?_
  refine WL.yes rfl rfl rfl (ltb rfl) rfl hb1 ?_
  refine WL.call (oc_call (vs := [vS w.heap.size 1 3 3, vI (((usesC kd) : Nat) : Int)]) (cap := []) rfl rfl rfl Try.call157 (c_isUsed 3 3 w.heap.size 1 [c0, c1, c2] (usesC kd) rfl (by omega) w1 ((r1.rng.drop 1).take 3))) rfl rfl (ltb rfl) ?_
  rintro _ w2 ⟨rfl, m2⟩
  refine WD (op_pick_t rfl hb1 rfl) rfl ?_
  refine WD (op_move rfl) rfl ?_
  rcases Bool.eq_false_or_eq_true (usedF [c0, c1, c2] (usesC kd) 3) with hb2 | hb2
  ·refine WL.yes rfl rfl rfl (ltb rfl) rfl hb2 ?_
   refine WD (op_fieldAddr (off' := 4) rfl Try.runUnderlying31 rfl rfl Try.sizeOf29 rfl) rfl ?_
   refine WL.yes rfl rfl rfl (ltb rfl) rfl hb2 ?_
   refine WD (op_sliceArr rfl Try.runUnderlying29 Try.sizeOf27) rfl ?_
   refine WL.yes rfl rfl rfl (ltb rfl) rfl hb2 ?_
   refine WD (op_move rfl) rfl ?_
   refine WL.yes rfl rfl rfl (ltb rfl) rfl hb2 ?_
   refine WL.call (oc_call (vs := [vS w.heap.size 4 2 2, vI (((usesS kd) : Nat) : Int)]) (cap := []) rfl rfl rfl Try.call157 (c_isUsed 2 2 w.heap.size 4 [s0, s1] (usesS kd) rfl (by omega) w2 (((r1.ext m2).rng.drop 4).take 2))) rfl rfl (ltb rfl) ?_
   rintro _ w3 ⟨rfl, m3⟩
   refine WD (op_pick_t rfl hb2 rfl) rfl ?_
   refine WD (op_assign rfl) rfl ?_
   refine WL.end (NE.code (CE.ret' ?_))
   refine XE.leave1 Try.results145 rfl ?_
   refine ⟨?_, ((((Mod.refl [] w).nt m1).nt m2).nt m3)⟩
   all_goals simp_all [vFil_eq]
  ·refine WL.no rfl rfl rfl (ltb rfl) rfl hb2 rfl (ltb rfl) ?_
   iterate 3 refine WL.no rfl rfl rfl (ltb rfl) rfl hb2 rfl (ltb rfl) ?_
   refine WD (op_pick_f rfl hb2 rfl) rfl ?_
   refine WD (op_assign rfl) rfl ?_
   refine WL.end (NE.code (CE.ret' ?_))
   refine XE.leave1 Try.results145 rfl ?_
   refine ⟨?_, (((Mod.refl [] w).nt m1).nt m2)⟩
   all_goals simp_all [vFil_eq]
 ·have hp1 := of_decide_eq_false hb1
  iterate 4 refine WL.no rfl rfl rfl (ltb rfl) rfl hb1 rfl (ltb rfl) ?_
  refine WD (op_pick_f rfl hb1 rfl) rfl ?_
  refine WD (op_move rfl) rfl ?_
  iterate 4 refine WL.no rfl rfl rfl (ltb rfl) rfl rfl rfl (ltb rfl) ?_
  refine WD (op_pick_f rfl rfl rfl) rfl ?_
  refine WD (op_assign rfl) rfl ?_
  refine WL.end (NE.code (CE.ret' ?_))
  refine XE.leave1 Try.results145 rfl ?_
  refine ⟨?_, ((Mod.refl [] w).nt m1)⟩
  all_goals simp_all [vFil_eq]

theorem c_l02Ok (kd : Int) (c0 : Nat) (c1 : Nat) (c2 : Nat) (s0 : Nat) (s1 : Nat) (p : Nat) (k : Nat) (vs : List Value) (hk : k + 6 ≤ vs.length) (w : World) (r : Rng w p 0 (splice vs k [vI kd, vF c0, vF c1, vF c2, vF s0, vF s1])) : Cl Try.prog 109 #[vP p k] w fun v w' => v = .bool (vFil kd c0 c1 c2 s0 s1) ∧ Mod [] w w' := by
 refine Cl.of Try.func109 Try.ntmps109 rfl rfl (ρ := [(0, vP p k)]) rfl ?_
 have rC : Rng w p (k + 1) (fl [c0, c1, c2]) := ((r.sub hk).drop 1).take 3
 have rS : Rng w p (k + 4) (fl [s0, s1]) := ((r.sub hk).drop 4).take 2
 refine CE.seq (CE.region ?_)
 refine WD (op_assign rfl) rfl ?_
 refine WL.end (NE.code (CE.seq (CE.seq (CE.region ?_))))
 refine WD (op_move rfl) rfl ?_
 refine WD (op_nilCheck rfl) rfl ?_
 refine WD (op_fieldAddr (off' := k) rfl Try.runUnderlying31 rfl rfl Try.sizeOf2 rfl) rfl ?_
 refine WD (op_load1 (i := k) rfl Try.isAgg2 r (Nat.zero_add _) (sub_get (i := 0) hk rfl)) rfl ?_
 refine WL.call (oc_call (vs := [vI kd, vI 1, vI 5]) (cap := []) rfl rfl rfl Try.call55 (c_l00In kd (1 : Int) (5 : Int) w)) rfl rfl (ltb rfl) ?_
 rintro _ _ ⟨rfl, rfl⟩
 refine WD (op_not rfl) rfl ?_
 refine WL.end (NE.code ?_)
 rcases Bool.eq_false_or_eq_true (vIn kd (1 : Int) (5 : Int)) with hb1 | hb1
 ·have hp1 := hb1; try simp only [Bool.and_eq_true, Bool.or_eq_true, Bool.not_eq_true', Bool.not_eq_false', Bool.and_eq_false_iff, Bool.or_eq_false_iff, decide_eq_true_eq, decide_eq_false_iff_not, beq_iff_eq, bne_iff_ne, beq_eq_false_iff_ne, bne_eq_false_iff_eq, ne_eq, Bool.false_eq_true, not_false_eq_true, not_true_eq_false, vIn_t, vIn_f] at hp1
  refine CE.cond_f rfl (bnot_t hb1) ?_
  refine CE.skip' (NE.code (CE.seq (CE.region ?_)))
  refine WD (op_move rfl) rfl ?_
  refine WD (op_nilCheck rfl) rfl ?_
  refine WD (op_fieldAddr (off' := k) rfl Try.runUnderlying31 rfl rfl Try.sizeOf2 rfl) rfl ?_
  refine WD (op_load1 (i := k) rfl Try.isAgg2 r (Nat.zero_add _) (sub_get (i := 0) hk rfl)) rfl ?_
  refine WL.call (oc_call (vs := [vI kd]) (cap := []) rfl rfl rfl Try.call149 (c_l02Uses kd (by omega) w)) rfl rfl (ltb rfl) ?_
  rintro _ _ ⟨rfl, rfl⟩
  refine WD (op_move rfl) rfl ?_
  iterate 2 refine WD (op_extract rfl rfl) rfl ?_
  iterate 2 refine WD (op_assign rfl) rfl ?_
  refine WL.end (NE.code (CE.seq (CE.seq (CE.region ?_))))
  refine WD (op_assign rfl) rfl ?_
  refine WL.end (NE.code (CE.block ?_))
  refine CE.loop (fun (i : Nat) => [(5, vI ((i : Nat) : Int)), (0, vP p k), (2, .bool false), (3, vI (((usesC kd) : Nat) : Int)), (4, vI (((usesS kd) : Nat) : Int))]) (fun (i : Nat) => fun W => (i ≤ 3) ∧ (usedF [c0, c1, c2] (usesC kd) i = true) ∧ Mod [] w W) (fun (i : Nat) => 3 - i) 0 (⟨rfl, rfl, rfl, rfl, rfl, trivial⟩) ⟨(by omega), (by rfl), Mod.refl _ _⟩ ?_
  rintro i w1 ⟨hi, hu, m1⟩
  show CE _ _ _ _ [(5, vI ((i : Nat) : Int)), (0, vP p k), (2, .bool false), (3, vI (((usesC kd) : Nat) : Int)), (4, vI (((usesS kd) : Nat) : Int))] _
  refine CE.seq (CE.seq (CE.region ?_))
  refine WD (op_move rfl) rfl ?_
  refine WD (op_lti rfl rfl) rfl ?_
  refine WL.end (NE.code ?_)
  rcases Bool.eq_false_or_eq_true (decide (((i : Nat) : Int) < (3 : Int))) with hb2 | hb2
  ·have hp2 := of_decide_eq_true hb2
   refine CE.cond_t rfl hb2 ?_
   refine CE.skip' (NE.code (CE.seq (CE.block (CE.seq (CE.region ?_)))))
   iterate 2 refine WD (op_move rfl) rfl ?_
   refine WD (op_nilCheck rfl) rfl ?_
   refine WD (op_fieldAddr (off' := k + 1) rfl Try.runUnderlying31 rfl rfl Try.sizeOf28 rfl) rfl ?_
   refine WD (op_indexArr (off' := k + 1 + i) rfl rfl Try.runUnderlying28 Try.sizeOf27 (by omega) (by omega) (by omega)) rfl ?_
   refine WD (op_load1 (i := i) rfl Try.isAgg27 (rC.ext m1) rfl (fl_get (by have eL : List.length [c0, c1, c2] = 3 := rfl; omega))) rfl ?_
   refine WL.call (oc_call (vs := [vF ([c0, c1, c2].getD i 0)]) (cap := []) rfl rfl rfl Try.call58 (c_l01Finite ([c0, c1, c2].getD i 0) ([c0, c1, c2].getD i 0) rfl w1)) rfl rfl (ltb rfl) ?_
   rintro _ w2 ⟨rfl, m2⟩
   refine WD (op_not rfl) rfl ?_
   refine WD (op_move rfl) rfl ?_
   rcases Bool.eq_false_or_eq_true (finF ([c0, c1, c2].getD i 0)) with hb3 | hb3
   ·refine WL.yes rfl rfl rfl (ltb rfl) rfl (bnot_t hb3) ?_
    refine WD (op_move rfl) rfl ?_
    refine WL.yes rfl rfl rfl (ltb rfl) rfl (bnot_t hb3) ?_
    refine WD (op_move rfl) rfl ?_
    refine WL.yes rfl rfl rfl (ltb rfl) rfl (bnot_t hb3) ?_
    refine WD (op_gei rfl rfl) rfl ?_
    refine WL.yes rfl rfl rfl (ltb rfl) rfl (bnot_t hb3) ?_
    refine WD (op_move rfl) rfl ?_
    rcases Bool.eq_false_or_eq_true (decide ((((usesC kd) : Nat) : Int) ≤ ((i : Nat) : Int))) with hb4 | hb4
    ·have hp4 := of_decide_eq_true hb4
     refine WL.yes rfl rfl rfl (ltb rfl) rfl hb4 ?_
     refine WD (op_move rfl) rfl ?_
     refine WL.yes rfl rfl rfl (ltb rfl) rfl hb4 ?_
     refine WD (op_move rfl) rfl ?_
     refine WL.yes rfl rfl rfl (ltb rfl) rfl hb4 ?_
     refine WD (op_nilCheck rfl) rfl ?_
     refine WL.yes rfl rfl rfl (ltb rfl) rfl hb4 ?_
     refine WD (op_fieldAddr (off' := k + 1) rfl Try.runUnderlying31 rfl rfl Try.sizeOf28 rfl) rfl ?_
     refine WL.yes rfl rfl rfl (ltb rfl) rfl hb4 ?_
     refine WD (op_indexArr (off' := k + 1 + i) rfl rfl Try.runUnderlying28 Try.sizeOf27 (by omega) (by omega) (by omega)) rfl ?_
     refine WL.yes rfl rfl rfl (ltb rfl) rfl hb4 ?_
     refine WD (op_load1 (i := i) rfl Try.isAgg27 ((rC.ext m1).ext m2) rfl (fl_get (by have eL : List.length [c0, c1, c2] = 3 := rfl; omega))) rfl ?_
     refine WL.yes rfl rfl rfl (ltb rfl) rfl hb4 ?_
     refine WL.call (oc_call (vs := [vF ([c0, c1, c2].getD i 0), vF 0]) (cap := []) rfl rfl rfl Try.call128 (c_l01Same ([c0, c1, c2].getD i 0) ([c0, c1, c2].getD i 0) 0 0 rfl rfl w2)) rfl rfl (ltb rfl) ?_
     rintro _ _ ⟨rfl, rfl⟩
     refine WL.yes rfl rfl rfl (ltb rfl) rfl hb4 ?_
     refine WD (op_not rfl) rfl ?_
     refine WL.yes rfl rfl rfl (ltb rfl) rfl (bnot_t hb3) ?_
     refine WD (op_pick_t rfl hb4 rfl) rfl ?_
     refine WD (op_pick_f rfl (bnot_t hb3) rfl) rfl ?_
     refine WL.end (NE.code ?_)
     rcases Bool.eq_false_or_eq_true (cn .f32 ([c0, c1, c2].getD i 0) == cn .f32 0) with hb5 | hb5
     ·have hp5 := hb5; try simp only [Bool.and_eq_true, Bool.or_eq_true, Bool.not_eq_true', Bool.not_eq_false', Bool.and_eq_false_iff, Bool.or_eq_false_iff, decide_eq_true_eq, decide_eq_false_iff_not, beq_iff_eq, bne_iff_ne, beq_eq_false_iff_ne, bne_eq_false_iff_eq, ne_eq, Bool.false_eq_true, not_false_eq_true, not_true_eq_false, vIn_t, vIn_f] at hp5
      refine CE.cond_f rfl (bnot_t hb5) ?_
      refine CE.skip' (NE.blk (NE.code (CE.region ?_)))
      refine WD (op_move rfl) rfl ?_
      refine WD (op_add (r := ((i + 1 : Nat) : Int)) rfl rfl (w_i64 (by omega) (by omega))) rfl ?_
      refine WD (op_assign rfl) rfl ?_
      refine WL.end ?_
      exact NE.again (i + 1) (⟨rfl, rfl, rfl, rfl, rfl, trivial⟩) ⟨(by omega), (by exact usedF_step hu (by simp_all [okF, cn_zero])), (m1.nt m2)⟩ (by first | (dsimp only; omega) | omega)
     ·have hp5 := hb5; try simp only [Bool.and_eq_true, Bool.or_eq_true, Bool.not_eq_true', Bool.not_eq_false', Bool.and_eq_false_iff, Bool.or_eq_false_iff, decide_eq_true_eq, decide_eq_false_iff_not, beq_iff_eq, bne_iff_ne, beq_eq_false_iff_ne, bne_eq_false_iff_eq, ne_eq, Bool.false_eq_true, not_false_eq_true, not_true_eq_false, vIn_t, vIn_f] at hp5
      refine CE.cond_t rfl (bnot_f hb5) ?_
      refine CE.seq (CE.region ?_)
      refine WD (op_assign rfl) rfl ?_
      refine WL.end (NE.code (CE.ret' (XE.ret_blk (XE.ret_then (XE.ret_then (XE.ret_blk (XE.ret_then ?_)))))))
      refine XE.leave1 Try.results109 rfl ?_
      refine ⟨?_, (((Mod.refl [] w).nt m1).nt m2)⟩
      all_goals first | exact congrArg Value.bool (vFil_kd (by assumption)).symm | exact congrArg Value.bool (vFil_t ‹_› (by rwa [show i = 3 by omega] at hu) (by rwa [show j = 2 by omega] at hv)).symm | exact congrArg Value.bool (vFil_c (usedF_out (i := i) (by omega) (by simp_all [okF, cn_zero]))).symm | exact congrArg Value.bool (vFil_s (usedF_out (i := j) (by omega) (by simp_all [okF, cn_zero]))).symm
    ·have hp4 := of_decide_eq_false hb4
     iterate 8 refine WL.no rfl rfl rfl (ltb rfl) rfl hb4 rfl (ltb rfl) ?_
     refine WL.yes rfl rfl rfl (ltb rfl) rfl (bnot_t hb3) ?_
     refine WD (op_pick_f rfl hb4 rfl) rfl ?_
     refine WD (op_pick_f rfl (bnot_t hb3) rfl) rfl ?_
     refine WL.end (NE.code ?_)
     refine CE.cond_f rfl rfl ?_
     refine CE.skip' (NE.blk (NE.code (CE.region ?_)))
     refine WD (op_move rfl) rfl ?_
     refine WD (op_add (r := ((i + 1 : Nat) : Int)) rfl rfl (w_i64 (by omega) (by omega))) rfl ?_
     refine WD (op_assign rfl) rfl ?_
     refine WL.end ?_
     exact NE.again (i + 1) (⟨rfl, rfl, rfl, rfl, rfl, trivial⟩) ⟨(by omega), (by exact usedF_step hu (by simp_all [okF, cn_zero])), (m1.nt m2)⟩ (by first | (dsimp only; omega) | omega)
   ·refine WL.no rfl rfl rfl (ltb rfl) rfl (bnot_f hb3) rfl (ltb rfl) ?_
    iterate 3 refine WL.no rfl rfl rfl (ltb rfl) rfl (bnot_f hb3) rfl (ltb rfl) ?_
    iterate 8 refine WL.nou rfl rfl rfl (ltb rfl) rfl rfl (ltb rfl) ?_
    refine WL.no rfl rfl rfl (ltb rfl) rfl (bnot_f hb3) rfl (ltb rfl) ?_
    refine WD (op_pick_t rfl (bnot_f hb3) rfl) rfl ?_
    refine WL.end (NE.code ?_)
    refine CE.cond_t rfl rfl ?_
    refine CE.seq (CE.region ?_)
    refine WD (op_assign rfl) rfl ?_
    refine WL.end (NE.code (CE.ret' (XE.ret_blk (XE.ret_then (XE.ret_then (XE.ret_blk (XE.ret_then ?_)))))))
    refine XE.leave1 Try.results109 rfl ?_
    refine ⟨?_, (((Mod.refl [] w).nt m1).nt m2)⟩
    all_goals first | exact congrArg Value.bool (vFil_kd (by assumption)).symm | exact congrArg Value.bool (vFil_t ‹_› (by rwa [show i = 3 by omega] at hu) (by rwa [show j = 2 by omega] at hv)).symm | exact congrArg Value.bool (vFil_c (usedF_out (i := i) (by omega) (by simp_all [okF, cn_zero]))).symm | exact congrArg Value.bool (vFil_s (usedF_out (i := j) (by omega) (by simp_all [okF, cn_zero]))).symm
  ·have hp2 := of_decide_eq_false hb2
   refine CE.cond_f rfl hb2 ?_
   refine CE.exit' (XE.exit_then (XE.exit_then (XE.exit_here (NE.code (CE.seq (CE.seq (CE.region ?_)))))))
   refine WD (op_assign rfl) rfl ?_
   refine WL.end (NE.code (CE.block ?_))
   refine CE.loop (fun (j : Nat) => [(6, vI ((j : Nat) : Int)), (0, vP p k), (2, .bool false), (4, vI (((usesS kd) : Nat) : Int))]) (fun (j : Nat) => fun W => (j ≤ 2) ∧ (usedF [s0, s1] (usesS kd) j = true) ∧ Mod [] w1 W) (fun (j : Nat) => 2 - j) 0 (⟨rfl, rfl, rfl, rfl, trivial⟩) ⟨(by omega), (by rfl), Mod.refl _ _⟩ ?_
   rintro j w3 ⟨hj, hv, m3⟩
   show CE _ _ _ _ [(6, vI ((j : Nat) : Int)), (0, vP p k), (2, .bool false), (4, vI (((usesS kd) : Nat) : Int))] _
   refine CE.seq (CE.seq (CE.region ?_))
   refine WD (op_move rfl) rfl ?_
   refine WD (op_lti rfl rfl) rfl ?_
   refine WL.end (NE.code ?_)
   rcases Bool.eq_false_or_eq_true (decide (((j : Nat) : Int) < (2 : Int))) with hb6 | hb6
   ·have hp6 := of_decide_eq_true hb6
    refine CE.cond_t rfl hb6 ?_
    refine CE.skip' (NE.code (CE.seq (CE.block (CE.seq (CE.region ?_)))))
    iterate 2 refine WD (op_move rfl) rfl ?_
    refine WD (op_nilCheck rfl) rfl ?_
    refine WD (op_fieldAddr (off' := k + 4) rfl Try.runUnderlying31 rfl rfl Try.sizeOf29 rfl) rfl ?_
    refine WD (op_indexArr (off' := k + 4 + j) rfl rfl Try.runUnderlying29 Try.sizeOf27 (by omega) (by omega) (by omega)) rfl ?_
    refine WD (op_load1 (i := j) rfl Try.isAgg27 ((rS.ext m1).ext m3) rfl (fl_get (by have eL : List.length [s0, s1] = 2 := rfl; omega))) rfl ?_
    refine WL.call (oc_call (vs := [vF ([s0, s1].getD j 0)]) (cap := []) rfl rfl rfl Try.call58 (c_l01Finite ([s0, s1].getD j 0) ([s0, s1].getD j 0) rfl w3)) rfl rfl (ltb rfl) ?_
    rintro _ w4 ⟨rfl, m4⟩
    refine WD (op_not rfl) rfl ?_
    refine WD (op_move rfl) rfl ?_
    rcases Bool.eq_false_or_eq_true (finF ([s0, s1].getD j 0)) with hb7 | hb7
    ·refine WL.yes rfl rfl rfl (ltb rfl) rfl (bnot_t hb7) ?_
     refine WD (op_move rfl) rfl ?_
     refine WL.yes rfl rfl rfl (ltb rfl) rfl (bnot_t hb7) ?_
     refine WD (op_move rfl) rfl ?_
     refine WL.yes rfl rfl rfl (ltb rfl) rfl (bnot_t hb7) ?_
     refine WD (op_gei rfl rfl) rfl ?_
     refine WL.yes rfl rfl rfl (ltb rfl) rfl (bnot_t hb7) ?_
     refine WD (op_move rfl) rfl ?_
     rcases Bool.eq_false_or_eq_true (decide ((((usesS kd) : Nat) : Int) ≤ ((j : Nat) : Int))) with hb8 | hb8
     ·have hp8 := of_decide_eq_true hb8
      refine WL.yes rfl rfl rfl (ltb rfl) rfl hb8 ?_
      refine WD (op_move rfl) rfl ?_
      refine WL.yes rfl rfl rfl (ltb rfl) rfl hb8 ?_
      refine WD (op_move rfl) rfl ?_
      refine WL.yes rfl rfl rfl (ltb rfl) rfl hb8 ?_
      refine WD (op_nilCheck rfl) rfl ?_
      refine WL.yes rfl rfl rfl (ltb rfl) rfl hb8 ?_
      refine WD (op_fieldAddr (off' := k + 4) rfl Try.runUnderlying31 rfl rfl Try.sizeOf29 rfl) rfl ?_
      refine WL.yes rfl rfl rfl (ltb rfl) rfl hb8 ?_
      refine WD (op_indexArr (off' := k + 4 + j) rfl rfl Try.runUnderlying29 Try.sizeOf27 (by omega) (by omega) (by omega)) rfl ?_
      refine WL.yes rfl rfl rfl (ltb rfl) rfl hb8 ?_
      refine WD (op_load1 (i := j) rfl Try.isAgg27 (((rS.ext m1).ext m3).ext m4) rfl (fl_get (by have eL : List.length [s0, s1] = 2 := rfl; omega))) rfl ?_
      refine WL.yes rfl rfl rfl (ltb rfl) rfl hb8 ?_
      refine WL.call (oc_call (vs := [vF ([s0, s1].getD j 0), vF 0]) (cap := []) rfl rfl rfl Try.call128 (c_l01Same ([s0, s1].getD j 0) ([s0, s1].getD j 0) 0 0 rfl rfl w4)) rfl rfl (ltb rfl) ?_
      rintro _ _ ⟨rfl, rfl⟩
      refine WL.yes rfl rfl rfl (ltb rfl) rfl hb8 ?_
      refine WD (op_not rfl) rfl ?_
      refine WL.yes rfl rfl rfl (ltb rfl) rfl (bnot_t hb7) ?_
      refine WD (op_pick_t rfl hb8 rfl) rfl ?_
      refine WD (op_pick_f rfl (bnot_t hb7) rfl) rfl ?_
      refine WL.end (NE.code ?_)
      rcases Bool.eq_false_or_eq_true (cn .f32 ([s0, s1].getD j 0) == cn .f32 0) with hb9 | hb9
      ·have hp9 := hb9; try simp only [Bool.and_eq_true, Bool.or_eq_true, Bool.not_eq_true', Bool.not_eq_false', Bool.and_eq_false_iff, Bool.or_eq_false_iff, decide_eq_true_eq, decide_eq_false_iff_not, beq_iff_eq, bne_iff_ne, beq_eq_false_iff_ne, bne_eq_false_iff_eq, ne_eq, Bool.false_eq_true, not_false_eq_true, not_true_eq_false, vIn_t, vIn_f] at hp9
       refine CE.cond_f rfl (bnot_t hb9) ?_
       refine CE.skip' (NE.blk (NE.code (CE.region ?_)))
       refine WD (op_move rfl) rfl ?_
       refine WD (op_add (r := ((j + 1 : Nat) : Int)) rfl rfl (w_i64 (by omega) (by omega))) rfl ?_
       refine WD (op_assign rfl) rfl ?_
       refine WL.end ?_
       exact NE.again (j + 1) (⟨rfl, rfl, rfl, rfl, trivial⟩) ⟨(by omega), (by exact usedF_step hv (by simp_all [okF, cn_zero])), (m3.nt m4)⟩ (by first | (dsimp only; omega) | omega)
      ·have hp9 := hb9; try simp only [Bool.and_eq_true, Bool.or_eq_true, Bool.not_eq_true', Bool.not_eq_false', Bool.and_eq_false_iff, Bool.or_eq_false_iff, decide_eq_true_eq, decide_eq_false_iff_not, beq_iff_eq, bne_iff_ne, beq_eq_false_iff_ne, bne_eq_false_iff_eq, ne_eq, Bool.false_eq_true, not_false_eq_true, not_true_eq_false, vIn_t, vIn_f] at hp9
       refine CE.cond_t rfl (bnot_f hb9) ?_
       refine CE.seq (CE.region ?_)
       refine WD (op_assign rfl) rfl ?_
       refine WL.end (NE.code (CE.ret' (XE.ret_blk (XE.ret_then (XE.ret_then (XE.ret_blk (XE.ret_then ?_)))))))
       refine XE.leave1 Try.results109 rfl ?_
       refine ⟨?_, ((((Mod.refl [] w).nt m1).nt m3).nt m4)⟩
       all_goals first | exact congrArg Value.bool (vFil_kd (by assumption)).symm | exact congrArg Value.bool (vFil_t ‹_› (by rwa [show i = 3 by omega] at hu) (by rwa [show j = 2 by omega] at hv)).symm | exact congrArg Value.bool (vFil_c (usedF_out (i := i) (by omega) (by simp_all [okF, cn_zero]))).symm | exact congrArg Value.bool (vFil_s (usedF_out (i := j) (by omega) (by simp_all [okF, cn_zero]))).symm
     ·have hp8 := of_decide_eq_false hb8
      iterate 8 refine WL.no rfl rfl rfl (ltb rfl) rfl hb8 rfl (ltb rfl) ?_
      refine WL.yes rfl rfl rfl (ltb rfl) rfl (bnot_t hb7) ?_
      refine WD (op_pick_f rfl hb8 rfl) rfl ?_
      refine WD (op_pick_f rfl (bnot_t hb7) rfl) rfl ?_
      refine WL.end (NE.code ?_)
      refine CE.cond_f rfl rfl ?_
      refine CE.skip' (NE.blk (NE.code (CE.region ?_)))
      refine WD (op_move rfl) rfl ?_
      refine WD (op_add (r := ((j + 1 : Nat) : Int)) rfl rfl (w_i64 (by omega) (by omega))) rfl ?_
      refine WD (op_assign rfl) rfl ?_
      refine WL.end ?_
      exact NE.again (j + 1) (⟨rfl, rfl, rfl, rfl, trivial⟩) ⟨(by omega), (by exact usedF_step hv (by simp_all [okF, cn_zero])), (m3.nt m4)⟩ (by first | (dsimp only; omega) | omega)
    ·refine WL.no rfl rfl rfl (ltb rfl) rfl (bnot_f hb7) rfl (ltb rfl) ?_
     iterate 3 refine WL.no rfl rfl rfl (ltb rfl) rfl (bnot_f hb7) rfl (ltb rfl) ?_
     iterate 8 refine WL.nou rfl rfl rfl (ltb rfl) rfl rfl (ltb rfl) ?_
     refine WL.no rfl rfl rfl (ltb rfl) rfl (bnot_f hb7) rfl (ltb rfl) ?_
     refine WD (op_pick_t rfl (bnot_f hb7) rfl) rfl ?_
     refine WL.end (NE.code ?_)
     refine CE.cond_t rfl rfl ?_
     refine CE.seq (CE.region ?_)
     refine WD (op_assign rfl) rfl ?_
     refine WL.end (NE.code (CE.ret' (XE.ret_blk (XE.ret_then (XE.ret_then (XE.ret_blk (XE.ret_then ?_)))))))
     refine XE.leave1 Try.results109 rfl ?_
     refine ⟨?_, ((((Mod.refl [] w).nt m1).nt m3).nt m4)⟩
     all_goals first | exact congrArg Value.bool (vFil_kd (by assumption)).symm | exact congrArg Value.bool (vFil_t ‹_› (by rwa [show i = 3 by omega] at hu) (by rwa [show j = 2 by omega] at hv)).symm | exact congrArg Value.bool (vFil_c (usedF_out (i := i) (by omega) (by simp_all [okF, cn_zero]))).symm | exact congrArg Value.bool (vFil_s (usedF_out (i := j) (by omega) (by simp_all [okF, cn_zero]))).symm
   ·have hp6 := of_decide_eq_false hb6
    refine CE.cond_f rfl hb6 ?_
    refine CE.exit' (XE.exit_then (XE.exit_then (XE.exit_here (NE.code (CE.seq (CE.region ?_))))))
    refine WD (op_assign rfl) rfl ?_
    refine WL.end (NE.code (CE.ret' ?_))
    refine XE.leave1 Try.results109 rfl ?_
    refine ⟨?_, (((Mod.refl [] w).nt m1).nt m3)⟩
    all_goals first | exact congrArg Value.bool (vFil_kd (by assumption)).symm | exact congrArg Value.bool (vFil_t ‹_› (by rwa [show i = 3 by omega] at hu) (by rwa [show j = 2 by omega] at hv)).symm | exact congrArg Value.bool (vFil_c (usedF_out (i := i) (by omega) (by simp_all [okF, cn_zero]))).symm | exact congrArg Value.bool (vFil_s (usedF_out (i := j) (by omega) (by simp_all [okF, cn_zero]))).symm
 ·have hp1 := hb1; try simp only [Bool.and_eq_true, Bool.or_eq_true, Bool.not_eq_true', Bool.not_eq_false', Bool.and_eq_false_iff, Bool.or_eq_false_iff, decide_eq_true_eq, decide_eq_false_iff_not, beq_iff_eq, bne_iff_ne, beq_eq_false_iff_ne, bne_eq_false_iff_eq, ne_eq, Bool.false_eq_true, not_false_eq_true, not_true_eq_false, vIn_t, vIn_f] at hp1
  refine CE.cond_t rfl (bnot_f hb1) ?_
  refine CE.seq (CE.region ?_)
  refine WD (op_assign rfl) rfl ?_
  refine WL.end (NE.code (CE.ret' (XE.ret_then ?_)))
  refine XE.leave1 Try.results109 rfl ?_
  refine ⟨?_, (Mod.refl [] w)⟩
  all_goals first | exact congrArg Value.bool (vFil_kd (by assumption)).symm | exact congrArg Value.bool (vFil_t ‹_› (by rwa [show i = 3 by omega] at hu) (by rwa [show j = 2 by omega] at hv)).symm | exact congrArg Value.bool (vFil_c (usedF_out (i := i) (by omega) (by simp_all [okF, cn_zero]))).symm | exact congrArg Value.bool (vFil_s (usedF_out (i := j) (by omega) (by simp_all [okF, cn_zero]))).symm

theorem c_l02Step (kd : Int) (c0 : Nat) (c1 : Nat) (c2 : Nat) (s0 : Nat) (s1 : Nat) (p : Nat) (k : Nat) (vs : List Value) (a : Nat) (x : Nat) (l0 : s0 < wid .f32) (l1 : s1 < wid .f32) (hk : k + 6 ≤ vs.length) (ha : cn .f32 a = cn .f32 x) (la : a < wid .f32) (w : World) (r : Row w p 0 (splice vs k [vI kd, vF c0, vF c1, vF c2, vF s0, vF s1])) : Cl Try.prog 115 #[vP p k, vF a] w fun v w' => ∃ (y : Nat), v = vF y ∧ (cn .f32 y = cn .f32 (stepY kd c0 c1 c2 s0 s1 x)) ∧ (y < wid .f32) ∧ (stepS kd c0 c1 c2 s0 s1 x < wid .f32) ∧ (stepT kd c0 c1 c2 s0 s1 x < wid .f32) ∧ Row w' p 0 (splice vs k [vI kd, vF c0, vF c1, vF c2, vF (stepS kd c0 c1 c2 s0 s1 x), vF (stepT kd c0 c1 c2 s0 s1 x)]) ∧ Mod [p] w w' := by
 refine Cl.of Try.func115 Try.ntmps115 rfl rfl (ρ := [(0, vP p k), (1, vF a)]) rfl ?_
 refine CE.seq (CE.region ?_)
 refine WD (op_assign rfl) rfl ?_
 refine WL.end (NE.code (CE.seq (CE.region ?_)))
 refine WD (op_move rfl) rfl ?_
 refine WD (op_nilCheck rfl) rfl ?_
 refine WD (op_fieldAddr (off' := k + 4) rfl Try.runUnderlying31 rfl rfl Try.sizeOf29 rfl) rfl ?_
 refine WD (op_indexArr (off' := k + 4) rfl rfl Try.runUnderlying29 Try.sizeOf27 (by decide) (by decide) rfl) rfl ?_
 refine WD (op_load1 (i := k + 4) rfl Try.isAgg27 r.rng (Nat.zero_add _) (sub_get (i := 4) hk rfl)) rfl ?_
 refine WD (op_assign rfl) rfl ?_
 refine WL.end (NE.code (CE.seq (CE.region ?_)))
 refine WD (op_move rfl) rfl ?_
 refine WD (op_nilCheck rfl) rfl ?_
 refine WD (op_fieldAddr (off' := k + 4) rfl Try.runUnderlying31 rfl rfl Try.sizeOf29 rfl) rfl ?_
 refine WD (op_indexArr (off' := k + 5) rfl rfl Try.runUnderlying29 Try.sizeOf27 (by decide) (by decide) rfl) rfl ?_
 refine WD (op_load1 (i := k + 5) rfl Try.isAgg27 r.rng (Nat.zero_add _) (sub_get (i := 5) hk rfl)) rfl ?_
 refine WD (op_assign rfl) rfl ?_
 refine WL.end (NE.code (CE.seq (CE.region ?_)))
 refine WD (op_assign rfl) rfl ?_
 refine WL.end (NE.code (CE.seq (CE.seq (CE.region ?_))))
 refine WD (op_move rfl) rfl ?_
 refine WD (op_nilCheck rfl) rfl ?_
 refine WD (op_fieldAddr (off' := k) rfl Try.runUnderlying31 rfl rfl Try.sizeOf2 rfl) rfl ?_
 refine WD (op_load1 (i := k) rfl Try.isAgg2 r.rng (Nat.zero_add _) (sub_get (i := 0) hk rfl)) rfl ?_
 refine WL.end (NE.code (CE.block (CE.seq (CE.region ?_))))
 refine WD (op_eqi rfl rfl) rfl ?_
 refine WD (op_assign rfl) rfl ?_
 refine WL.end (NE.code ?_)
 rcases Bool.eq_false_or_eq_true ((kd == (1 : Int))) with hb1 | hb1
 ·have hp1 := eq_of_beq hb1
  refine CE.cond_t rfl hb1 ?_
  refine CE.seq ?_
  refine CE.draw (fun _ => none) [0, 1, 2, 3, 4, 5, 6, 7, 8, 9, 10, 11, 12, 13] [14, 15] [] (by kernel_rfl) (by kernel_rfl) ?_
  have md1 : Mod [] w w.drew := (Mod.refl _ _).drew
  generalize w.drew = w1 at md1 ⊢
  refine DD 0 rfl (by kernel_rfl) rfl (fun wD mD => op_move rfl) ?_
  refine DD 1 rfl (by kernel_rfl) rfl (fun wD mD => op_nilCheck rfl) ?_
  refine DD 2 rfl (by kernel_rfl) rfl (fun wD mD => op_fieldAddr (off' := k + 1) rfl Try.runUnderlying31 rfl rfl Try.sizeOf28 rfl) ?_
  refine DD 3 rfl (by kernel_rfl) rfl (fun wD mD => op_indexArr (off' := k + 1) rfl rfl Try.runUnderlying28 Try.sizeOf27 (by decide) (by decide) rfl) ?_
  refine DD 4 rfl (by kernel_rfl) rfl (fun wD mD => op_load1 (i := k + 1) rfl Try.isAgg27 ((r.ext md1).ext mD).rng (Nat.zero_add _) (sub_get (i := 1) hk rfl)) ?_
  refine DD 5 rfl (by kernel_rfl) rfl (fun wD mD => op_move rfl) ?_
  refine DR.op (i := 6) (FOut .f32 (fop .mul .f32 c0 x)) rfl rfl (by kernel_rfl) (.free rfl) rfl (ltb rfl) (fun wD mD => op_farith (e := (fop .mul .f32 c0 x)) (.inr (.inr (.inl rfl))) rfl rfl rfl ha rfl) ?_
  rintro _ ⟨f1, rfl, hf1, lf1⟩
  refine DD 7 rfl (by kernel_rfl) rfl (fun wD mD => op_move rfl) ?_
  refine DD 8 rfl (by kernel_rfl) rfl (fun wD mD => op_nilCheck rfl) ?_
  refine DD 9 rfl (by kernel_rfl) rfl (fun wD mD => op_fieldAddr (off' := k + 1) rfl Try.runUnderlying31 rfl rfl Try.sizeOf28 rfl) ?_
  refine DD 10 rfl (by kernel_rfl) rfl (fun wD mD => op_indexArr (off' := k + 2) rfl rfl Try.runUnderlying28 Try.sizeOf27 (by decide) (by decide) rfl) ?_
  refine DD 11 rfl (by kernel_rfl) rfl (fun wD mD => op_load1 (i := k + 2) rfl Try.isAgg27 ((r.ext md1).ext mD).rng (Nat.zero_add _) (sub_get (i := 2) hk rfl)) ?_
  refine DD 12 rfl (by kernel_rfl) rfl (fun wD mD => op_move rfl) ?_
  refine DR.op (i := 13) (FOut .f32 (fop .mul .f32 c1 s0)) rfl rfl (by kernel_rfl) (.free rfl) rfl (ltb rfl) (fun wD mD => op_farith (e := (fop .mul .f32 c1 s0)) (.inr (.inr (.inl rfl))) rfl rfl rfl rfl rfl) ?_
  rintro _ ⟨f2, rfl, hf2, lf2⟩
  refine DR.done rfl ?_
  intro w2 m1
  refine WO.op rfl (.free rfl) rfl (ltb rfl) (op_farith (e := (fop .add .f32 (fop .mul .f32 c0 x) (fop .mul .f32 c1 s0))) (.inl rfl) rfl rfl hf1 hf2 rfl) ?_
  rintro _ w3 ⟨⟨f3, rfl, hf3, lf3⟩, m2⟩
  refine WO.det (op_assign rfl) rfl (.free rfl) rfl rfl ?_
  refine WO.end (NE.code ?_)
  refine CE.draw (fun | 2 => some (fun _ wA uA wB => uA = vF (keptF (fop .add .f32 (fop .mul .f32 c0 x) (fop .mul .f32 c1 s0))) ∧ (keptF (fop .add .f32 (fop .mul .f32 c0 x) (fop .mul .f32 c1 s0)) < wid .f32) ∧ Mod [] wA wB) | _ => none) [0, 1, 2, 3, 4] [5, 6] [] (by kernel_rfl) (by kernel_rfl) ?_
  have md2 : Mod [] w3 w3.drew := (Mod.refl _ _).drew
  generalize w3.drew = w4 at md2 ⊢
  refine DD 0 rfl (by kernel_rfl) rfl (fun wD mD => op_move rfl) ?_
  refine DD 1 rfl (by kernel_rfl) rfl (fun wD mD => op_move rfl) ?_
  refine DR.call (i := 2) (fun uA => uA = vF (keptF (fop .add .f32 (fop .mul .f32 c0 x) (fop .mul .f32 c1 s0))) ∧ (keptF (fop .add .f32 (fop .mul .f32 c0 x) (fop .mul .f32 c1 s0)) < wid .f32)) rfl rfl (by kernel_rfl) (.free rfl) rfl (ltb rfl) ⟨_, rfl, keptF_wid hf3 lf3⟩ (vs := [.func (.func 96) #[] #[], vF f3]) rfl (fun wD mD => oc_call (vs := [vF f3]) (cap := []) rfl rfl rfl Try.call96 (c_l02Kept f3 (fop .add .f32 (fop .mul .f32 c0 x) (fop .mul .f32 c1 s0)) hf3 lf3 wD)) ?_ ?_
  ·rintro w1 _ w2 m1 ⟨rfl, p0, m2⟩; exact ⟨⟨rfl, p0⟩, m2⟩
  rintro _ ⟨rfl, h1⟩
  refine DD 3 rfl (by kernel_rfl) rfl (fun wD mD => op_nilCheck rfl) ?_
  refine DD 4 rfl (by kernel_rfl) rfl (fun wD mD => op_fieldAddr (off' := k + 4) rfl Try.runUnderlying31 rfl rfl Try.sizeOf29 rfl) ?_
  refine DR.done rfl ?_
  intro w5 m3
  refine WO.det (op_indexArr (off' := k + 4) rfl rfl Try.runUnderlying29 Try.sizeOf27 (by decide) (by decide) rfl) rfl (.free rfl) rfl rfl ?_
  refine WO.op0 rfl (.free rfl) rfl (op_store (i := k + 4) (cs := [vF (keptF (fop .add .f32 (fop .mul .f32 c0 x) (fop .mul .f32 c1 s0)))]) rfl rfl rfl Try.sizeOf27 rfl (((((r.ext md1).ext m1).ext m2).ext md2).ext m3) (Nat.zero_add _) (sub_fit (i := 4) hk (lB rfl)) rfl) ?_
  rintro _ w6 ⟨r1, m4, z1⟩
  have r2 : Row w6 p 0 (splice vs k [vI kd, vF c0, vF c1, vF c2, vF (keptF (fop .add .f32 (fop .mul .f32 c0 x) (fop .mul .f32 c1 s0))), vF s1]) := Row.congr r1 (sub_put (i := 4) hk (lB rfl) rfl)
  refine WO.end (NE.blk (NE.code (CE.seq (CE.region ?_))))
  refine WD (op_move rfl) rfl ?_
  refine WD (op_assign rfl) rfl ?_
  refine WL.end (NE.code (CE.ret' ?_))
  refine XE.leave1 Try.results115 rfl ?_
  refine ⟨f3, rfl, ?_, lf3, ?_, ?_, (Row.congr r2 ?_), (((((((Mod.refl [p] w).nt md1).nt m1).nt m2).nt md2).nt m3).then m4 ((aC (.inl (by simp)) aN)))⟩
  all_goals simp_all [stepY, stepS, stepT]
 ·have hp1 := ne_of_beq_false hb1
  refine CE.cond_f rfl hb1 ?_
  refine CE.seq (CE.region ?_)
  refine WD (op_eqi rfl rfl) rfl ?_
  refine WD (op_assign rfl) rfl ?_
  refine WL.end (NE.code ?_)
  rcases Bool.eq_false_or_eq_true ((kd == (2 : Int))) with hb2 | hb2
  ·have hp2 := eq_of_beq hb2
   refine CE.cond_t rfl hb2 ?_
   refine CE.seq ?_
   refine CE.draw (fun _ => none) [0, 1, 2, 3, 4, 5, 6, 7, 8, 9, 10, 11, 12, 13] [14, 15] [] (by kernel_rfl) (by kernel_rfl) ?_
   have md3 : Mod [] w w.drew := (Mod.refl _ _).drew
   generalize w.drew = w7 at md3 ⊢
   refine DD 0 rfl (by kernel_rfl) rfl (fun wD mD => op_move rfl) ?_
   refine DD 1 rfl (by kernel_rfl) rfl (fun wD mD => op_nilCheck rfl) ?_
   refine DD 2 rfl (by kernel_rfl) rfl (fun wD mD => op_fieldAddr (off' := k + 1) rfl Try.runUnderlying31 rfl rfl Try.sizeOf28 rfl) ?_
   refine DD 3 rfl (by kernel_rfl) rfl (fun wD mD => op_indexArr (off' := k + 1) rfl rfl Try.runUnderlying28 Try.sizeOf27 (by decide) (by decide) rfl) ?_
   refine DD 4 rfl (by kernel_rfl) rfl (fun wD mD => op_load1 (i := k + 1) rfl Try.isAgg27 ((r.ext md3).ext mD).rng (Nat.zero_add _) (sub_get (i := 1) hk rfl)) ?_
   refine DD 5 rfl (by kernel_rfl) rfl (fun wD mD => op_move rfl) ?_
   refine DR.op (i := 6) (FOut .f32 (fop .mul .f32 c0 x)) rfl rfl (by kernel_rfl) (.free rfl) rfl (ltb rfl) (fun wD mD => op_farith (e := (fop .mul .f32 c0 x)) (.inr (.inr (.inl rfl))) rfl rfl rfl ha rfl) ?_
   rintro _ ⟨f4, rfl, hf4, lf4⟩
   refine DD 7 rfl (by kernel_rfl) rfl (fun wD mD => op_move rfl) ?_
   refine DD 8 rfl (by kernel_rfl) rfl (fun wD mD => op_nilCheck rfl) ?_
   refine DD 9 rfl (by kernel_rfl) rfl (fun wD mD => op_fieldAddr (off' := k + 1) rfl Try.runUnderlying31 rfl rfl Try.sizeOf28 rfl) ?_
   refine DD 10 rfl (by kernel_rfl) rfl (fun wD mD => op_indexArr (off' := k + 2) rfl rfl Try.runUnderlying28 Try.sizeOf27 (by decide) (by decide) rfl) ?_
   refine DD 11 rfl (by kernel_rfl) rfl (fun wD mD => op_load1 (i := k + 2) rfl Try.isAgg27 ((r.ext md3).ext mD).rng (Nat.zero_add _) (sub_get (i := 2) hk rfl)) ?_
   refine DD 12 rfl (by kernel_rfl) rfl (fun wD mD => op_move rfl) ?_
   refine DR.op (i := 13) (FOut .f32 (fop .mul .f32 c1 s0)) rfl rfl (by kernel_rfl) (.free rfl) rfl (ltb rfl) (fun wD mD => op_farith (e := (fop .mul .f32 c1 s0)) (.inr (.inr (.inl rfl))) rfl rfl rfl rfl rfl) ?_
   rintro _ ⟨f5, rfl, hf5, lf5⟩
   refine DR.done rfl ?_
   intro w8 m5
   refine WO.op rfl (.free rfl) rfl (ltb rfl) (op_farith (e := (fop .add .f32 (fop .mul .f32 c0 x) (fop .mul .f32 c1 s0))) (.inl rfl) rfl rfl hf4 hf5 rfl) ?_
   rintro _ w9 ⟨⟨f6, rfl, hf6, lf6⟩, m6⟩
   refine WO.det (op_assign rfl) rfl (.free rfl) rfl rfl ?_
   refine WO.end (NE.code ?_)
   refine CE.draw (fun | 2 => some (fun _ wA uA wB => uA = vF (keptF x) ∧ (keptF x < wid .f32) ∧ Mod [] wA wB) | _ => none) [0, 1, 2, 3, 4] [5, 6] [] (by kernel_rfl) (by kernel_rfl) ?_
   have md4 : Mod [] w9 w9.drew := (Mod.refl _ _).drew
   generalize w9.drew = w10 at md4 ⊢
   refine DD 0 rfl (by kernel_rfl) rfl (fun wD mD => op_move rfl) ?_
   refine DD 1 rfl (by kernel_rfl) rfl (fun wD mD => op_move rfl) ?_
   refine DR.call (i := 2) (fun uA => uA = vF (keptF x) ∧ (keptF x < wid .f32)) rfl rfl (by kernel_rfl) (.free rfl) rfl (ltb rfl) ⟨_, rfl, keptF_wid ha la⟩ (vs := [.func (.func 96) #[] #[], vF a]) rfl (fun wD mD => oc_call (vs := [vF a]) (cap := []) rfl rfl rfl Try.call96 (c_l02Kept a x ha la wD)) ?_ ?_
   ·rintro w1 _ w2 m1 ⟨rfl, p0, m2⟩; exact ⟨⟨rfl, p0⟩, m2⟩
   rintro _ ⟨rfl, h2⟩
   refine DD 3 rfl (by kernel_rfl) rfl (fun wD mD => op_nilCheck rfl) ?_
   refine DD 4 rfl (by kernel_rfl) rfl (fun wD mD => op_fieldAddr (off' := k + 4) rfl Try.runUnderlying31 rfl rfl Try.sizeOf29 rfl) ?_
   refine DR.done rfl ?_
   intro w11 m7
   refine WO.det (op_indexArr (off' := k + 4) rfl rfl Try.runUnderlying29 Try.sizeOf27 (by decide) (by decide) rfl) rfl (.free rfl) rfl rfl ?_
   refine WO.op0 rfl (.free rfl) rfl (op_store (i := k + 4) (cs := [vF (keptF x)]) rfl rfl rfl Try.sizeOf27 rfl (((((r.ext md3).ext m5).ext m6).ext md4).ext m7) (Nat.zero_add _) (sub_fit (i := 4) hk (lB rfl)) rfl) ?_
   rintro _ w12 ⟨r3, m8, z2⟩
   have r4 : Row w12 p 0 (splice vs k [vI kd, vF c0, vF c1, vF c2, vF (keptF x), vF s1]) := Row.congr r3 (sub_put (i := 4) hk (lB rfl) rfl)
   refine WO.end (NE.blk (NE.code (CE.seq (CE.region ?_))))
   refine WD (op_move rfl) rfl ?_
   refine WD (op_assign rfl) rfl ?_
   refine WL.end (NE.code (CE.ret' ?_))
   refine XE.leave1 Try.results115 rfl ?_
   refine ⟨f6, rfl, ?_, lf6, ?_, ?_, (Row.congr r4 ?_), (((((((Mod.refl [p] w).nt md3).nt m5).nt m6).nt md4).nt m7).then m8 ((aC (.inl (by simp)) aN)))⟩
   all_goals simp_all [stepY, stepS, stepT]
  ·have hp2 := ne_of_beq_false hb2
   refine CE.cond_f rfl hb2 ?_
   refine CE.seq (CE.region ?_)
   refine WD (op_eqi rfl rfl) rfl ?_
   refine WD (op_assign rfl) rfl ?_
   refine WL.end (NE.code ?_)
   rcases Bool.eq_false_or_eq_true ((kd == (3 : Int))) with hb3 | hb3
   ·have hp3 := eq_of_beq hb3
    refine CE.cond_t rfl hb3 ?_
    refine CE.seq (CE.region ?_)
    refine WD (op_move rfl) rfl ?_
    refine WD (op_nilCheck rfl) rfl ?_
    refine WD (op_fieldAddr (off' := k + 1) rfl Try.runUnderlying31 rfl rfl Try.sizeOf28 rfl) rfl ?_
    refine WD (op_indexArr (off' := k + 1) rfl rfl Try.runUnderlying28 Try.sizeOf27 (by decide) (by decide) rfl) rfl ?_
    refine WD (op_load1 (i := k + 1) rfl Try.isAgg27 r.rng (Nat.zero_add _) (sub_get (i := 1) hk rfl)) rfl ?_
    iterate 2 refine WD (op_move rfl) rfl ?_
    refine WL.op (op_farith (e := (fop .sub .f32 x s1)) (.inr (.inl rfl)) rfl rfl ha rfl rfl) rfl rfl (ltb rfl) ?_
    rintro _ w13 ⟨⟨f7, rfl, hf7, lf7⟩, m9⟩
    refine WL.op (op_farith (e := (fop .mul .f32 c0 (fop .sub .f32 x s1))) (.inr (.inr (.inl rfl))) rfl rfl rfl hf7 rfl) rfl rfl (ltb rfl) ?_
    rintro _ w14 ⟨⟨f8, rfl, hf8, lf8⟩, m10⟩
    refine WD (op_move rfl) rfl ?_
    refine WL.op (op_farith (e := (fop .add .f32 (fop .mul .f32 c0 (fop .sub .f32 x s1)) s0)) (.inl rfl) rfl rfl hf8 rfl rfl) rfl rfl (ltb rfl) ?_
    rintro _ w15 ⟨⟨f9, rfl, hf9, lf9⟩, m11⟩
    refine WD (op_assign rfl) rfl ?_
    refine WL.end (NE.code (CE.seq ?_))
    refine CE.draw (fun | 2 => some (fun _ wA uA wB => uA = vF (keptF x) ∧ (keptF x < wid .f32) ∧ Mod [] wA wB) | _ => none) [0, 1, 2, 3, 4] [5, 6] [] (by kernel_rfl) (by kernel_rfl) ?_
    have md5 : Mod [] w15 w15.drew := (Mod.refl _ _).drew
    generalize w15.drew = w16 at md5 ⊢
    refine DD 0 rfl (by kernel_rfl) rfl (fun wD mD => op_move rfl) ?_
    refine DD 1 rfl (by kernel_rfl) rfl (fun wD mD => op_move rfl) ?_
    refine DR.call (i := 2) (fun uA => uA = vF (keptF x) ∧ (keptF x < wid .f32)) rfl rfl (by kernel_rfl) (.free rfl) rfl (ltb rfl) ⟨_, rfl, keptF_wid ha la⟩ (vs := [.func (.func 96) #[] #[], vF a]) rfl (fun wD mD => oc_call (vs := [vF a]) (cap := []) rfl rfl rfl Try.call96 (c_l02Kept a x ha la wD)) ?_ ?_
    ·rintro w1 _ w2 m1 ⟨rfl, p0, m2⟩; exact ⟨⟨rfl, p0⟩, m2⟩
    rintro _ ⟨rfl, h3⟩
    refine DD 3 rfl (by kernel_rfl) rfl (fun wD mD => op_nilCheck rfl) ?_
    refine DD 4 rfl (by kernel_rfl) rfl (fun wD mD => op_fieldAddr (off' := k + 4) rfl Try.runUnderlying31 rfl rfl Try.sizeOf29 rfl) ?_
    refine DR.done rfl ?_
    intro w17 m12
    refine WO.det (op_indexArr (off' := k + 4) rfl rfl Try.runUnderlying29 Try.sizeOf27 (by decide) (by decide) rfl) rfl (.free rfl) rfl rfl ?_
    refine WO.op0 rfl (.free rfl) rfl (op_store (i := k + 4) (cs := [vF (keptF x)]) rfl rfl rfl Try.sizeOf27 rfl (((((r.ext m9).ext m10).ext m11).ext md5).ext m12) (Nat.zero_add _) (sub_fit (i := 4) hk (lB rfl)) rfl) ?_
    rintro _ w18 ⟨r5, m13, z3⟩
    have r6 : Row w18 p 0 (splice vs k [vI kd, vF c0, vF c1, vF c2, vF (keptF x), vF s1]) := Row.congr r5 (sub_put (i := 4) hk (lB rfl) rfl)
    refine WO.end (NE.code ?_)
    refine CE.draw (fun | 2 => some (fun _ wA uA wB => uA = vF (keptF (fop .add .f32 (fop .mul .f32 c0 (fop .sub .f32 x s1)) s0)) ∧ (keptF (fop .add .f32 (fop .mul .f32 c0 (fop .sub .f32 x s1)) s0) < wid .f32) ∧ Mod [] wA wB) | _ => none) [0, 1, 2, 3, 4] [5, 6] [] (by kernel_rfl) (by kernel_rfl) ?_
    have md6 : Mod [] w18 w18.drew := (Mod.refl _ _).drew
    generalize w18.drew = w19 at md6 ⊢
    refine DD 0 rfl (by kernel_rfl) rfl (fun wD mD => op_move rfl) ?_
    refine DD 1 rfl (by kernel_rfl) rfl (fun wD mD => op_move rfl) ?_
    refine DR.call (i := 2) (fun uA => uA = vF (keptF (fop .add .f32 (fop .mul .f32 c0 (fop .sub .f32 x s1)) s0)) ∧ (keptF (fop .add .f32 (fop .mul .f32 c0 (fop .sub .f32 x s1)) s0) < wid .f32)) rfl rfl (by kernel_rfl) (.free rfl) rfl (ltb rfl) ⟨_, rfl, keptF_wid hf9 lf9⟩ (vs := [.func (.func 96) #[] #[], vF f9]) rfl (fun wD mD => oc_call (vs := [vF f9]) (cap := []) rfl rfl rfl Try.call96 (c_l02Kept f9 (fop .add .f32 (fop .mul .f32 c0 (fop .sub .f32 x s1)) s0) hf9 lf9 wD)) ?_ ?_
    ·rintro w1 _ w2 m1 ⟨rfl, p0, m2⟩; exact ⟨⟨rfl, p0⟩, m2⟩
    rintro _ ⟨rfl, h4⟩
    refine DD 3 rfl (by kernel_rfl) rfl (fun wD mD => op_nilCheck rfl) ?_
    refine DD 4 rfl (by kernel_rfl) rfl (fun wD mD => op_fieldAddr (off' := k + 4) rfl Try.runUnderlying31 rfl rfl Try.sizeOf29 rfl) ?_
    refine DR.done rfl ?_
    intro w20 m14
    refine WO.det (op_indexArr (off' := k + 5) rfl rfl Try.runUnderlying29 Try.sizeOf27 (by decide) (by decide) rfl) rfl (.free rfl) rfl rfl ?_
    refine WO.op0 rfl (.free rfl) rfl (op_store (i := k + 5) (cs := [vF (keptF (fop .add .f32 (fop .mul .f32 c0 (fop .sub .f32 x s1)) s0))]) rfl rfl rfl Try.sizeOf27 rfl ((r6.ext md6).ext m14) (Nat.zero_add _) (sub_fit (i := 5) hk (lB rfl)) rfl) ?_
    rintro _ w21 ⟨r7, m15, z4⟩
    have r8 : Row w21 p 0 (splice vs k [vI kd, vF c0, vF c1, vF c2, vF (keptF x), vF (keptF (fop .add .f32 (fop .mul .f32 c0 (fop .sub .f32 x s1)) s0))]) := Row.congr r7 (sub_put (i := 5) hk (lB rfl) rfl)
    refine WO.end (NE.blk (NE.code (CE.seq (CE.region ?_))))
    refine WD (op_move rfl) rfl ?_
    refine WD (op_assign rfl) rfl ?_
    refine WL.end (NE.code (CE.ret' ?_))
    refine XE.leave1 Try.results115 rfl ?_
    refine ⟨f9, rfl, ?_, lf9, ?_, ?_, (Row.congr r8 ?_), ((((((((((Mod.refl [p] w).nt m9).nt m10).nt m11).nt md5).nt m12).then m13 ((aC (.inl (by simp)) aN))).nt md6).nt m14).then m15 ((aC (.inl (by simp)) aN)))⟩
    all_goals simp_all [stepY, stepS, stepT]
   ·have hp3 := ne_of_beq_false hb3
    refine CE.cond_f rfl hb3 ?_
    refine CE.seq (CE.region ?_)
    refine WD (op_eqi rfl rfl) rfl ?_
    refine WD (op_assign rfl) rfl ?_
    refine WL.end (NE.code ?_)
    rcases Bool.eq_false_or_eq_true ((kd == (4 : Int))) with hb4 | hb4
    ·have hp4 := eq_of_beq hb4
     refine CE.cond_t rfl hb4 ?_
     refine CE.seq ?_
     refine CE.draw (fun _ => none) [0, 1, 2, 3, 4, 5, 6, 7, 8, 9, 10, 11, 12, 13, 14, 15, 16, 17, 18, 19, 20, 21] [22, 23] [] (by kernel_rfl) (by kernel_rfl) ?_
     have md7 : Mod [] w w.drew := (Mod.refl _ _).drew
     generalize w.drew = w22 at md7 ⊢
     refine DD 0 rfl (by kernel_rfl) rfl (fun wD mD => op_move rfl) ?_
     refine DD 1 rfl (by kernel_rfl) rfl (fun wD mD => op_nilCheck rfl) ?_
     refine DD 2 rfl (by kernel_rfl) rfl (fun wD mD => op_fieldAddr (off' := k + 1) rfl Try.runUnderlying31 rfl rfl Try.sizeOf28 rfl) ?_
     refine DD 3 rfl (by kernel_rfl) rfl (fun wD mD => op_indexArr (off' := k + 1) rfl rfl Try.runUnderlying28 Try.sizeOf27 (by decide) (by decide) rfl) ?_
     refine DD 4 rfl (by kernel_rfl) rfl (fun wD mD => op_load1 (i := k + 1) rfl Try.isAgg27 ((r.ext md7).ext mD).rng (Nat.zero_add _) (sub_get (i := 1) hk rfl)) ?_
     refine DD 5 rfl (by kernel_rfl) rfl (fun wD mD => op_move rfl) ?_
     refine DR.op (i := 6) (FOut .f32 (fop .mul .f32 c0 x)) rfl rfl (by kernel_rfl) (.free rfl) rfl (ltb rfl) (fun wD mD => op_farith (e := (fop .mul .f32 c0 x)) (.inr (.inr (.inl rfl))) rfl rfl rfl ha rfl) ?_
     rintro _ ⟨f10, rfl, hf10, lf10⟩
     refine DD 7 rfl (by kernel_rfl) rfl (fun wD mD => op_move rfl) ?_
     refine DD 8 rfl (by kernel_rfl) rfl (fun wD mD => op_nilCheck rfl) ?_
     refine DD 9 rfl (by kernel_rfl) rfl (fun wD mD => op_fieldAddr (off' := k + 1) rfl Try.runUnderlying31 rfl rfl Try.sizeOf28 rfl) ?_
     refine DD 10 rfl (by kernel_rfl) rfl (fun wD mD => op_indexArr (off' := k + 2) rfl rfl Try.runUnderlying28 Try.sizeOf27 (by decide) (by decide) rfl) ?_
     refine DD 11 rfl (by kernel_rfl) rfl (fun wD mD => op_load1 (i := k + 2) rfl Try.isAgg27 ((r.ext md7).ext mD).rng (Nat.zero_add _) (sub_get (i := 2) hk rfl)) ?_
     refine DD 12 rfl (by kernel_rfl) rfl (fun wD mD => op_move rfl) ?_
     refine DR.op (i := 13) (FOut .f32 (fop .mul .f32 c1 s0)) rfl rfl (by kernel_rfl) (.free rfl) rfl (ltb rfl) (fun wD mD => op_farith (e := (fop .mul .f32 c1 s0)) (.inr (.inr (.inl rfl))) rfl rfl rfl rfl rfl) ?_
     rintro _ ⟨f11, rfl, hf11, lf11⟩
     refine DR.op (i := 14) (FOut .f32 (fop .sub .f32 (fop .mul .f32 c0 x) (fop .mul .f32 c1 s0))) rfl rfl (by kernel_rfl) (.free rfl) rfl (ltb rfl) (fun wD mD => op_farith (e := (fop .sub .f32 (fop .mul .f32 c0 x) (fop .mul .f32 c1 s0))) (.inr (.inl rfl)) rfl rfl hf10 hf11 rfl) ?_
     rintro _ ⟨f12, rfl, hf12, lf12⟩
     refine DD 15 rfl (by kernel_rfl) rfl (fun wD mD => op_move rfl) ?_
     refine DD 16 rfl (by kernel_rfl) rfl (fun wD mD => op_nilCheck rfl) ?_
     refine DD 17 rfl (by kernel_rfl) rfl (fun wD mD => op_fieldAddr (off' := k + 1) rfl Try.runUnderlying31 rfl rfl Try.sizeOf28 rfl) ?_
     refine DD 18 rfl (by kernel_rfl) rfl (fun wD mD => op_indexArr (off' := k + 3) rfl rfl Try.runUnderlying28 Try.sizeOf27 (by decide) (by decide) rfl) ?_
     refine DD 19 rfl (by kernel_rfl) rfl (fun wD mD => op_load1 (i := k + 3) rfl Try.isAgg27 ((r.ext md7).ext mD).rng (Nat.zero_add _) (sub_get (i := 3) hk rfl)) ?_
     refine DD 20 rfl (by kernel_rfl) rfl (fun wD mD => op_move rfl) ?_
     refine DR.op (i := 21) (FOut .f32 (fop .mul .f32 c2 s1)) rfl rfl (by kernel_rfl) (.free rfl) rfl (ltb rfl) (fun wD mD => op_farith (e := (fop .mul .f32 c2 s1)) (.inr (.inr (.inl rfl))) rfl rfl rfl rfl rfl) ?_
     rintro _ ⟨f13, rfl, hf13, lf13⟩
     refine DR.done rfl ?_
     intro w23 m16
     refine WO.op rfl (.free rfl) rfl (ltb rfl) (op_farith (e := (fop .sub .f32 (fop .sub .f32 (fop .mul .f32 c0 x) (fop .mul .f32 c1 s0)) (fop .mul .f32 c2 s1))) (.inr (.inl rfl)) rfl rfl hf12 hf13 rfl) ?_
     rintro _ w24 ⟨⟨f14, rfl, hf14, lf14⟩, m17⟩
     refine WO.det (op_assign rfl) rfl (.free rfl) rfl rfl ?_
     refine WO.end (NE.code (CE.seq ?_))
     refine CE.draw (fun | 2 => some (fun _ wA uA wB => uA = vF (keptF s0) ∧ (keptF s0 < wid .f32) ∧ Mod [] wA wB) | _ => none) [0, 1, 2, 3, 4] [5, 6] [] (by kernel_rfl) (by kernel_rfl) ?_
     have md8 : Mod [] w24 w24.drew := (Mod.refl _ _).drew
     generalize w24.drew = w25 at md8 ⊢
     refine DD 0 rfl (by kernel_rfl) rfl (fun wD mD => op_move rfl) ?_
     refine DD 1 rfl (by kernel_rfl) rfl (fun wD mD => op_move rfl) ?_
     refine DR.call (i := 2) (fun uA => uA = vF (keptF s0) ∧ (keptF s0 < wid .f32)) rfl rfl (by kernel_rfl) (.free rfl) rfl (ltb rfl) ⟨_, rfl, keptF_wid rfl l0⟩ (vs := [.func (.func 96) #[] #[], vF s0]) rfl (fun wD mD => oc_call (vs := [vF s0]) (cap := []) rfl rfl rfl Try.call96 (c_l02Kept s0 s0 rfl l0 wD)) ?_ ?_
     ·rintro w1 _ w2 m1 ⟨rfl, p0, m2⟩; exact ⟨⟨rfl, p0⟩, m2⟩
     rintro _ ⟨rfl, h5⟩
     refine DD 3 rfl (by kernel_rfl) rfl (fun wD mD => op_nilCheck rfl) ?_
     refine DD 4 rfl (by kernel_rfl) rfl (fun wD mD => op_fieldAddr (off' := k + 4) rfl Try.runUnderlying31 rfl rfl Try.sizeOf29 rfl) ?_
     refine DR.done rfl ?_
     intro w26 m18
     refine WO.det (op_indexArr (off' := k + 5) rfl rfl Try.runUnderlying29 Try.sizeOf27 (by decide) (by decide) rfl) rfl (.free rfl) rfl rfl ?_
     refine WO.op0 rfl (.free rfl) rfl (op_store (i := k + 5) (cs := [vF (keptF s0)]) rfl rfl rfl Try.sizeOf27 rfl (((((r.ext md7).ext m16).ext m17).ext md8).ext m18) (Nat.zero_add _) (sub_fit (i := 5) hk (lB rfl)) rfl) ?_
     rintro _ w27 ⟨r9, m19, z5⟩
     have r10 : Row w27 p 0 (splice vs k [vI kd, vF c0, vF c1, vF c2, vF s0, vF (keptF s0)]) := Row.congr r9 (sub_put (i := 5) hk (lB rfl) rfl)
     refine WO.end (NE.code ?_)
     refine CE.draw (fun | 2 => some (fun _ wA uA wB => uA = vF (keptF (fop .sub .f32 (fop .sub .f32 (fop .mul .f32 c0 x) (fop .mul .f32 c1 s0)) (fop .mul .f32 c2 s1))) ∧ (keptF (fop .sub .f32 (fop .sub .f32 (fop .mul .f32 c0 x) (fop .mul .f32 c1 s0)) (fop .mul .f32 c2 s1)) < wid .f32) ∧ Mod [] wA wB) | _ => none) [0, 1, 2, 3, 4] [5, 6] [] (by kernel_rfl) (by kernel_rfl) ?_
     have md9 : Mod [] w27 w27.drew := (Mod.refl _ _).drew
     generalize w27.drew = w28 at md9 ⊢
     refine DD 0 rfl (by kernel_rfl) rfl (fun wD mD => op_move rfl) ?_
     refine DD 1 rfl (by kernel_rfl) rfl (fun wD mD => op_move rfl) ?_
     refine DR.call (i := 2) (fun uA => uA = vF (keptF (fop .sub .f32 (fop .sub .f32 (fop .mul .f32 c0 x) (fop .mul .f32 c1 s0)) (fop .mul .f32 c2 s1))) ∧ (keptF (fop .sub .f32 (fop .sub .f32 (fop .mul .f32 c0 x) (fop .mul .f32 c1 s0)) (fop .mul .f32 c2 s1)) < wid .f32)) rfl rfl (by kernel_rfl) (.free rfl) rfl (ltb rfl) ⟨_, rfl, keptF_wid hf14 lf14⟩ (vs := [.func (.func 96) #[] #[], vF f14]) rfl (fun wD mD => oc_call (vs := [vF f14]) (cap := []) rfl rfl rfl Try.call96 (c_l02Kept f14 (fop .sub .f32 (fop .sub .f32 (fop .mul .f32 c0 x) (fop .mul .f32 c1 s0)) (fop .mul .f32 c2 s1)) hf14 lf14 wD)) ?_ ?_
     ·rintro w1 _ w2 m1 ⟨rfl, p0, m2⟩; exact ⟨⟨rfl, p0⟩, m2⟩
     rintro _ ⟨rfl, h6⟩
     refine DD 3 rfl (by kernel_rfl) rfl (fun wD mD => op_nilCheck rfl) ?_
     refine DD 4 rfl (by kernel_rfl) rfl (fun wD mD => op_fieldAddr (off' := k + 4) rfl Try.runUnderlying31 rfl rfl Try.sizeOf29 rfl) ?_
     refine DR.done rfl ?_
     intro w29 m20
     refine WO.det (op_indexArr (off' := k + 4) rfl rfl Try.runUnderlying29 Try.sizeOf27 (by decide) (by decide) rfl) rfl (.free rfl) rfl rfl ?_
     refine WO.op0 rfl (.free rfl) rfl (op_store (i := k + 4) (cs := [vF (keptF (fop .sub .f32 (fop .sub .f32 (fop .mul .f32 c0 x) (fop .mul .f32 c1 s0)) (fop .mul .f32 c2 s1)))]) rfl rfl rfl Try.sizeOf27 rfl ((r10.ext md9).ext m20) (Nat.zero_add _) (sub_fit (i := 4) hk (lB rfl)) rfl) ?_
     rintro _ w30 ⟨r11, m21, z6⟩
     have r12 : Row w30 p 0 (splice vs k [vI kd, vF c0, vF c1, vF c2, vF (keptF (fop .sub .f32 (fop .sub .f32 (fop .mul .f32 c0 x) (fop .mul .f32 c1 s0)) (fop .mul .f32 c2 s1))), vF (keptF s0)]) := Row.congr r11 (sub_put (i := 4) hk (lB rfl) rfl)
     refine WO.end (NE.blk (NE.code (CE.seq (CE.region ?_))))
     refine WD (op_move rfl) rfl ?_
     refine WD (op_assign rfl) rfl ?_
     refine WL.end (NE.code (CE.ret' ?_))
     refine XE.leave1 Try.results115 rfl ?_
     refine ⟨f14, rfl, ?_, lf14, ?_, ?_, (Row.congr r12 ?_), ((((((((((Mod.refl [p] w).nt md7).nt m16).nt m17).nt md8).nt m18).then m19 ((aC (.inl (by simp)) aN))).nt md9).nt m20).then m21 ((aC (.inl (by simp)) aN)))⟩
     all_goals simp_all [stepY, stepS, stepT]
    ·have hp4 := ne_of_beq_false hb4
     refine CE.cond_f rfl hb4 ?_
     refine CE.seq (CE.region ?_)
     iterate 2 refine WD (op_move rfl) rfl ?_
     refine WL.op (op_farith (e := (fop .sub .f32 x s0)) (.inr (.inl rfl)) rfl rfl ha rfl rfl) rfl rfl (ltb rfl) ?_
     rintro _ w31 ⟨⟨f15, rfl, hf15, lf15⟩, m22⟩
     refine WD (op_move rfl) rfl ?_
     refine WD (op_nilCheck rfl) rfl ?_
     refine WD (op_fieldAddr (off' := k + 1) rfl Try.runUnderlying31 rfl rfl Try.sizeOf28 rfl) rfl ?_
     refine WD (op_indexArr (off' := k + 1) rfl rfl Try.runUnderlying28 Try.sizeOf27 (by decide) (by decide) rfl) rfl ?_
     refine WD (op_load1 (i := k + 1) rfl Try.isAgg27 (r.ext m22).rng (Nat.zero_add _) (sub_get (i := 1) hk rfl)) rfl ?_
     refine WD (op_move rfl) rfl ?_
     refine WL.op (op_farith (e := (fop .mul .f32 c0 s1)) (.inr (.inr (.inl rfl))) rfl rfl rfl rfl rfl) rfl rfl (ltb rfl) ?_
     rintro _ w32 ⟨⟨f16, rfl, hf16, lf16⟩, m23⟩
     refine WL.op (op_farith (e := (fop .add .f32 (fop .sub .f32 x s0) (fop .mul .f32 c0 s1))) (.inl rfl) rfl rfl hf15 hf16 rfl) rfl rfl (ltb rfl) ?_
     rintro _ w33 ⟨⟨f17, rfl, hf17, lf17⟩, m24⟩
     refine WD (op_assign rfl) rfl ?_
     refine WL.end (NE.code (CE.seq ?_))
     refine CE.draw (fun | 2 => some (fun _ wA uA wB => uA = vF (keptF x) ∧ (keptF x < wid .f32) ∧ Mod [] wA wB) | _ => none) [0, 1, 2, 3, 4] [5, 6] [] (by kernel_rfl) (by kernel_rfl) ?_
     have md10 : Mod [] w33 w33.drew := (Mod.refl _ _).drew
     generalize w33.drew = w34 at md10 ⊢
     refine DD 0 rfl (by kernel_rfl) rfl (fun wD mD => op_move rfl) ?_
     refine DD 1 rfl (by kernel_rfl) rfl (fun wD mD => op_move rfl) ?_
     refine DR.call (i := 2) (fun uA => uA = vF (keptF x) ∧ (keptF x < wid .f32)) rfl rfl (by kernel_rfl) (.free rfl) rfl (ltb rfl) ⟨_, rfl, keptF_wid ha la⟩ (vs := [.func (.func 96) #[] #[], vF a]) rfl (fun wD mD => oc_call (vs := [vF a]) (cap := []) rfl rfl rfl Try.call96 (c_l02Kept a x ha la wD)) ?_ ?_
     ·rintro w1 _ w2 m1 ⟨rfl, p0, m2⟩; exact ⟨⟨rfl, p0⟩, m2⟩
     rintro _ ⟨rfl, h7⟩
     refine DD 3 rfl (by kernel_rfl) rfl (fun wD mD => op_nilCheck rfl) ?_
     refine DD 4 rfl (by kernel_rfl) rfl (fun wD mD => op_fieldAddr (off' := k + 4) rfl Try.runUnderlying31 rfl rfl Try.sizeOf29 rfl) ?_
     refine DR.done rfl ?_
     intro w35 m25
     refine WO.det (op_indexArr (off' := k + 4) rfl rfl Try.runUnderlying29 Try.sizeOf27 (by decide) (by decide) rfl) rfl (.free rfl) rfl rfl ?_
     refine WO.op0 rfl (.free rfl) rfl (op_store (i := k + 4) (cs := [vF (keptF x)]) rfl rfl rfl Try.sizeOf27 rfl (((((r.ext m22).ext m23).ext m24).ext md10).ext m25) (Nat.zero_add _) (sub_fit (i := 4) hk (lB rfl)) rfl) ?_
     rintro _ w36 ⟨r13, m26, z7⟩
     have r14 : Row w36 p 0 (splice vs k [vI kd, vF c0, vF c1, vF c2, vF (keptF x), vF s1]) := Row.congr r13 (sub_put (i := 4) hk (lB rfl) rfl)
     refine WO.end (NE.code ?_)
     refine CE.draw (fun | 2 => some (fun _ wA uA wB => uA = vF (keptF (fop .add .f32 (fop .sub .f32 x s0) (fop .mul .f32 c0 s1))) ∧ (keptF (fop .add .f32 (fop .sub .f32 x s0) (fop .mul .f32 c0 s1)) < wid .f32) ∧ Mod [] wA wB) | _ => none) [0, 1, 2, 3, 4] [5, 6] [] (by kernel_rfl) (by kernel_rfl) ?_
     have md11 : Mod [] w36 w36.drew := (Mod.refl _ _).drew
     generalize w36.drew = w37 at md11 ⊢
     refine DD 0 rfl (by kernel_rfl) rfl (fun wD mD => op_move rfl) ?_
     refine DD 1 rfl (by kernel_rfl) rfl (fun wD mD => op_move rfl) ?_
     refine DR.call (i := 2) (fun uA => uA = vF (keptF (fop .add .f32 (fop .sub .f32 x s0) (fop .mul .f32 c0 s1))) ∧ (keptF (fop .add .f32 (fop .sub .f32 x s0) (fop .mul .f32 c0 s1)) < wid .f32)) rfl rfl (by kernel_rfl) (.free rfl) rfl (ltb rfl) ⟨_, rfl, keptF_wid hf17 lf17⟩ (vs := [.func (.func 96) #[] #[], vF f17]) rfl (fun wD mD => oc_call (vs := [vF f17]) (cap := []) rfl rfl rfl Try.call96 (c_l02Kept f17 (fop .add .f32 (fop .sub .f32 x s0) (fop .mul .f32 c0 s1)) hf17 lf17 wD)) ?_ ?_
     ·rintro w1 _ w2 m1 ⟨rfl, p0, m2⟩; exact ⟨⟨rfl, p0⟩, m2⟩
     rintro _ ⟨rfl, h8⟩
     refine DD 3 rfl (by kernel_rfl) rfl (fun wD mD => op_nilCheck rfl) ?_
     refine DD 4 rfl (by kernel_rfl) rfl (fun wD mD => op_fieldAddr (off' := k + 4) rfl Try.runUnderlying31 rfl rfl Try.sizeOf29 rfl) ?_
     refine DR.done rfl ?_
     intro w38 m27
     refine WO.det (op_indexArr (off' := k + 5) rfl rfl Try.runUnderlying29 Try.sizeOf27 (by decide) (by decide) rfl) rfl (.free rfl) rfl rfl ?_
     refine WO.op0 rfl (.free rfl) rfl (op_store (i := k + 5) (cs := [vF (keptF (fop .add .f32 (fop .sub .f32 x s0) (fop .mul .f32 c0 s1)))]) rfl rfl rfl Try.sizeOf27 rfl ((r14.ext md11).ext m27) (Nat.zero_add _) (sub_fit (i := 5) hk (lB rfl)) rfl) ?_
     rintro _ w39 ⟨r15, m28, z8⟩
     have r16 : Row w39 p 0 (splice vs k [vI kd, vF c0, vF c1, vF c2, vF (keptF x), vF (keptF (fop .add .f32 (fop .sub .f32 x s0) (fop .mul .f32 c0 s1)))]) := Row.congr r15 (sub_put (i := 5) hk (lB rfl) rfl)
     refine WO.end (NE.blk (NE.code (CE.seq (CE.region ?_))))
     refine WD (op_move rfl) rfl ?_
     refine WD (op_assign rfl) rfl ?_
     refine WL.end (NE.code (CE.ret' ?_))
     refine XE.leave1 Try.results115 rfl ?_
     refine ⟨f17, rfl, ?_, lf17, ?_, ?_, (Row.congr r16 ?_), ((((((((((Mod.refl [p] w).nt m22).nt m23).nt m24).nt md10).nt m25).then m26 ((aC (.inl (by simp)) aN))).nt md11).nt m27).then m28 ((aC (.inl (by simp)) aN)))⟩
     all_goals simp_all [stepY, stepS, stepT]

end Go.Proofs.Ytnahhdnkbbdceaa
