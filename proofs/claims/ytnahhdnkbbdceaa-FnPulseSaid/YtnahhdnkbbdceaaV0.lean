/- What the checks on the numbers between sections compute. -/
import Derived.Test.YtnahhdnkbbdceaaE17
set_option linter.unusedVariables false
set_option linter.unusedSimpArgs false
set_option maxRecDepth 100000
set_option maxHeartbeats 8000000
namespace Go.Proofs.Ytnahhdnkbbdceaa

/-- all numbers lie from -1 to 1 -/
def vSc (xs : List Nat) : Nat → Bool
  | 0 => true
  | n + 1 => vSc xs n && (fGe .f32 (xs.getD n 0) 3212836864 && fLe .f32 (xs.getD n 0) 1065353216)
theorem vSc_out {xs : List Nat} {i n : Nat} (hi : i < n) (h2 : (fGe .f32 (xs.getD i 0) 3212836864 && fLe .f32 (xs.getD i 0) 1065353216) = false) : vSc xs n = false := by
  induction n with
  | zero => omega
  | succ n ih =>
    rcases Nat.lt_or_ge i n with c | c
    · simp [vSc, ih c]
    · obtain rfl : i = n := by omega
      simp only [vSc, h2, Bool.and_false]

theorem c_inside (a : Nat) (b : Nat) (c : Nat) (w : World) : Cl Try.prog 74 #[vF a, vF b, vF c] w fun v w' => v = .bool (fGe .f32 a b && fLe .f32 a c) ∧ w = w' := by
 refine Cl.of Try.func74 Try.ntmps74 rfl rfl (ρ := [(0, vF a), (1, vF b), (2, vF c)]) rfl ?_
 refine CE.seq (CE.region ?_)
 refine WD (op_assign rfl) rfl ?_
 refine WL.end (NE.code (CE.seq (CE.region ?_)))
 iterate 2 refine WD (op_move rfl) rfl ?_
 refine WD (op_fge (c := fGe .f32 a b) rfl rfl rfl rfl rfl) rfl ?_
 refine WD (op_move rfl) rfl ?_
 rcases Bool.eq_false_or_eq_true (fGe .f32 a b) with hb1 | hb1
 ·refine WL.yes rfl rfl rfl (ltb rfl) rfl hb1 ?_
  refine WD (op_move rfl) rfl ?_
  refine WL.yes rfl rfl rfl (ltb rfl) rfl hb1 ?_
  refine WD (op_move rfl) rfl ?_
  refine WL.yes rfl rfl rfl (ltb rfl) rfl hb1 ?_
  refine WD (op_fle (c := fLe .f32 a c) rfl rfl rfl rfl rfl) rfl ?_
  refine WD (op_pick_t rfl hb1 rfl) rfl ?_
  refine WD (op_assign rfl) rfl ?_
  refine WL.end (NE.code (CE.ret' ?_))
  refine XE.leave1 Try.results74 rfl ?_
  refine ⟨?_, rfl⟩
  all_goals simp_all
 ·refine WL.no rfl rfl rfl (ltb rfl) rfl hb1 rfl (ltb rfl) ?_
  iterate 2 refine WL.no rfl rfl rfl (ltb rfl) rfl hb1 rfl (ltb rfl) ?_
  refine WD (op_pick_f rfl hb1 rfl) rfl ?_
  refine WD (op_assign rfl) rfl ?_
  refine WL.end (NE.code (CE.ret' ?_))
  refine XE.leave1 Try.results74 rfl ?_
  refine ⟨?_, rfl⟩
  all_goals simp_all

theorem c_outside (a : Nat) (w : World) : Cl Try.prog 104 #[vF a] w fun v w' => v = .bool (!(fGe .f32 a 3212836864 && fLe .f32 a 1065353216)) ∧ Mod [] w w' := by
 refine Cl.of Try.func104 Try.ntmps104 rfl rfl (ρ := [(0, vF a)]) rfl ?_
 refine CE.seq (CE.region ?_)
 refine WD (op_assign rfl) rfl ?_
 refine WL.end (NE.code (CE.seq (CE.region ?_)))
 refine WD (op_move rfl) rfl ?_
 refine WL.call (oc_call (vs := [vF a, vF 3212836864, vF 1065353216]) (cap := []) rfl rfl rfl Try.call74 (c_inside a 3212836864 1065353216 w)) rfl rfl (ltb rfl) ?_
 rintro _ _ ⟨rfl, rfl⟩
 refine WD (op_not rfl) rfl ?_
 refine WD (op_assign rfl) rfl ?_
 refine WL.end (NE.code (CE.ret' ?_))
 refine XE.leave1 Try.results104 rfl ?_
 refine ⟨rfl, (Mod.refl [] w)⟩

theorem c_indexSc (n : Nat) (c : Nat) (b : Nat) (xs : List Nat) (ln : xs.length = n) (hn : n ≤ 1048576) (w : World) (r : Rng w b 0 (fl xs)) : Cl Try.prog 147 #[vS b 0 n c, .func (.func 104) #[] #[]] w fun v w' => ∃ (z : Int), v = vI z ∧ ((decide (0 ≤ z)) = !vSc xs n) ∧ Mod [] w w' := by
 refine Cl.of Try.func147 Try.ntmps147 rfl rfl (ρ := [(0, vS b 0 n c), (1, .func (.func 104) #[] #[])]) rfl ?_
 refine CE.seq (CE.region ?_)
 refine WD (op_assign rfl) rfl ?_
 refine WL.end (NE.code (CE.seq (CE.seq (CE.region ?_))))
 refine WD (op_move rfl) rfl ?_
 refine WD (op_len rfl Try.runUnderlying26) rfl ?_
 refine WD (op_move rfl) rfl ?_
 refine WL.end (NE.code (CE.block ?_))
 refine CE.loop (fun (i : Nat) => [(8, vI ((i : Nat) : Int)), (0, vS b 0 n c), (1, .func (.func 104) #[] #[]), (4, vI 0), (7, vI ((n : Nat) : Int))]) (fun (i : Nat) => fun W => (i ≤ n) ∧ (vSc xs i = true) ∧ Mod [] w W) (fun (i : Nat) => n - i) 0 (⟨rfl, rfl, rfl, rfl, rfl, trivial⟩) ⟨(by omega), (by rfl), Mod.refl _ _⟩ ?_
 rintro i w1 ⟨hi, hu, m1⟩
 show CE _ _ _ _ [(8, vI ((i : Nat) : Int)), (0, vS b 0 n c), (1, .func (.func 104) #[] #[]), (4, vI 0), (7, vI ((n : Nat) : Int))] _
 refine CE.seq (CE.region ?_)
 refine WD (op_lti rfl rfl) rfl ?_
 refine WL.end (NE.code (CE.seq ?_))
 rcases Bool.eq_false_or_eq_true (decide (((i : Nat) : Int) < ((n : Nat) : Int))) with hb1 | hb1
 ·have hp1 := of_decide_eq_true hb1
  refine CE.cond_t rfl hb1 ?_
  refine CE.skip' (NE.code (CE.seq (CE.block (CE.seq (CE.region ?_)))))
  refine WD (op_move rfl) rfl ?_
  refine WD (op_assign rfl) rfl ?_
  refine WL.end (NE.code (CE.seq (CE.region ?_)))
  iterate 3 refine WD (op_move rfl) rfl ?_
  refine WD (op_indexSl (off' := 0 + i) rfl rfl rfl Try.runUnderlying26 Try.sizeOf27 (by omega) (by omega) (by omega)) rfl ?_
  refine WD (op_load1 (i := i) rfl Try.isAgg27 (r.ext m1) rfl (fl_get (by have eL : List.length xs = n := ln; omega))) rfl ?_
  refine WL.call (oc_call (vs := [vF (xs.getD i 0)]) (cap := []) rfl rfl rfl Try.call104 (c_outside (xs.getD i 0) w1)) rfl rfl (ltb rfl) ?_
  rintro _ w2 ⟨rfl, m2⟩
  refine WL.end (NE.code ?_)
  rcases Bool.eq_false_or_eq_true (fGe .f32 (xs.getD i 0) 3212836864 && fLe .f32 (xs.getD i 0) 1065353216) with hb2 | hb2
  ·refine CE.cond_f rfl (bnot_t hb2) ?_
   refine CE.skip' (NE.blk (NE.code (CE.region ?_)))
   refine WD (op_add (r := ((i + 1 : Nat) : Int)) rfl rfl (w_i64 (by omega) (by omega))) rfl ?_
   refine WD (op_move rfl) rfl ?_
   refine WL.end ?_
   exact NE.again (i + 1) (⟨rfl, rfl, rfl, rfl, rfl, trivial⟩) ⟨(by omega), (by simp only [vSc, hu, Bool.true_and]; simp_all), (m1.nt m2)⟩ (by first | (dsimp only; omega) | omega)
  ·refine CE.cond_t rfl (bnot_f hb2) ?_
   refine CE.seq (CE.region ?_)
   refine WD (op_move rfl) rfl ?_
   refine WD (op_assign rfl) rfl ?_
   refine WL.end (NE.code (CE.ret' (XE.ret_blk (XE.ret_then (XE.ret_then (XE.ret_blk (XE.ret_then ?_)))))))
   refine XE.leave1 Try.results147 rfl ?_
   refine ⟨((i : Nat) : Int), rfl, ?_, (((Mod.refl [] w).nt m1).nt m2)⟩
   all_goals first | (rw [vSc_out (i := i) (by omega) (by simp_all)]; simp; done) | (have e : i = n := (by omega); subst e; rw [hu]; rfl)
 ·have hp1 := of_decide_eq_false hb1
  refine CE.cond_f rfl hb1 ?_
  refine CE.exit' (XE.exit_then (XE.exit_then (XE.exit_here (NE.code (CE.seq (CE.region ?_))))))
  refine WD (op_assign rfl) rfl ?_
  refine WL.end (NE.code (CE.ret' ?_))
  refine XE.leave1 Try.results147 rfl ?_
  refine ⟨(-1), rfl, ?_, ((Mod.refl [] w).nt m1)⟩
  all_goals first | (rw [vSc_out (i := i) (by omega) (by simp_all)]; simp; done) | (have e : i = n := (by omega); subst e; rw [hu]; rfl)

theorem c_containsSc (n : Nat) (c : Nat) (b : Nat) (xs : List Nat) (ln : xs.length = n) (hn : n ≤ 1048576) (w : World) (r : Rng w b 0 (fl xs)) : Cl Try.prog 103 #[vS b 0 n c, .func (.func 104) #[] #[]] w fun v w' => v = .bool (!vSc xs n) ∧ Mod [] w w' := by
 refine Cl.of Try.func103 Try.ntmps103 rfl rfl (ρ := [(0, vS b 0 n c), (1, .func (.func 104) #[] #[])]) rfl ?_
 refine CE.seq (CE.region ?_)
 refine WD (op_assign rfl) rfl ?_
 refine WL.end (NE.code (CE.seq (CE.region ?_)))
 iterate 2 refine WD (op_move rfl) rfl ?_
 refine WL.call (oc_call (vs := [vS b 0 n c, .func (.func 104) #[] #[]]) (cap := []) rfl rfl rfl Try.call147 (c_indexSc n c b xs ln (by omega) w r)) rfl rfl (ltb rfl) ?_
 rintro _ w1 ⟨z1, rfl, h1, m1⟩
 refine WD (op_gei rfl rfl) rfl ?_
 refine WD (op_assign rfl) rfl ?_
 refine WL.end (NE.code (CE.ret' ?_))
 refine XE.leave1 Try.results103 rfl ?_
 refine ⟨?_, ((Mod.refl [] w).nt m1)⟩
 all_goals (exact congrArg Value.bool (by assumption))

theorem c_Clone32_0 (c : Nat) (b : Nat) (xs : List Nat) (ln : xs.length = 0) (w : World) (r : Rng w b 0 (fl xs)) : Cl Try.prog 75 #[vS b 0 0 c] w fun v w' => ∃ (b' : Nat), v = vS b' 0 0 0 ∧ Row w' b' 0 (fl xs) ∧ w.heap.size ≤ b' ∧ Mod [] w w' := by
 refine Cl.of Try.func75 Try.ntmps75 rfl rfl (ρ := [(0, vS b 0 0 c)]) rfl ?_
 refine CE.seq (CE.region ?_)
 refine WD (op_assign rfl) rfl ?_
 refine WL.end (NE.code (CE.seq (CE.seq (CE.region ?_))))
 refine WD (op_move rfl) rfl ?_
 refine WD (op_sl_nil rfl rfl Try.underlying26) rfl ?_
 refine WL.end (NE.code ?_)
 refine CE.cond_f rfl rfl ?_
 refine CE.skip' (NE.code (CE.seq (CE.region ?_)))
 refine WL.op (op_emptySl rfl Try.runUnderlying26 Try.sizeOf27) rfl rfl (ltb rfl) ?_
 rintro _ w1 ⟨rfl, r1, m1, z1⟩
 refine WD (op_move rfl) rfl ?_
 refine WD (op_appN (i := Try.t27) rfl rfl (by decide) Try.underlying26 rfl) rfl ?_
 refine WD (op_assign rfl) rfl ?_
 refine WL.end (NE.code (CE.ret' ?_))
 refine XE.leave1 Try.results75 rfl ?_
 refine ⟨w.heap.size, rfl, (Row.congr r1 ?_), lR, ((Mod.refl [] w).nt m1)⟩
 all_goals (rw [List.eq_nil_of_length_eq_zero ln]; rfl)

end Go.Proofs.Ytnahhdnkbbdceaa
