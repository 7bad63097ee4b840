/- What the functions on lists and rings compute. -/
import Derived.Test.YtnahhdnkbbdceaaB2
set_option linter.unusedVariables false
set_option linter.unusedSimpArgs false
set_option maxRecDepth 100000
set_option maxHeartbeats 8000000
namespace Go.Proofs.Ytnahhdnkbbdceaa

def vRing (n : Nat) (j : Int) : Bool := vIn n 1 1024 && vIn j 0 ((n : Int) - 1)
theorem vRing_t {n : Nat} {j : Int} (h : vRing n j = true) : 1 ≤ n ∧ n ≤ 1024 ∧ 0 ≤ j ∧ j < n := by
  simp [vRing, vIn_t] at h; omega
/-- the first `n` words are finite -/
def allF (xs : List Nat) (n : Nat) : Bool := (List.range n).all fun j => finF (xs.getD j 0)
theorem allF_step {xs : List Nat} {n : Nat} (h : allF xs n = true) (h2 : finF (xs.getD n 0) = true) : allF xs (n + 1) = true := by
  unfold allF at *
  rw [List.range_succ, List.all_append, h]; simpa using h2
theorem allF_out {xs : List Nat} {i n : Nat} (hi : i < n) (h2 : finF (xs.getD i 0) = false) : allF xs n = false := by
  unfold allF
  rw [List.all_eq_false]
  exact ⟨i, by simpa using hi, by simpa using h2⟩
def vRingF (n : Nat) (j : Int) (xs : List Nat) : Bool := vRing n j && allF xs n

theorem c_Clone32 (n : Nat) (c : Nat) (b : Nat) (xs : List Nat) (ln : xs.length = n) (h0 : 0 < n) (hn : n ≤ 1048576) (w : World) (r : Rng w b 0 (fl xs)) : Cl Try.prog 75 #[vS b 0 n c] w fun v w' => ∃ (b' : Nat) (c' : Nat), v = vS b' 0 n c' ∧ Row w' b' 0 (fl xs) ∧ w.heap.size ≤ b' ∧ Mod [] w w' := by
 refine Cl.of Try.func75 Try.ntmps75 rfl rfl (ρ := [(0, vS b 0 n c)]) rfl ?_
 refine CE.seq (CE.region ?_)
 refine WD (op_assign rfl) rfl ?_
 refine WL.end (NE.code (CE.seq (CE.seq (CE.region ?_))))
 refine WD (op_move rfl) rfl ?_
 refine WD (op_sl_nil rfl rfl Try.underlying26) rfl ?_
 refine WL.end (NE.code ?_)
 refine CE.cond_f rfl rfl ?_
 refine CE.skip' (NE.code (CE.seq (CE.region ?_)))
 refine WL.op (op_emptySl rfl Try.runUnderlying26 Try.sizeOf27) rfl rfl (ltb rfl) ?_
 rintro _ w1 ⟨rfl, r1, m1, z1⟩
 refine WD (op_move rfl) rfl ?_
 refine WL.op (op_appendF (i := Try.t27) rfl rfl Try.underlying26 rfl rfl rfl rfl (r.ext m1) ln (by omega) (by omega)) rfl rfl (ltb rfl) ?_
 rintro _ w2 ⟨b1, c1, rfl, ge1, r2, m2⟩
 refine WD (op_assign rfl) rfl ?_
 refine WL.end (NE.code (CE.ret' ?_))
 refine XE.leave1 Try.results75 rfl ?_
 refine ⟨b1, c1, rfl, r2, (lT m1.size ge1), (((Mod.refl [] w).nt m1).nt m2)⟩

theorem c_areFin1 (a : Nat) (x : Nat) (ha : cn .f32 a = cn .f32 x) (w : World) : Cl Try.prog 133 #[vF a] w fun v w' => v = .bool (!finF x) ∧ Mod [] w w' := by
 refine Cl.of Try.func133 Try.ntmps133 rfl rfl (ρ := [(0, vF a)]) rfl ?_
 refine CE.seq (CE.region ?_)
 refine WD (op_assign rfl) rfl ?_
 refine WL.end (NE.code (CE.seq (CE.region ?_)))
 refine WD (op_move rfl) rfl ?_
 refine WL.call (oc_call (vs := [vF a]) (cap := []) rfl rfl rfl Try.call92 (c_isFinite a x ha w)) rfl rfl (ltb rfl) ?_
 rintro _ w1 ⟨rfl, m1⟩
 refine WD (op_not rfl) rfl ?_
 refine WD (op_assign rfl) rfl ?_
 refine WL.end (NE.code (CE.ret' ?_))
 refine XE.leave1 Try.results133 rfl ?_
 refine ⟨?_, ((Mod.refl [] w).nt m1)⟩
 all_goals rfl

theorem c_indexFin (n : Nat) (c : Nat) (b : Nat) (xs : List Nat) (ln : xs.length = n) (hn : n ≤ 1048576) (w : World) (r : Rng w b 0 (fl xs)) : Cl Try.prog 147 #[vS b 0 n c, .func (.func 133) #[] #[]] w fun v w' => ∃ (z : Int), v = vI z ∧ ((decide (0 ≤ z)) = !allF xs n) ∧ Mod [] w w' := by
 refine Cl.of Try.func147 Try.ntmps147 rfl rfl (ρ := [(0, vS b 0 n c), (1, .func (.func 133) #[] #[])]) rfl ?_
 refine CE.seq (CE.region ?_)
 refine WD (op_assign rfl) rfl ?_
 refine WL.end (NE.code (CE.seq (CE.seq (CE.region ?_))))
 refine WD (op_move rfl) rfl ?_
 refine WD (op_len rfl Try.runUnderlying26) rfl ?_
 refine WD (op_move rfl) rfl ?_
 refine WL.end (NE.code (CE.block ?_))
 refine CE.loop (fun (i : Nat) => [(8, vI ((i : Nat) : Int)), (0, vS b 0 n c), (1, .func (.func 133) #[] #[]), (4, vI 0), (7, vI ((n : Nat) : Int))]) (fun (i : Nat) => fun W => (i ≤ n) ∧ (allF xs i = true) ∧ Mod [] w W) (fun (i : Nat) => n - i) 0 (⟨rfl, rfl, rfl, rfl, rfl, trivial⟩) ⟨(by omega), (by rfl), Mod.refl _ _⟩ ?_
 rintro i w1 ⟨hi, hu, m1⟩
 show CE _ _ _ _ [(8, vI ((i : Nat) : Int)), (0, vS b 0 n c), (1, .func (.func 133) #[] #[]), (4, vI 0), (7, vI ((n : Nat) : Int))] _
 refine CE.seq (CE.region ?_)
 refine WD (op_lti rfl rfl) rfl ?_
 refine WL.end (NE.code (CE.seq ?_))
 rcases Bool.eq_false_or_eq_true (decide (((i : Nat) : Int) < ((n : Nat) : Int))) with hb1 | hb1
 ·have hp1 := of_decide_eq_true hb1
  refine CE.cond_t rfl hb1 ?_
  refine CE.skip' (NE.code (CE.seq (CE.block (CE.seq (CE.region ?_)))))
  refine WD (op_move rfl) rfl ?_
  refine WD (op_assign rfl) rfl ?_
  refine WL.end (NE.code (CE.seq (CE.region ?_)))
  iterate 3 refine WD (op_move rfl) rfl ?_
  refine WD (op_indexSl (off' := 0 + i) rfl rfl rfl Try.runUnderlying26 Try.sizeOf27 (by omega) (by omega) (by omega)) rfl ?_
  refine WD (op_load1 (i := i) rfl Try.isAgg27 (r.ext m1) rfl (fl_get (by have eL : List.length xs = n := ln; omega))) rfl ?_
  refine WL.call (oc_call (vs := [vF (xs.getD i 0)]) (cap := []) rfl rfl rfl Try.call133 (c_areFin1 (xs.getD i 0) (xs.getD i 0) rfl w1)) rfl rfl (ltb rfl) ?_
  rintro _ w2 ⟨rfl, m2⟩
  refine WL.end (NE.code ?_)
  rcases Bool.eq_false_or_eq_true (finF (xs.getD i 0)) with hb2 | hb2
  ·refine CE.cond_f rfl (bnot_t hb2) ?_
   refine CE.skip' (NE.blk (NE.code (CE.region ?_)))
   refine WD (op_add (r := ((i + 1 : Nat) : Int)) rfl rfl (w_i64 (by omega) (by omega))) rfl ?_
   refine WD (op_move rfl) rfl ?_
   refine WL.end ?_
   exact NE.again (i + 1) (⟨rfl, rfl, rfl, rfl, rfl, trivial⟩) ⟨(by omega), (by exact allF_step hu (by simp_all)), (m1.nt m2)⟩ (by first | (dsimp only; omega) | omega)
  ·refine CE.cond_t rfl (bnot_f hb2) ?_
   refine CE.seq (CE.region ?_)
   refine WD (op_move rfl) rfl ?_
   refine WD (op_assign rfl) rfl ?_
   refine WL.end (NE.code (CE.ret' (XE.ret_blk (XE.ret_then (XE.ret_then (XE.ret_blk (XE.ret_then ?_)))))))
   refine XE.leave1 Try.results147 rfl ?_
   refine ⟨((i : Nat) : Int), rfl, ?_, (((Mod.refl [] w).nt m1).nt m2)⟩
   all_goals first | (rw [allF_out (i := i) (by omega) (by simp_all)]; simp; done) | (have e : i = n := (by omega); subst e; rw [hu]; rfl)
 ·have hp1 := of_decide_eq_false hb1
  refine CE.cond_f rfl hb1 ?_
  refine CE.exit' (XE.exit_then (XE.exit_then (XE.exit_here (NE.code (CE.seq (CE.region ?_))))))
  refine WD (op_assign rfl) rfl ?_
  refine WL.end (NE.code (CE.ret' ?_))
  refine XE.leave1 Try.results147 rfl ?_
  refine ⟨(-1), rfl, ?_, ((Mod.refl [] w).nt m1)⟩
  all_goals first | (rw [allF_out (i := i) (by omega) (by simp_all)]; simp; done) | (have e : i = n := (by omega); subst e; rw [hu]; rfl)

theorem c_containsFin (n : Nat) (c : Nat) (b : Nat) (xs : List Nat) (ln : xs.length = n) (hn : n ≤ 1048576) (w : World) (r : Rng w b 0 (fl xs)) : Cl Try.prog 103 #[vS b 0 n c, .func (.func 133) #[] #[]] w fun v w' => v = .bool (!allF xs n) ∧ Mod [] w w' := by
 refine Cl.of Try.func103 Try.ntmps103 rfl rfl (ρ := [(0, vS b 0 n c), (1, .func (.func 133) #[] #[])]) rfl ?_
 refine CE.seq (CE.region ?_)
 refine WD (op_assign rfl) rfl ?_
 refine WL.end (NE.code (CE.seq (CE.region ?_)))
 iterate 2 refine WD (op_move rfl) rfl ?_
 refine WL.call (oc_call (vs := [vS b 0 n c, .func (.func 133) #[] #[]]) (cap := []) rfl rfl rfl Try.call147 (c_indexFin n c b xs ln (by omega) w r)) rfl rfl (ltb rfl) ?_
 rintro _ w1 ⟨z1, rfl, h1, m1⟩
 refine WD (op_gei rfl rfl) rfl ?_
 refine WD (op_assign rfl) rfl ?_
 refine WL.end (NE.code (CE.ret' ?_))
 refine XE.leave1 Try.results103 rfl ?_
 refine ⟨?_, ((Mod.refl [] w).nt m1)⟩
 all_goals (exact congrArg Value.bool (by assumption))

theorem c_areFinite (n : Nat) (c : Nat) (b : Nat) (xs : List Nat) (ln : xs.length = n) (hn : n ≤ 1048576) (w : World) (r : Rng w b 0 (fl xs)) : Cl Try.prog 83 #[vS b 0 n c] w fun v w' => v = .bool (allF xs n) ∧ Mod [] w w' := by
 refine Cl.of Try.func83 Try.ntmps83 rfl rfl (ρ := [(0, vS b 0 n c)]) rfl ?_
 refine CE.seq (CE.region ?_)
 refine WD (op_assign rfl) rfl ?_
 refine WL.end (NE.code (CE.seq (CE.region ?_)))
 refine WD (op_move rfl) rfl ?_
 refine WL.call (oc_call (vs := [vS b 0 n c, .func (.func 133) #[] #[]]) (cap := []) rfl rfl rfl Try.call103 (c_containsFin n c b xs ln (by omega) w r)) rfl rfl (ltb rfl) ?_
 rintro _ w1 ⟨rfl, m1⟩
 refine WD (op_not rfl) rfl ?_
 refine WD (op_assign rfl) rfl ?_
 refine WL.end (NE.code (CE.ret' ?_))
 refine XE.leave1 Try.results83 rfl ?_
 refine ⟨?_, ((Mod.refl [] w).nt m1)⟩
 all_goals simp

theorem c_l04All (n : Nat) (c : Nat) (b : Nat) (xs : List Nat) (ln : xs.length = n) (hn : n ≤ 1048576) (w : World) (r : Rng w b 0 (fl xs)) : Cl Try.prog 110 #[vS b 0 n c] w fun v w' => v = .bool (allF xs n) ∧ Mod [] w w' := by
 refine Cl.of Try.func110 Try.ntmps110 rfl rfl (ρ := [(0, vS b 0 n c)]) rfl ?_
 refine CE.seq (CE.region ?_)
 refine WD (op_assign rfl) rfl ?_
 refine WL.end (NE.code (CE.seq (CE.seq (CE.region ?_))))
 refine WD (op_assign rfl) rfl ?_
 refine WL.end (NE.code (CE.block ?_))
 refine CE.loop (fun (i : Nat) => [(3, vI ((i : Nat) : Int)), (0, vS b 0 n c), (2, .bool false)]) (fun (i : Nat) => fun W => (i ≤ n) ∧ (allF xs i = true) ∧ Mod [] w W) (fun (i : Nat) => n - i) 0 (⟨rfl, rfl, rfl, trivial⟩) ⟨(by omega), (by rfl), Mod.refl _ _⟩ ?_
 rintro i w1 ⟨hi, hu, m1⟩
 show CE _ _ _ _ [(3, vI ((i : Nat) : Int)), (0, vS b 0 n c), (2, .bool false)] _
 refine CE.seq (CE.seq (CE.region ?_))
 iterate 2 refine WD (op_move rfl) rfl ?_
 refine WD (op_len rfl Try.runUnderlying26) rfl ?_
 refine WD (op_lti rfl rfl) rfl ?_
 refine WL.end (NE.code ?_)
 rcases Bool.eq_false_or_eq_true (decide (((i : Nat) : Int) < ((n : Nat) : Int))) with hb1 | hb1
 ·have hp1 := of_decide_eq_true hb1
  refine CE.cond_t rfl hb1 ?_
  refine CE.skip' (NE.code (CE.seq (CE.block (CE.seq (CE.region ?_)))))
  iterate 2 refine WD (op_move rfl) rfl ?_
  refine WD (op_indexSl (off' := 0 + i) rfl rfl rfl Try.runUnderlying26 Try.sizeOf27 (by omega) (by omega) (by omega)) rfl ?_
  refine WD (op_load1 (i := i) rfl Try.isAgg27 (r.ext m1) rfl (fl_get (by have eL : List.length xs = n := ln; omega))) rfl ?_
  refine WL.call (oc_call (vs := [vF (xs.getD i 0)]) (cap := []) rfl rfl rfl Try.call58 (c_l01Finite (xs.getD i 0) (xs.getD i 0) rfl w1)) rfl rfl (ltb rfl) ?_
  rintro _ w2 ⟨rfl, m2⟩
  refine WD (op_not rfl) rfl ?_
  refine WL.end (NE.code ?_)
  rcases Bool.eq_false_or_eq_true (finF (xs.getD i 0)) with hb2 | hb2
  ·refine CE.cond_f rfl (bnot_t hb2) ?_
   refine CE.skip' (NE.blk (NE.code (CE.region ?_)))
   refine WD (op_move rfl) rfl ?_
   refine WD (op_add (r := ((i + 1 : Nat) : Int)) rfl rfl (w_i64 (by omega) (by omega))) rfl ?_
   refine WD (op_assign rfl) rfl ?_
   refine WL.end ?_
   exact NE.again (i + 1) (⟨rfl, rfl, rfl, trivial⟩) ⟨(by omega), (by exact allF_step hu (by simp_all)), (m1.nt m2)⟩ (by first | (dsimp only; omega) | omega)
  ·refine CE.cond_t rfl (bnot_f hb2) ?_
   refine CE.seq (CE.region ?_)
   refine WD (op_assign rfl) rfl ?_
   refine WL.end (NE.code (CE.ret' (XE.ret_blk (XE.ret_then (XE.ret_then (XE.ret_blk (XE.ret_then ?_)))))))
   refine XE.leave1 Try.results110 rfl ?_
   refine ⟨?_, (((Mod.refl [] w).nt m1).nt m2)⟩
   all_goals first | (rw [allF_out (i := i) (by omega) (by simp_all)]; done) | (have e : i = n := (by omega); subst e; rw [hu])
 ·have hp1 := of_decide_eq_false hb1
  refine CE.cond_f rfl hb1 ?_
  refine CE.exit' (XE.exit_then (XE.exit_then (XE.exit_here (NE.code (CE.seq (CE.region ?_))))))
  refine WD (op_assign rfl) rfl ?_
  refine WL.end (NE.code (CE.ret' ?_))
  refine XE.leave1 Try.results110 rfl ?_
  refine ⟨?_, ((Mod.refl [] w).nt m1)⟩
  all_goals first | (rw [allF_out (i := i) (by omega) (by simp_all)]; done) | (have e : i = n := (by omega); subst e; rw [hu])

theorem c_l02Ring (n : Nat) (c : Nat) (A : Option Addr) (j : Int) (p : Nat) (k : Nat) (vs : List Value) (hn : n ≤ 9223372036854775807) (hk : k + 2 ≤ vs.length) (w : World) (q : Rng w p 0 (splice vs k [.slice A n c, vI j])) : Cl Try.prog 148 #[vP p k] w fun v w' => v = .bool (vRing n j) ∧ w = w' := by
 refine Cl.of Try.func148 Try.ntmps148 rfl rfl (ρ := [(0, vP p k)]) rfl ?_
 refine CE.seq (CE.region ?_)
 refine WD (op_assign rfl) rfl ?_
 refine WL.end (NE.code (CE.seq (CE.region ?_)))
 refine WD (op_move rfl) rfl ?_
 refine WD (op_nilCheck rfl) rfl ?_
 refine WD (op_fieldAddr (off' := k) rfl Try.runUnderlying60 rfl rfl Try.sizeOf26 rfl) rfl ?_
 refine WD (op_load1 (i := k) rfl Try.isAgg26 q (Nat.zero_add _) (sub_get (i := 0) hk rfl)) rfl ?_
 refine WD (op_len rfl Try.runUnderlying26) rfl ?_
 refine WD (op_assign rfl) rfl ?_
 refine WL.end (NE.code (CE.seq (CE.region ?_)))
 refine WD (op_move rfl) rfl ?_
 refine WL.call (oc_call (vs := [vI ((n : Nat) : Int), vI 1, vI 1024]) (cap := []) rfl rfl rfl Try.call55 (c_l00In ((n : Nat) : Int) (1 : Int) (1024 : Int) w)) rfl rfl (ltb rfl) ?_
 rintro _ _ ⟨rfl, rfl⟩
 refine WD (op_move rfl) rfl ?_
 rcases Bool.eq_false_or_eq_true (vIn ((n : Nat) : Int) (1 : Int) (1024 : Int)) with hb1 | hb1
 ·have hp1 := hb1; try simp only [Bool.and_eq_true, Bool.or_eq_true, Bool.not_eq_true', Bool.not_eq_false', Bool.and_eq_false_iff, Bool.or_eq_false_iff, decide_eq_true_eq, decide_eq_false_iff_not, beq_iff_eq, bne_iff_ne, beq_eq_false_iff_ne, bne_eq_false_iff_eq, ne_eq, Bool.false_eq_true, not_false_eq_true, not_true_eq_false, vIn_t, vIn_f] at hp1
  refine WL.yes rfl rfl rfl (ltb rfl) rfl hb1 ?_
  refine WD (op_move rfl) rfl ?_
  refine WL.yes rfl rfl rfl (ltb rfl) rfl hb1 ?_
  refine WD (op_nilCheck rfl) rfl ?_
  refine WL.yes rfl rfl rfl (ltb rfl) rfl hb1 ?_
  refine WD (op_fieldAddr (off' := k + 1) rfl Try.runUnderlying60 rfl rfl Try.sizeOf2 rfl) rfl ?_
  refine WL.yes rfl rfl rfl (ltb rfl) rfl hb1 ?_
  refine WD (op_load1 (i := k + 1) rfl Try.isAgg2 q (Nat.zero_add _) (sub_get (i := 1) hk rfl)) rfl ?_
  refine WL.yes rfl rfl rfl (ltb rfl) rfl hb1 ?_
  refine WD (op_move rfl) rfl ?_
  refine WL.yes rfl rfl rfl (ltb rfl) rfl hb1 ?_
  refine WD (op_sub (r := (((n : Nat) : Int) - (1 : Int))) rfl rfl (w_i64 (by omega) (by omega))) rfl ?_
  refine WL.yes rfl rfl rfl (ltb rfl) rfl hb1 ?_
  refine WL.call (oc_call (vs := [vI j, vI 0, vI (((n : Nat) : Int) - (1 : Int))]) (cap := []) rfl rfl rfl Try.call55 (c_l00In j (0 : Int) (((n : Nat) : Int) - (1 : Int)) w)) rfl rfl (ltb rfl) ?_
  rintro _ _ ⟨rfl, rfl⟩
  refine WD (op_pick_t rfl hb1 rfl) rfl ?_
  refine WD (op_assign rfl) rfl ?_
  refine WL.end (NE.code (CE.ret' ?_))
  refine XE.leave1 Try.results148 rfl ?_
  refine ⟨?_, rfl⟩
  all_goals simp_all [vRing]
 ·have hp1 := hb1; try simp only [Bool.and_eq_true, Bool.or_eq_true, Bool.not_eq_true', Bool.not_eq_false', Bool.and_eq_false_iff, Bool.or_eq_false_iff, decide_eq_true_eq, decide_eq_false_iff_not, beq_iff_eq, bne_iff_ne, beq_eq_false_iff_ne, bne_eq_false_iff_eq, ne_eq, Bool.false_eq_true, not_false_eq_true, not_true_eq_false, vIn_t, vIn_f] at hp1
  iterate 7 refine WL.no rfl rfl rfl (ltb rfl) rfl hb1 rfl (ltb rfl) ?_
  refine WD (op_pick_f rfl hb1 rfl) rfl ?_
  refine WD (op_assign rfl) rfl ?_
  refine WL.end (NE.code (CE.ret' ?_))
  refine XE.leave1 Try.results148 rfl ?_
  refine ⟨?_, rfl⟩
  all_goals simp_all [vRing]

theorem c_ValidRing (n : Nat) (c : Nat) (A : Option Addr) (j : Int) (hn : n ≤ 9223372036854775807) (w : World) : Cl Try.prog 146 #[.agg #[.slice A n c, vI j]] w fun v w' => v = .bool (vRing n j) ∧ Mod [] w w' := by
 refine Cl.of Try.func146 Try.ntmps146 rfl rfl (ρ := [(0, .agg #[.slice A n c, vI j])]) rfl ?_
 refine CE.seq (CE.region ?_)
 refine WL.op (op_box (cs := [.slice A n c, vI j]) rfl rfl) rfl rfl (ltb rfl) ?_
 rintro _ w1 ⟨rfl, r1, m1, z1⟩
 refine WD (op_assign rfl) rfl ?_
 refine WL.end (NE.code (CE.seq ?_))
 rcases Bool.eq_false_or_eq_true (vIn ((n : Nat) : Int) (1 : Int) (1024 : Int)) with hb1 | hb1
 ·have hp1 := hb1; try simp only [Bool.and_eq_true, Bool.or_eq_true, Bool.not_eq_true', Bool.not_eq_false', Bool.and_eq_false_iff, Bool.or_eq_false_iff, decide_eq_true_eq, decide_eq_false_iff_not, beq_iff_eq, bne_iff_ne, beq_eq_false_iff_ne, bne_eq_false_iff_eq, ne_eq, Bool.false_eq_true, not_false_eq_true, not_true_eq_false, vIn_t, vIn_f] at hp1
  refine CE.draw (fun | 2 => some (fun _ wA uA wB => uA = vI ((n : Nat) : Int) ∧ wA = wB) | 3 => some (fun _ wA uA wB => uA = .bool (vIn ((n : Nat) : Int) (1 : Int) (1024 : Int)) ∧ wA = wB) | 9 => some (fun _ wA uA wB => uA = vI ((n : Nat) : Int) ∧ wA = wB) | _ => none) [0, 1, 2, 3, 4, 5, 6, 7, 8, 9, 10] [11, 12, 13] [] (by kernel_rfl) (by kernel_rfl) ?_
  have md1 : Mod [] w1 w1.drew := (Mod.refl _ _).drew
  generalize w1.drew = w2 at md1 ⊢
  refine DD 0 rfl (by kernel_rfl) rfl (fun wD mD => op_fieldAddr (off' := 0) rfl Try.runUnderlying60 rfl rfl Try.sizeOf26 rfl) ?_
  refine DD 1 rfl (by kernel_rfl) rfl (fun wD mD => op_load1 (i := 0) rfl Try.isAgg26 ((r1.ext md1).ext mD).rng rfl rfl) ?_
  refine DR.call (i := 2) (fun uA => uA = vI ((n : Nat) : Int)) rfl rfl (by kernel_rfl) (.free rfl) rfl (ltb rfl) ⟨_, rfl⟩ (vs := [.func (.func 118) #[] #[], .slice A n c]) rfl (fun wD mD => oc_call (vs := [.slice A n c]) (cap := []) rfl rfl rfl Try.call118 (c_length32 n c A wD)) ?_ ?_
  ·rintro w1 _ _ m1 ⟨rfl, rfl⟩; exact ⟨rfl, Mod.refl _ _⟩
  rintro _ rfl
  refine DR.call (i := 3) (fun uA => uA = .bool (vIn ((n : Nat) : Int) (1 : Int) (1024 : Int))) rfl rfl (by kernel_rfl) (.free rfl) rfl (ltb rfl) ⟨_, rfl⟩ (vs := [.func (.func 62) #[] #[], vI ((n : Nat) : Int), vI 1, vI 1024]) rfl (fun wD mD => oc_call (vs := [vI ((n : Nat) : Int), vI 1, vI 1024]) (cap := []) rfl rfl rfl Try.call62 (c_within ((n : Nat) : Int) (1 : Int) (1024 : Int) wD)) ?_ ?_
  ·rintro w1 _ _ m1 ⟨rfl, rfl⟩; exact ⟨rfl, Mod.refl _ _⟩
  rintro _ rfl
  refine DD 4 rfl (by kernel_rfl) rfl (fun wD mD => op_move rfl) ?_
  refine DR.det (i := 5) rfl rfl (by kernel_rfl) (.yes rfl rfl rfl (ltb rfl) rfl hb1) rfl rfl (fun wD mD => op_fieldAddr (off' := 1) rfl Try.runUnderlying60 rfl rfl Try.sizeOf2 rfl) ?_
  refine DR.det (i := 6) rfl rfl (by kernel_rfl) (.yes rfl rfl rfl (ltb rfl) rfl hb1) rfl rfl (fun wD mD => op_load1 (i := 1) rfl Try.isAgg2 ((r1.ext md1).ext mD).rng rfl rfl) ?_
  refine DR.det (i := 7) rfl rfl (by kernel_rfl) (.yes rfl rfl rfl (ltb rfl) rfl hb1) rfl rfl (fun wD mD => op_fieldAddr (off' := 0) rfl Try.runUnderlying60 rfl rfl Try.sizeOf26 rfl) ?_
  refine DR.det (i := 8) rfl rfl (by kernel_rfl) (.yes rfl rfl rfl (ltb rfl) rfl hb1) rfl rfl (fun wD mD => op_load1 (i := 0) rfl Try.isAgg26 ((r1.ext md1).ext mD).rng rfl rfl) ?_
  refine DR.call (i := 9) (fun uA => uA = vI ((n : Nat) : Int)) rfl rfl (by kernel_rfl) (.yes rfl rfl rfl (ltb rfl) rfl hb1) rfl (ltb rfl) ⟨_, rfl⟩ (vs := [.func (.func 118) #[] #[], .slice A n c]) rfl (fun wD mD => oc_call (vs := [.slice A n c]) (cap := []) rfl rfl rfl Try.call118 (c_length32 n c A wD)) ?_ ?_
  ·rintro w1 _ _ m1 ⟨rfl, rfl⟩; exact ⟨rfl, Mod.refl _ _⟩
  rintro _ rfl
  refine DR.det (i := 10) rfl rfl (by kernel_rfl) (.yes rfl rfl rfl (ltb rfl) rfl hb1) rfl rfl (fun wD mD => op_sub (r := (((n : Nat) : Int) - (1 : Int))) rfl rfl (w_i64 (by omega) (by omega))) ?_
  refine DR.done rfl ?_
  intro w3 m2
  refine WO.call rfl (.yes rfl rfl rfl (ltb rfl) rfl hb1) rfl (ltb rfl) (oc_call (vs := [vI j, vI 0, vI (((n : Nat) : Int) - (1 : Int))]) (cap := []) rfl rfl rfl Try.call62 (c_within j (0 : Int) (((n : Nat) : Int) - (1 : Int)) w3)) ?_
  rintro _ _ ⟨rfl, rfl⟩
  refine WO.det (op_pick_t rfl hb1 rfl) rfl (.free rfl) rfl rfl ?_
  refine WO.det (op_assign rfl) rfl (.free rfl) rfl rfl ?_
  refine WO.end (NE.code (CE.ret' ?_))
  refine XE.leave1 Try.results146 rfl ?_
  refine ⟨?_, ((((Mod.refl [] w).nt m1).nt md1).nt m2)⟩
  all_goals simp_all [vRing]
 ·have hp1 := hb1; try simp only [Bool.and_eq_true, Bool.or_eq_true, Bool.not_eq_true', Bool.not_eq_false', Bool.and_eq_false_iff, Bool.or_eq_false_iff, decide_eq_true_eq, decide_eq_false_iff_not, beq_iff_eq, bne_iff_ne, beq_eq_false_iff_ne, bne_eq_false_iff_eq, ne_eq, Bool.false_eq_true, not_false_eq_true, not_true_eq_false, vIn_t, vIn_f] at hp1
  refine CE.draw (fun | 2 => some (fun _ wA uA wB => uA = vI ((n : Nat) : Int) ∧ wA = wB) | 3 => some (fun _ wA uA wB => uA = .bool (vIn ((n : Nat) : Int) (1 : Int) (1024 : Int)) ∧ wA = wB) | _ => none) [0, 1, 2, 3, 4, 5, 6, 7, 8, 9, 10] [11, 12, 13] [] (by kernel_rfl) (by kernel_rfl) ?_
  have md2 : Mod [] w1 w1.drew := (Mod.refl _ _).drew
  generalize w1.drew = w4 at md2 ⊢
  refine DD 0 rfl (by kernel_rfl) rfl (fun wD mD => op_fieldAddr (off' := 0) rfl Try.runUnderlying60 rfl rfl Try.sizeOf26 rfl) ?_
  refine DD 1 rfl (by kernel_rfl) rfl (fun wD mD => op_load1 (i := 0) rfl Try.isAgg26 ((r1.ext md2).ext mD).rng rfl rfl) ?_
  refine DR.call (i := 2) (fun uA => uA = vI ((n : Nat) : Int)) rfl rfl (by kernel_rfl) (.free rfl) rfl (ltb rfl) ⟨_, rfl⟩ (vs := [.func (.func 118) #[] #[], .slice A n c]) rfl (fun wD mD => oc_call (vs := [.slice A n c]) (cap := []) rfl rfl rfl Try.call118 (c_length32 n c A wD)) ?_ ?_
  ·rintro w1 _ _ m1 ⟨rfl, rfl⟩; exact ⟨rfl, Mod.refl _ _⟩
  rintro _ rfl
  refine DR.call (i := 3) (fun uA => uA = .bool (vIn ((n : Nat) : Int) (1 : Int) (1024 : Int))) rfl rfl (by kernel_rfl) (.free rfl) rfl (ltb rfl) ⟨_, rfl⟩ (vs := [.func (.func 62) #[] #[], vI ((n : Nat) : Int), vI 1, vI 1024]) rfl (fun wD mD => oc_call (vs := [vI ((n : Nat) : Int), vI 1, vI 1024]) (cap := []) rfl rfl rfl Try.call62 (c_within ((n : Nat) : Int) (1 : Int) (1024 : Int) wD)) ?_ ?_
  ·rintro w1 _ _ m1 ⟨rfl, rfl⟩; exact ⟨rfl, Mod.refl _ _⟩
  rintro _ rfl
  refine DD 4 rfl (by kernel_rfl) rfl (fun wD mD => op_move rfl) ?_
  refine DR.skip (i := 5) rfl (by kernel_rfl) (.no rfl rfl rfl (ltb rfl) rfl hb1) rfl (ltb rfl) ?_
  refine DR.skip (i := 6) rfl (by kernel_rfl) (.no rfl rfl rfl (ltb rfl) rfl hb1) rfl (ltb rfl) ?_
  refine DR.skip (i := 7) rfl (by kernel_rfl) (.no rfl rfl rfl (ltb rfl) rfl hb1) rfl (ltb rfl) ?_
  refine DR.skip (i := 8) rfl (by kernel_rfl) (.no rfl rfl rfl (ltb rfl) rfl hb1) rfl (ltb rfl) ?_
  refine DR.skip (i := 9) rfl (by kernel_rfl) (.no rfl rfl rfl (ltb rfl) rfl hb1) rfl (ltb rfl) ?_
  refine DR.skip (i := 10) rfl (by kernel_rfl) (.no rfl rfl rfl (ltb rfl) rfl hb1) rfl (ltb rfl) ?_
  refine DR.done rfl ?_
  intro w5 m3
  refine WO.skip rfl (.no rfl rfl rfl (ltb rfl) rfl hb1) rfl (ltb rfl) ?_
  refine WO.det (op_pick_f rfl hb1 rfl) rfl (.free rfl) rfl rfl ?_
  refine WO.det (op_assign rfl) rfl (.free rfl) rfl rfl ?_
  refine WO.end (NE.code (CE.ret' ?_))
  refine XE.leave1 Try.results146 rfl ?_
  refine ⟨?_, ((((Mod.refl [] w).nt m1).nt md2).nt m3)⟩
  all_goals simp_all [vRing]

theorem c_cloneRing (n : Nat) (c : Nat) (b : Nat) (xs : List Nat) (j : Int) (ln : xs.length = n) (h0 : 0 < n) (hn : n ≤ 1048576) (w : World) (r : Rng w b 0 (fl xs)) : Cl Try.prog 152 #[.agg #[vS b 0 n c, vI j]] w fun v w' => ∃ (b' : Nat) (c' : Nat), v = .agg #[vS b' 0 n c', vI j] ∧ Row w' b' 0 (fl xs) ∧ w.heap.size ≤ b' ∧ Mod [] w w' := by
 refine Cl.of Try.func152 Try.ntmps152 rfl rfl (ρ := [(0, .agg #[vS b 0 n c, vI j])]) rfl ?_
 refine CE.seq (CE.region ?_)
 refine WL.op (op_box (cs := [vS b 0 n c, vI j]) rfl rfl) rfl rfl (ltb rfl) ?_
 rintro _ w1 ⟨rfl, r1, m1, z1⟩
 refine WL.op (op_alloc (cs := [.slice none 0 0, vI 0]) Try.zeroValue60 rfl) rfl rfl (ltb rfl) ?_
 rintro _ w2 ⟨rfl, r2, m2, z2⟩
 refine WL.end (NE.code (CE.seq ?_))
 refine CE.draw (fun | 2 => some (fun _ wA uA wB => ∃ (b' : Nat) (c' : Nat), uA = vS b' 0 n c' ∧ Row wB b' 0 (fl xs) ∧ wA.heap.size ≤ b' ∧ Mod [] wA wB) | _ => none) [0, 1, 2, 3, 4] [5, 6] [] (by kernel_rfl) (by kernel_rfl) ?_
 have md1 : Mod [] w2 w2.drew := (Mod.refl _ _).drew
 generalize w2.drew = w3 at md1 ⊢
 refine DD 0 rfl (by kernel_rfl) rfl (fun wD mD => op_fieldAddr (off' := 0) rfl Try.runUnderlying60 rfl rfl Try.sizeOf26 rfl) ?_
 refine DD 1 rfl (by kernel_rfl) rfl (fun wD mD => op_load1 (i := 0) rfl Try.isAgg26 (((r1.ext m2).ext md1).ext mD).rng rfl rfl) ?_
 refine DD 3 rfl (by kernel_rfl) rfl (fun wD mD => op_fieldAddr (off' := 1) rfl Try.runUnderlying60 rfl rfl Try.sizeOf2 rfl) ?_
 refine DD 4 rfl (by kernel_rfl) rfl (fun wD mD => op_load1 (i := 1) rfl Try.isAgg2 (((r1.ext m2).ext md1).ext mD).rng rfl rfl) ?_
 refine DR.one (i := 2) rfl rfl (by kernel_rfl) (.free rfl) rfl (ltb rfl) (vs := [.func (.func 75) #[] #[], vS b 0 n c]) rfl ?_
 intro w4 m3
 refine ⟨oc_call (vs := [vS b 0 n c]) (cap := []) rfl rfl rfl Try.call75 (c_Clone32 n c b xs ln (by omega) (by omega) w4 ((((r.ext m1).ext m2).ext md1).ext m3)), ?_⟩
 rintro _ w5 ⟨b'1, c'1, rfl, r3, ge1, m4⟩
 refine ⟨(((Mod.refl [] w3).nt m3).nt m4), ?_⟩
 refine DR.done rfl ?_
 intro w6 m5
 refine WO.det (op_build (qs := [(0, vS b'1 0 n c'1), (1, vI j)]) (cells := #[vS b'1 0 n c'1, vI j]) rfl (by kernel_rfl)) rfl (.free rfl) rfl rfl ?_
 refine WO.op0 rfl (.free rfl) rfl (op_store (i := 0) (cs := [vS b'1 0 n c'1, vI j]) rfl rfl rfl Try.sizeOf60 rfl ((((r2.ext md1).ext m3).ext m4).ext m5) rfl (lB rfl) rfl) ?_
 rintro _ w7 ⟨r4, m6, z3⟩
 have r5 : Row w7 w1.heap.size 0 [vS b'1 0 n c'1, vI j] := Row.congr r4 rfl
 refine WO.end (NE.code (CE.ret' ?_))
 refine XE.leaveC Try.results152 (res_agg (cs := [vS b'1 0 n c'1, vI j]) rfl Try.isAgg60 Try.sizeOf60 r5.rng rfl res_nil) ?_
 refine ⟨b'1, c'1, rfl, ((r3.ext m5).mod m6 (nC (lG (lL (lL r2.lt (lT md1.size m3.size)) ge1)) nN)), (lT (lT (lT (lT m1.size m2.size) md1.size) m3.size) ge1), ((((((((Mod.refl [] w).nt m1).nt m2).nt md1).nt m3).nt m4).nt m5).then m6 ((aC (.inr (lT m1.size lR)) aN)))⟩

theorem c_l02Copy (n : Nat) (c : Nat) (b : Nat) (xs : List Nat) (j : Int) (p : Nat) (k : Nat) (vs : List Value) (ln : xs.length = n) (h0 : 0 < n) (hn : n ≤ 1048576) (hk : k + 2 ≤ vs.length) (w : World) (q : Rng w p 0 (splice vs k [vS b 0 n c, vI j])) (r : Rng w b 0 (fl xs)) : Cl Try.prog 150 #[vP p k] w fun v w' => ∃ (b' : Nat) (c' : Nat), v = .agg #[vS b' 0 n c', vI j] ∧ Row w' b' 0 (fl xs) ∧ w.heap.size ≤ b' ∧ Mod [] w w' := by
 refine Cl.of Try.func150 Try.ntmps150 rfl rfl (ρ := [(0, vP p k)]) rfl ?_
 refine CE.seq (CE.region ?_)
 refine WL.op (op_alloc (cs := [.slice none 0 0, vI 0]) Try.zeroValue60 rfl) rfl rfl (ltb rfl) ?_
 rintro _ w1 ⟨rfl, r1, m1, z1⟩
 refine WL.end (NE.code (CE.seq ?_))
 refine CE.draw (fun _ => none) [0, 1, 2, 3, 4, 5, 6, 7, 8, 9] [10, 11] [] (by kernel_rfl) (by kernel_rfl) ?_
 have md1 : Mod [] w1 w1.drew := (Mod.refl _ _).drew
 generalize w1.drew = w2 at md1 ⊢
 refine DD 1 rfl (by kernel_rfl) rfl (fun wD mD => op_move rfl) ?_
 refine DD 2 rfl (by kernel_rfl) rfl (fun wD mD => op_nilCheck rfl) ?_
 refine DD 3 rfl (by kernel_rfl) rfl (fun wD mD => op_fieldAddr (off' := k) rfl Try.runUnderlying60 rfl rfl Try.sizeOf26 rfl) ?_
 refine DD 4 rfl (by kernel_rfl) rfl (fun wD mD => op_load1 (i := k) rfl Try.isAgg26 (((q.ext m1).ext md1).ext mD) (Nat.zero_add _) (sub_get (i := 0) hk rfl)) ?_
 refine DD 6 rfl (by kernel_rfl) rfl (fun wD mD => op_move rfl) ?_
 refine DD 7 rfl (by kernel_rfl) rfl (fun wD mD => op_nilCheck rfl) ?_
 refine DD 8 rfl (by kernel_rfl) rfl (fun wD mD => op_fieldAddr (off' := k + 1) rfl Try.runUnderlying60 rfl rfl Try.sizeOf2 rfl) ?_
 refine DD 9 rfl (by kernel_rfl) rfl (fun wD mD => op_load1 (i := k + 1) rfl Try.isAgg2 (((q.ext m1).ext md1).ext mD) (Nat.zero_add _) (sub_get (i := 1) hk rfl)) ?_
 refine DR.one1 (i := 0) rfl rfl (by kernel_rfl) (.free rfl) rfl (ltb rfl) ?_
 intro w3 m2
 refine Op1.mono (op_emptySl rfl Try.runUnderlying26 Try.sizeOf27) ?_
 rintro _ w4 ⟨rfl, r2, m3, z2⟩
 refine ⟨(((Mod.refl [] w2).nt m2).nt m3), ?_⟩
 refine DR.rebase ?_
 refine DR.one1 (i := 5) rfl rfl (by kernel_rfl) (.free rfl) rfl (ltb rfl) ?_
 intro w5 m4
 refine Op1.mono (op_appendF (i := Try.t27) rfl rfl Try.underlying26 rfl rfl rfl rfl (((((r.ext m1).ext md1).ext m2).ext m3).ext m4) ln (by omega) (by omega)) ?_
 rintro _ w6 ⟨b1, c1, rfl, ge1, r3, m5⟩
 refine ⟨(((Mod.refl [] w4).nt m4).nt m5), ?_⟩
 refine DR.done rfl ?_
 intro w7 m6
 refine WO.det (op_build (qs := [(0, vS b1 0 n c1), (1, vI j)]) (cells := #[vS b1 0 n c1, vI j]) rfl (by kernel_rfl)) rfl (.free rfl) rfl rfl ?_
 refine WO.op0 rfl (.free rfl) rfl (op_store (i := 0) (cs := [vS b1 0 n c1, vI j]) rfl rfl rfl Try.sizeOf60 rfl ((((((r1.ext md1).ext m2).ext m3).ext m4).ext m5).ext m6) rfl (lB rfl) rfl) ?_
 rintro _ w8 ⟨r4, m7, z3⟩
 have r5 : Row w8 w.heap.size 0 [vS b1 0 n c1, vI j] := Row.congr r4 rfl
 refine WO.end (NE.code (CE.ret' ?_))
 refine XE.leaveC Try.results150 (res_agg (cs := [vS b1 0 n c1, vI j]) rfl Try.isAgg60 Try.sizeOf60 r5.rng rfl res_nil) ?_
 refine ⟨b1, c1, rfl, ((r3.ext m6).mod m7 (nC (lG (lL (lL r1.lt (lT (lT (lT md1.size m2.size) m3.size) m4.size)) ge1)) nN)), (lT (lT (lT (lT (lT m1.size md1.size) m2.size) m3.size) m4.size) ge1), (((((((((Mod.refl [] w).nt m1).nt md1).nt m2).nt m3).nt m4).nt m5).nt m6).then m7 ((aC (.inr lR) aN)))⟩

theorem c_isRing (n : Nat) (c : Nat) (b : Nat) (xs : List Nat) (j : Int) (ln : xs.length = n) (hn : n ≤ 1048576) (w : World) (r : Rng w b 0 (fl xs)) : Cl Try.prog 102 #[.agg #[vS b 0 n c, vI j]] w fun v w' => v = .bool (vRingF n j xs) ∧ Mod [] w w' := by
 refine Cl.of Try.func102 Try.ntmps102 rfl rfl (ρ := [(0, .agg #[vS b 0 n c, vI j])]) rfl ?_
 refine CE.seq (CE.region ?_)
 refine WL.op (op_box (cs := [vS b 0 n c, vI j]) rfl rfl) rfl rfl (ltb rfl) ?_
 rintro _ w1 ⟨rfl, r1, m1, z1⟩
 refine WD (op_assign rfl) rfl ?_
 refine WL.end (NE.code (CE.seq (CE.region ?_)))
 refine WD (op_loadA (i := 0) (cs := [vS b 0 n c, vI j]) rfl Try.isAgg60 Try.sizeOf60 r1.rng rfl rfl rfl) rfl ?_
 refine WL.call (oc_call (vs := [.agg #[vS b 0 n c, vI j]]) (cap := []) rfl rfl rfl Try.call146 (c_ValidRing n c (some ⟨b, 0, none⟩) j (by omega) w1)) rfl rfl (ltb rfl) ?_
 rintro _ w2 ⟨rfl, m2⟩
 refine WD (op_move rfl) rfl ?_
 rcases Bool.eq_false_or_eq_true (vRing n j) with hb1 | hb1
 ·refine WL.yes rfl rfl rfl (ltb rfl) rfl hb1 ?_
  refine WD (op_fieldAddr (off' := 0) rfl Try.runUnderlying60 rfl rfl Try.sizeOf26 rfl) rfl ?_
  refine WL.yes rfl rfl rfl (ltb rfl) rfl hb1 ?_
  refine WD (op_load1 (i := 0) rfl Try.isAgg26 (r1.ext m2).rng rfl rfl) rfl ?_
  refine WL.yes rfl rfl rfl (ltb rfl) rfl hb1 ?_
  refine WL.call (oc_call (vs := [vS b 0 n c]) (cap := []) rfl rfl rfl Try.call83 (c_areFinite n c b xs ln (by omega) w2 ((r.ext m1).ext m2))) rfl rfl (ltb rfl) ?_
  rintro _ w3 ⟨rfl, m3⟩
  refine WD (op_pick_t rfl hb1 rfl) rfl ?_
  refine WD (op_assign rfl) rfl ?_
  refine WL.end (NE.code (CE.ret' ?_))
  refine XE.leave1 Try.results102 rfl ?_
  refine ⟨?_, ((((Mod.refl [] w).nt m1).nt m2).nt m3)⟩
  all_goals simp_all [vRingF]
 ·refine WL.no rfl rfl rfl (ltb rfl) rfl hb1 rfl (ltb rfl) ?_
  iterate 2 refine WL.no rfl rfl rfl (ltb rfl) rfl hb1 rfl (ltb rfl) ?_
  refine WD (op_pick_f rfl hb1 rfl) rfl ?_
  refine WD (op_assign rfl) rfl ?_
  refine WL.end (NE.code (CE.ret' ?_))
  refine XE.leave1 Try.results102 rfl ?_
  refine ⟨?_, (((Mod.refl [] w).nt m1).nt m2)⟩
  all_goals simp_all [vRingF]

end Go.Proofs.Ytnahhdnkbbdceaa
