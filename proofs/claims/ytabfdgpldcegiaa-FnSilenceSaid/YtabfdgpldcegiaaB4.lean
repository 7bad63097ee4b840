/- What the functions on blocks, and the search for stillness, compute. -/
import Derived.Test.YtabfdgpldcegiaaB3
set_option linter.unusedVariables false
set_option linter.unusedSimpArgs false
namespace Go.Proofs.Ytabfdgpldcegiaa

def stillF (s t : Nat) : Bool := fEq .f32 s 0 && fEq .f32 t 0
/-- behind how many samples 0 the state is 0, and the code of the answer -/
def stepsF (kd : Int) (c0 c1 c2 : Nat) : Nat → Nat → Nat → Nat → Int × Int
  | 0, _, _, _ => (0, 7)
  | k + 1, i, s, t => if stillF s t then ((i : Int), 0) else stepsF kd c0 c1 c2 k (i + 1) (stepS kd c0 c1 c2 s t 0) (stepT kd c0 c1 c2 s t 0)
theorem stepsF_on {kd : Int} {c0 c1 c2 k i s t : Nat} (h : stillF s t = false) (hk : 0 < k) : stepsF kd c0 c1 c2 k i s t = stepsF kd c0 c1 c2 (k - 1) (i + 1) (stepS kd c0 c1 c2 s t 0) (stepT kd c0 c1 c2 s t 0) := by
  cases k with
  | zero => omega
  | succ k => simp [stepsF, h]
theorem stepsF_next {kd : Int} {c0 c1 c2 k k' i s t : Nat} {R : Int × Int} (he : stepsF kd c0 c1 c2 k i s t = R) (h : stillF s t = false) (hk : 0 < k) (hk' : k' = k - 1) : stepsF kd c0 c1 c2 k' (i + 1) (stepS kd c0 c1 c2 s t 0) (stepT kd c0 c1 c2 s t 0) = R := by
  subst hk'; rw [← stepsF_on h hk]; exact he
theorem stepsF_yes {kd : Int} {c0 c1 c2 k i s t : Nat} (h : stillF s t = true) (hk : 0 < k) : stepsF kd c0 c1 c2 k i s t = ((i : Int), 0) := by
  cases k with
  | zero => omega
  | succ k => simp [stepsF, h]
theorem stepsF_no {kd : Int} {c0 c1 c2 k i s t : Nat} (hk : k = 0) : stepsF kd c0 c1 c2 k i s t = (0, 7) := by subst hk; rfl

/-- the state before sample number `i` of a block -/
def stAt (kd : Int) (c0 c1 c2 s0 s1 : Nat) (bs : List Nat) : Nat → Nat × Nat
  | 0 => (s0, s1)
  | i + 1 => (stepS kd c0 c1 c2 (stAt kd c0 c1 c2 s0 s1 bs i).1 (stAt kd c0 c1 c2 s0 s1 bs i).2 (bs.getD i 0), stepT kd c0 c1 c2 (stAt kd c0 c1 c2 s0 s1 bs i).1 (stAt kd c0 c1 c2 s0 s1 bs i).2 (bs.getD i 0))
def yAt (kd : Int) (c0 c1 c2 s0 s1 : Nat) (bs : List Nat) (i : Nat) : Nat := stepY kd c0 c1 c2 (stAt kd c0 c1 c2 s0 s1 bs i).1 (stAt kd c0 c1 c2 s0 s1 bs i).2 (bs.getD i 0)
theorem yAt_lt (kd : Int) (c0 c1 c2 s0 s1 : Nat) (bs : List Nat) (i : Nat) : yAt kd c0 c1 c2 s0 s1 bs i < wid .f32 := by
  unfold yAt stepY; (repeat' split) <;> exact fop_lt _ _ _ _
/-- the block holds what the filter makes, up to the payloads of NaNs, in its first `n` places -/
def Outs (kd : Int) (c0 c1 c2 s0 s1 : Nat) (bs : List Nat) (n : Nat) (ys : List Nat) : Prop := ys.length = 16 ∧ W32 ys ∧ ∀ j, j < n → cn .f32 (ys.getD j 0) = cn .f32 (yAt kd c0 c1 c2 s0 s1 bs j)
def Rest (bs : List Nat) (n : Nat) (ys : List Nat) : Prop := ∀ j, n ≤ j → j < 16 → ys.getD j 0 = bs.getD j 0
section
variable {kd : Int} {c0 c1 c2 s0 s1 : Nat} {bs ys zs : List Nat} {n : Nat}
theorem Outs.zero (h : ys.length = 16) (hw : W32 ys) : Outs kd c0 c1 c2 s0 s1 bs 0 ys := ⟨h, hw, fun j hj => absurd hj (Nat.not_lt_zero _)⟩
theorem getD_set_eq {xs : List Nat} {i x : Nat} (h : i < xs.length) : (xs.set i x).getD i 0 = x := by simp [h]
theorem getD_set_neq {xs : List Nat} {i j x : Nat} (h : i ≠ j) : (xs.set i x).getD j 0 = xs.getD j 0 := by simp [h]
theorem Outs.next {y : Nat} (h : Outs kd c0 c1 c2 s0 s1 bs n ys) (hn : n < 16) (hy : cn .f32 y = cn .f32 (yAt kd c0 c1 c2 s0 s1 bs n)) (hw : y < wid .f32) : Outs kd c0 c1 c2 s0 s1 bs (n + 1) (ys.set n y) :=
  ⟨by rw [List.length_set]; exact h.1, h.2.1.set hw, fun j hj => by
    by_cases e : n = j
    · subst e; rw [getD_set_eq (by rw [h.1]; exact hn)]; exact hy
    · rw [getD_set_neq e]; exact h.2.2 j (by omega)⟩
theorem Rest.zero : Rest bs n bs := fun _ _ _ => rfl
theorem Rest.next {y : Nat} (h : Rest bs n ys) : Rest bs (n + 1) (ys.set n y) := fun j hj hj' => by rw [getD_set_neq (by omega)]; exact h j (by omega) hj'
theorem Outs.same (h : Outs kd c0 c1 c2 s0 s1 bs 16 ys) (h2 : Outs kd c0 c1 c2 s0 s1 bs 16 zs) : ∀ j, j < 16 → cn .f32 (ys.getD j 0) = cn .f32 (zs.getD j 0) := fun j hj => (h.2.2 j hj).trans (h2.2.2 j hj).symm
theorem Outs.some (kd : Int) (c0 c1 c2 s0 s1 : Nat) (bs : List Nat) : ∃ ys, Outs kd c0 c1 c2 s0 s1 bs 16 ys :=
  ⟨(List.range 16).map (yAt kd c0 c1 c2 s0 s1 bs), by simp, fun x hx => by
    obtain ⟨j, _, rfl⟩ := List.mem_map.1 hx; exact yAt_lt _ _ _ _ _ _ _ _, fun j hj => by simp [hj]⟩
end

set_option maxRecDepth 100000 in
set_option maxHeartbeats 2000000 in
theorem c_toBlock (bs : List Nat) (lb : bs.length = 16) (w : World) : Cl Try.prog 48 #[.agg (fl bs).toArray] w fun v w' => v = .agg (fl bs).toArray ∧ Mod [] w w' := by
  refine Cl.of Try.func48 Try.ntmps48 rfl rfl (ρ := [(0, .agg (fl bs).toArray)]) rfl ?_
  refine CE.seq ?_
  refine CE.region ?_
  refine WL.op (op_box (cs := fl bs) rfl rfl) rfl rfl (ltb rfl) ?_
  rintro _ w1 ⟨rfl, r1, m1, z1⟩
  refine WL.op (op_alloc (cs := fl (List.replicate 16 0)) Try.zeroValue75 rfl) rfl rfl (ltb rfl) ?_
  rintro _ w2 ⟨rfl, r2, m2, z2⟩
  refine WL.end ?_
  refine NE.code ?_
  refine CE.seq ?_
  refine CE.region ?_
  refine WL.op (op_alloc (cs := fl (List.replicate 16 0)) Try.zeroValue75 rfl) rfl rfl (ltb rfl) ?_
  rintro _ w3 ⟨rfl, r3, m3, z3⟩
  refine WL.end ?_
  refine NE.code ?_
  refine CE.seq ?_
  refine CE.seq ?_
  refine CE.region ?_
  refine WL.det (op_assign rfl) rfl rfl rfl ?_
  refine WL.end ?_
  refine NE.code ?_
  refine CE.block ?_
  refine CE.loop (fun (i : Nat) => [(4, vI ((i : Nat) : Int)), (1, vP w.heap.size 0), (2, vP w1.heap.size 0), (3, vP w2.heap.size 0)]) (fun (i : Nat) => fun W => (i ≤ 16) ∧ Row W w2.heap.size 0 (fl (fill bs i)) ∧ Mod [w2.heap.size] w3 W) (fun (i : Nat) => 16 - i) 0 (⟨rfl, rfl, rfl, rfl, trivial⟩) ⟨(by omega), (Row.congr r3 (fill_zero lb)), Mod.refl _ _⟩ ?_
  rintro i w4 ⟨hi, r4, m4⟩
  show CE _ _ _ _ [(4, vI ((i : Nat) : Int)), (1, vP w.heap.size 0), (2, vP w1.heap.size 0), (3, vP w2.heap.size 0)] _
  refine CE.seq ?_
  refine CE.seq ?_
  refine CE.region ?_
  refine WL.det (op_move rfl) rfl rfl rfl ?_
  refine WL.det (op_lti rfl rfl) rfl rfl rfl ?_
  refine WL.end ?_
  refine NE.code ?_
  rcases Bool.eq_false_or_eq_true (decide (((i : Nat) : Int) < (16 : Int))) with hb1 | hb1
  · have hp1 := hb1; try simp only [Bool.and_eq_true, Bool.or_eq_true, Bool.not_eq_true', Bool.not_eq_false', Bool.and_eq_false_iff, Bool.or_eq_false_iff, decide_eq_true_eq, decide_eq_false_iff_not, beq_iff_eq, bne_iff_ne, beq_eq_false_iff_ne, bne_eq_false_iff_eq, ne_eq, Bool.false_eq_true, not_false_eq_true, not_true_eq_false, vIn_t, vIn_f] at hp1
    refine CE.cond_t rfl hb1 ?_
    refine CE.skip' ?_
    refine NE.code ?_
    refine CE.seq ?_
    refine CE.block ?_
    refine CE.region ?_
    refine WL.det (op_move rfl) rfl rfl rfl ?_
    refine WL.det (op_move rfl) rfl rfl rfl ?_
    refine WL.det (op_indexArr (off' := 0 + i) rfl rfl Try.runUnderlying74 Try.sizeOf27 (by omega) (by omega) (by omega)) rfl rfl rfl ?_
    refine WL.det (op_load1 (i := i) rfl Try.isAgg27 (((r1.ext m2).ext m3).mod m4 (nC (lE (lL (lL r1.lt m2.size) lR)) nN)).rng rfl (fl_get (by have eL : List.length bs = 16 := lb; omega))) rfl rfl rfl ?_
    refine WL.det (op_indexArr (off' := 0 + i) rfl rfl Try.runUnderlying75 Try.sizeOf27 (by omega) (by omega) (by omega)) rfl rfl rfl ?_
    refine WL.op0 (op_store (i := i) (cs := [vF (bs.getD i 0)]) rfl rfl rfl Try.sizeOf27 rfl r4 rfl (by rw [fl_length]; have eL : List.length (fill bs i) = 16 := (fill_len lb (by omega)); omega) rfl) rfl rfl ?_
    rintro _ w5 ⟨r5, m5, z4⟩
    have r6 : Row w5 w2.heap.size 0 (fl ((fill bs i).set i (bs.getD i 0))) := Row.congr r5 (fl_splice (by have eL : List.length (fill bs i) = 16 := (fill_len lb (by omega)); omega))
    refine WL.end ?_
    refine NE.blk ?_
    refine NE.code ?_
    refine CE.region ?_
    refine WL.det (op_move rfl) rfl rfl rfl ?_
    refine WL.det (op_add (r := ((i + 1 : Nat) : Int)) rfl rfl (w_i64 (by omega) (by omega))) rfl rfl rfl ?_
    refine WL.det (op_assign rfl) rfl rfl rfl ?_
    refine WL.end ?_
    exact NE.again (i + 1) (⟨rfl, rfl, rfl, rfl, trivial⟩) ⟨(by omega), (Row.congr r6 (fill_set lb (by omega))), (m4.then m5 ((aC (.inl (by simp)) aN)))⟩ (by first | (dsimp only; omega) | omega)
  · have hp1 := hb1; try simp only [Bool.and_eq_true, Bool.or_eq_true, Bool.not_eq_true', Bool.not_eq_false', Bool.and_eq_false_iff, Bool.or_eq_false_iff, decide_eq_true_eq, decide_eq_false_iff_not, beq_iff_eq, bne_iff_ne, beq_eq_false_iff_ne, bne_eq_false_iff_eq, ne_eq, Bool.false_eq_true, not_false_eq_true, not_true_eq_false, vIn_t, vIn_f] at hp1
    refine CE.cond_f rfl hb1 ?_
    refine CE.exit' ?_
    refine XE.exit_then ?_
    refine XE.exit_then ?_
    refine XE.exit_here ?_
    refine NE.code ?_
    refine CE.seq ?_
    refine CE.region ?_
    refine WL.det (op_loadA (i := 0) (cs := fl (fill bs i)) rfl Try.isAgg75 Try.sizeOf75 r4.rng rfl (fl_whole (fill_len lb (by omega))) (fl_len (fill_len lb (by omega)))) rfl rfl rfl ?_
    refine WL.op0 (op_store (i := 0) (cs := fl (fill bs i)) rfl rfl rfl Try.sizeOf75 (fl_len (fill_len lb (by omega))) ((r2.ext m3).mod m4 (nC (lE (lL r2.lt lR)) nN)) rfl (by rw [fl_length, List.length_replicate]; decide) (fl_one _)) rfl rfl ?_
    rintro _ w6 ⟨r7, m6, z5⟩
    have r8 : Row w6 w1.heap.size 0 (fl (fill bs i)) := Row.congr r7 (splice_all ((fl_len (List.length_replicate)).trans (fl_len ((fill_len lb (by omega)))).symm))
    refine WL.end ?_
    refine NE.code ?_
    refine CE.ret' ?_
    refine XE.leaveC Try.results48 (res_agg (cs := fl (fill bs i)) rfl Try.isAgg75 Try.sizeOf75 r8.rng (fl_len (fill_len lb (by omega))) res_nil) ?_
    refine ⟨?_, ((((((Mod.refl [] w).nt m1).nt m2).nt m3).then m4 ((aC (.inr (lT (lT m1.size m2.size) lR)) aN))).then m6 ((aC (.inr (lT m1.size lR)) aN)))⟩
    all_goals exact congrArg (fun l : List Value => Value.agg l.toArray) (fill_done lb (by omega))

set_option maxRecDepth 100000 in
set_option maxHeartbeats 2000000 in
theorem c_eqBlock_same (xs : List Nat) (lx : xs.length = 16) (w : World) : Cl Try.prog 50 #[.agg (fl xs).toArray, .agg (fl xs).toArray] w fun v w' => v = .bool true ∧ Mod [] w w' := by
  refine Cl.of Try.func50 Try.ntmps50 rfl rfl (ρ := [(0, .agg (fl xs).toArray), (1, .agg (fl xs).toArray)]) rfl ?_
  refine CE.seq ?_
  refine CE.region ?_
  refine WL.op (op_box (cs := fl xs) rfl rfl) rfl rfl (ltb rfl) ?_
  rintro _ w1 ⟨rfl, r1, m1, z1⟩
  refine WL.op (op_box (cs := fl xs) rfl rfl) rfl rfl (ltb rfl) ?_
  rintro _ w2 ⟨rfl, r2, m2, z2⟩
  refine WL.det (op_assign rfl) rfl rfl rfl ?_
  refine WL.end ?_
  refine NE.code ?_
  refine CE.seq ?_
  refine CE.seq ?_
  refine CE.region ?_
  refine WL.det (op_assign rfl) rfl rfl rfl ?_
  refine WL.end ?_
  refine NE.code ?_
  refine CE.block ?_
  refine CE.loop (fun (i : Nat) => [(5, vI ((i : Nat) : Int)), (2, vP w.heap.size 0), (3, vP w1.heap.size 0), (4, .bool false)]) (fun (i : Nat) => fun W => (i ≤ 16) ∧ Mod [] w2 W) (fun (i : Nat) => 16 - i) 0 (⟨rfl, rfl, rfl, rfl, trivial⟩) ⟨(by omega), Mod.refl _ _⟩ ?_
  rintro i w3 ⟨hi, m3⟩
  show CE _ _ _ _ [(5, vI ((i : Nat) : Int)), (2, vP w.heap.size 0), (3, vP w1.heap.size 0), (4, .bool false)] _
  refine CE.seq ?_
  refine CE.seq ?_
  refine CE.region ?_
  refine WL.det (op_move rfl) rfl rfl rfl ?_
  refine WL.det (op_lti rfl rfl) rfl rfl rfl ?_
  refine WL.end ?_
  refine NE.code ?_
  rcases Bool.eq_false_or_eq_true (decide (((i : Nat) : Int) < (16 : Int))) with hb1 | hb1
  · have hp1 := hb1; try simp only [Bool.and_eq_true, Bool.or_eq_true, Bool.not_eq_true', Bool.not_eq_false', Bool.and_eq_false_iff, Bool.or_eq_false_iff, decide_eq_true_eq, decide_eq_false_iff_not, beq_iff_eq, bne_iff_ne, beq_eq_false_iff_ne, bne_eq_false_iff_eq, ne_eq, Bool.false_eq_true, not_false_eq_true, not_true_eq_false, vIn_t, vIn_f] at hp1
    refine CE.cond_t rfl hb1 ?_
    refine CE.skip' ?_
    refine NE.code ?_
    refine CE.seq ?_
    refine CE.block ?_
    refine CE.seq ?_
    refine CE.draw (fun _ => none) [0, 1, 2, 3, 4, 5, 6, 7] [8, 9] [] (by kernel_rfl) (by kernel_rfl) ?_
    have md1 : Mod [] w3 w3.drew := (Mod.refl _ _).drew
    generalize w3.drew = w4 at md1 ⊢
    refine DR.det (i := 0) rfl rfl (by kernel_rfl) (.free rfl) rfl rfl (fun wD mD => op_move rfl) ?_
    refine DR.det (i := 1) rfl rfl (by kernel_rfl) (.free rfl) rfl rfl (fun wD mD => op_indexArr (off' := 0 + i) rfl rfl Try.runUnderlying75 Try.sizeOf27 (by omega) (by omega) (by omega)) ?_
    refine DR.det (i := 2) rfl rfl (by kernel_rfl) (.free rfl) rfl rfl (fun wD mD => op_load1 (i := i) rfl Try.isAgg27 ((((r1.ext m2).ext m3).ext md1).ext mD).rng rfl (fl_get (by have eL : List.length xs = 16 := lx; omega))) ?_
    refine DR.op (i := 3) (FOut .f64 (wide (xs.getD i 0))) rfl rfl (by kernel_rfl) (.free rfl) rfl (ltb rfl) (fun wD mD => op_widen (e := (wide (xs.getD i 0))) rfl rfl Try.runUnderlying27 Try.runUnderlying67 rfl) ?_
    rintro _ ⟨f1, rfl, hf1, lf1⟩
    refine DR.det (i := 4) rfl rfl (by kernel_rfl) (.free rfl) rfl rfl (fun wD mD => op_move rfl) ?_
    refine DR.det (i := 5) rfl rfl (by kernel_rfl) (.free rfl) rfl rfl (fun wD mD => op_indexArr (off' := 0 + i) rfl rfl Try.runUnderlying75 Try.sizeOf27 (by omega) (by omega) (by omega)) ?_
    refine DR.det (i := 6) rfl rfl (by kernel_rfl) (.free rfl) rfl rfl (fun wD mD => op_load1 (i := i) rfl Try.isAgg27 (((r2.ext m3).ext md1).ext mD).rng rfl (fl_get (by have eL : List.length xs = 16 := lx; omega))) ?_
    refine DR.op (i := 7) (FOut .f64 (wide (xs.getD i 0))) rfl rfl (by kernel_rfl) (.free rfl) rfl (ltb rfl) (fun wD mD => op_widen (e := (wide (xs.getD i 0))) rfl rfl Try.runUnderlying27 Try.runUnderlying67 rfl) ?_
    rintro _ ⟨f2, rfl, hf2, lf2⟩
    refine DR.done rfl ?_
    intro w5 m4
    refine WO.call rfl (.free rfl) rfl (ltb rfl) (oc_call (vs := [.float .f64 f1, .float .f64 f2]) (cap := []) rfl rfl rfl Try.call39 (c_sameFloat f1 (wide (xs.getD i 0)) f2 (wide (xs.getD i 0)) hf1 hf2 w5)) ?_
    rintro _ w6 ⟨rfl, m5⟩
    refine WO.det (op_not rfl) rfl (.free rfl) rfl rfl ?_
    refine WO.end ?_
    refine NE.code ?_
    refine CE.cond_f rfl (bnot_t (sameF_self _)) ?_
    refine CE.skip' ?_
    refine NE.blk ?_
    refine NE.code ?_
    refine CE.region ?_
    refine WL.det (op_move rfl) rfl rfl rfl ?_
    refine WL.det (op_add (r := ((i + 1 : Nat) : Int)) rfl rfl (w_i64 (by omega) (by omega))) rfl rfl rfl ?_
    refine WL.det (op_assign rfl) rfl rfl rfl ?_
    refine WL.end ?_
    exact NE.again (i + 1) (⟨rfl, rfl, rfl, rfl, trivial⟩) ⟨(by omega), (((m3.nt md1).nt m4).nt m5)⟩ (by first | (dsimp only; omega) | omega)
  · have hp1 := hb1; try simp only [Bool.and_eq_true, Bool.or_eq_true, Bool.not_eq_true', Bool.not_eq_false', Bool.and_eq_false_iff, Bool.or_eq_false_iff, decide_eq_true_eq, decide_eq_false_iff_not, beq_iff_eq, bne_iff_ne, beq_eq_false_iff_ne, bne_eq_false_iff_eq, ne_eq, Bool.false_eq_true, not_false_eq_true, not_true_eq_false, vIn_t, vIn_f] at hp1
    refine CE.cond_f rfl hb1 ?_
    refine CE.exit' ?_
    refine XE.exit_then ?_
    refine XE.exit_then ?_
    refine XE.exit_here ?_
    refine NE.code ?_
    refine CE.seq ?_
    refine CE.region ?_
    refine WL.det (op_assign rfl) rfl rfl rfl ?_
    refine WL.end ?_
    refine NE.code ?_
    refine CE.ret' ?_
    refine XE.leave1 Try.results50 rfl ?_
    refine ⟨rfl, ((((Mod.refl [] w).nt m1).nt m2).nt m3)⟩

set_option maxRecDepth 100000 in
set_option maxHeartbeats 2000000 in
theorem c_eqBlock (xs : List Nat) (ys : List Nat) (lx : xs.length = 16) (ly : ys.length = 16) (wx : W32 xs) (wy : W32 ys) (he : ∀ j, j < 16 → cn .f32 (xs.getD j 0) = cn .f32 (ys.getD j 0)) (w : World) : Cl Try.prog 50 #[.agg (fl xs).toArray, .agg (fl ys).toArray] w fun v w' => v = .bool true ∧ Mod [] w w' := by
  refine Cl.of Try.func50 Try.ntmps50 rfl rfl (ρ := [(0, .agg (fl xs).toArray), (1, .agg (fl ys).toArray)]) rfl ?_
  refine CE.seq ?_
  refine CE.region ?_
  refine WL.op (op_box (cs := fl xs) rfl rfl) rfl rfl (ltb rfl) ?_
  rintro _ w1 ⟨rfl, r1, m1, z1⟩
  refine WL.op (op_box (cs := fl ys) rfl rfl) rfl rfl (ltb rfl) ?_
  rintro _ w2 ⟨rfl, r2, m2, z2⟩
  refine WL.det (op_assign rfl) rfl rfl rfl ?_
  refine WL.end ?_
  refine NE.code ?_
  refine CE.seq ?_
  refine CE.seq ?_
  refine CE.region ?_
  refine WL.det (op_assign rfl) rfl rfl rfl ?_
  refine WL.end ?_
  refine NE.code ?_
  refine CE.block ?_
  refine CE.loop (fun (i : Nat) => [(5, vI ((i : Nat) : Int)), (2, vP w.heap.size 0), (3, vP w1.heap.size 0), (4, .bool false)]) (fun (i : Nat) => fun W => (i ≤ 16) ∧ Mod [] w2 W) (fun (i : Nat) => 16 - i) 0 (⟨rfl, rfl, rfl, rfl, trivial⟩) ⟨(by omega), Mod.refl _ _⟩ ?_
  rintro i w3 ⟨hi, m3⟩
  show CE _ _ _ _ [(5, vI ((i : Nat) : Int)), (2, vP w.heap.size 0), (3, vP w1.heap.size 0), (4, .bool false)] _
  refine CE.seq ?_
  refine CE.seq ?_
  refine CE.region ?_
  refine WL.det (op_move rfl) rfl rfl rfl ?_
  refine WL.det (op_lti rfl rfl) rfl rfl rfl ?_
  refine WL.end ?_
  refine NE.code ?_
  rcases Bool.eq_false_or_eq_true (decide (((i : Nat) : Int) < (16 : Int))) with hb1 | hb1
  · have hp1 := hb1; try simp only [Bool.and_eq_true, Bool.or_eq_true, Bool.not_eq_true', Bool.not_eq_false', Bool.and_eq_false_iff, Bool.or_eq_false_iff, decide_eq_true_eq, decide_eq_false_iff_not, beq_iff_eq, bne_iff_ne, beq_eq_false_iff_ne, bne_eq_false_iff_eq, ne_eq, Bool.false_eq_true, not_false_eq_true, not_true_eq_false, vIn_t, vIn_f] at hp1
    refine CE.cond_t rfl hb1 ?_
    refine CE.skip' ?_
    refine NE.code ?_
    refine CE.seq ?_
    refine CE.block ?_
    refine CE.seq ?_
    refine CE.draw (fun _ => none) [0, 1, 2, 3, 4, 5, 6, 7] [8, 9] [] (by kernel_rfl) (by kernel_rfl) ?_
    have md1 : Mod [] w3 w3.drew := (Mod.refl _ _).drew
    generalize w3.drew = w4 at md1 ⊢
    refine DR.det (i := 0) rfl rfl (by kernel_rfl) (.free rfl) rfl rfl (fun wD mD => op_move rfl) ?_
    refine DR.det (i := 1) rfl rfl (by kernel_rfl) (.free rfl) rfl rfl (fun wD mD => op_indexArr (off' := 0 + i) rfl rfl Try.runUnderlying75 Try.sizeOf27 (by omega) (by omega) (by omega)) ?_
    refine DR.det (i := 2) rfl rfl (by kernel_rfl) (.free rfl) rfl rfl (fun wD mD => op_load1 (i := i) rfl Try.isAgg27 ((((r1.ext m2).ext m3).ext md1).ext mD).rng rfl (fl_get (by have eL : List.length xs = 16 := lx; omega))) ?_
    refine DR.op (i := 3) (FOut .f64 (wide (xs.getD i 0))) rfl rfl (by kernel_rfl) (.free rfl) rfl (ltb rfl) (fun wD mD => op_widen (e := (wide (xs.getD i 0))) rfl rfl Try.runUnderlying27 Try.runUnderlying67 rfl) ?_
    rintro _ ⟨f1, rfl, hf1, lf1⟩
    refine DR.det (i := 4) rfl rfl (by kernel_rfl) (.free rfl) rfl rfl (fun wD mD => op_move rfl) ?_
    refine DR.det (i := 5) rfl rfl (by kernel_rfl) (.free rfl) rfl rfl (fun wD mD => op_indexArr (off' := 0 + i) rfl rfl Try.runUnderlying75 Try.sizeOf27 (by omega) (by omega) (by omega)) ?_
    refine DR.det (i := 6) rfl rfl (by kernel_rfl) (.free rfl) rfl rfl (fun wD mD => op_load1 (i := i) rfl Try.isAgg27 (((r2.ext m3).ext md1).ext mD).rng rfl (fl_get (by have eL : List.length ys = 16 := ly; omega))) ?_
    refine DR.op (i := 7) (FOut .f64 (wide (ys.getD i 0))) rfl rfl (by kernel_rfl) (.free rfl) rfl (ltb rfl) (fun wD mD => op_widen (e := (wide (ys.getD i 0))) rfl rfl Try.runUnderlying27 Try.runUnderlying67 rfl) ?_
    rintro _ ⟨f2, rfl, hf2, lf2⟩
    refine DR.done rfl ?_
    intro w5 m4
    refine WO.call rfl (.free rfl) rfl (ltb rfl) (oc_call (vs := [.float .f64 f1, .float .f64 f2]) (cap := []) rfl rfl rfl Try.call39 (c_sameFloat f1 (wide (xs.getD i 0)) f2 (wide (ys.getD i 0)) hf1 hf2 w5)) ?_
    rintro _ w6 ⟨rfl, m5⟩
    refine WO.det (op_not rfl) rfl (.free rfl) rfl rfl ?_
    refine WO.end ?_
    refine NE.code ?_
    refine CE.cond_f rfl (bnot_t (same_of_cn (wx.get i) (wy.get i) (he i (by omega)))) ?_
    refine CE.skip' ?_
    refine NE.blk ?_
    refine NE.code ?_
    refine CE.region ?_
    refine WL.det (op_move rfl) rfl rfl rfl ?_
    refine WL.det (op_add (r := ((i + 1 : Nat) : Int)) rfl rfl (w_i64 (by omega) (by omega))) rfl rfl rfl ?_
    refine WL.det (op_assign rfl) rfl rfl rfl ?_
    refine WL.end ?_
    exact NE.again (i + 1) (⟨rfl, rfl, rfl, rfl, trivial⟩) ⟨(by omega), (((m3.nt md1).nt m4).nt m5)⟩ (by first | (dsimp only; omega) | omega)
  · have hp1 := hb1; try simp only [Bool.and_eq_true, Bool.or_eq_true, Bool.not_eq_true', Bool.not_eq_false', Bool.and_eq_false_iff, Bool.or_eq_false_iff, decide_eq_true_eq, decide_eq_false_iff_not, beq_iff_eq, bne_iff_ne, beq_eq_false_iff_ne, bne_eq_false_iff_eq, ne_eq, Bool.false_eq_true, not_false_eq_true, not_true_eq_false, vIn_t, vIn_f] at hp1
    refine CE.cond_f rfl hb1 ?_
    refine CE.exit' ?_
    refine XE.exit_then ?_
    refine XE.exit_then ?_
    refine XE.exit_here ?_
    refine NE.code ?_
    refine CE.seq ?_
    refine CE.region ?_
    refine WL.det (op_assign rfl) rfl rfl rfl ?_
    refine WL.end ?_
    refine NE.code ?_
    refine CE.ret' ?_
    refine XE.leave1 Try.results50 rfl ?_
    refine ⟨rfl, ((((Mod.refl [] w).nt m1).nt m2).nt m3)⟩

set_option maxRecDepth 100000 in
set_option maxHeartbeats 2000000 in
theorem c_isStill (kd : Int) (c0 : Nat) (c1 : Nat) (c2 : Nat) (s0 : Nat) (s1 : Nat) (w : World) : Cl Try.prog 82 #[.agg #[vI kd, vF c0, vF c1, vF c2, vF s0, vF s1]] w fun v w' => v = .bool (stillF s0 s1) ∧ Mod [] w w' := by
  refine Cl.of Try.func82 Try.ntmps82 rfl rfl (ρ := [(0, .agg #[vI kd, vF c0, vF c1, vF c2, vF s0, vF s1])]) rfl ?_
  refine CE.seq ?_
  refine CE.region ?_
  refine WL.op (op_box (cs := [vI kd, vF c0, vF c1, vF c2, vF s0, vF s1]) rfl rfl) rfl rfl (ltb rfl) ?_
  rintro _ w1 ⟨rfl, r1, m1, z1⟩
  refine WL.det (op_assign rfl) rfl rfl rfl ?_
  refine WL.end ?_
  refine NE.code ?_
  refine CE.seq ?_
  refine CE.region ?_
  refine WL.det (op_fieldAddr (off' := 4) rfl Try.runUnderlying31 rfl rfl Try.sizeOf29 rfl) rfl rfl rfl ?_
  refine WL.det (op_indexArr (off' := 4) rfl rfl Try.runUnderlying29 Try.sizeOf27 (by decide) (by decide) rfl) rfl rfl rfl ?_
  refine WL.det (op_load1 (i := 4) rfl Try.isAgg27 r1.rng rfl rfl) rfl rfl rfl ?_
  refine WL.det (op_feq (c := fEq .f32 s0 0) rfl rfl rfl rfl rfl) rfl rfl rfl ?_
  refine WL.det (op_move rfl) rfl rfl rfl ?_
  rcases Bool.eq_false_or_eq_true (fEq .f32 s0 0) with hb1 | hb1
  · refine WL.yes rfl rfl rfl (ltb rfl) rfl hb1 ?_
    refine WL.det (op_fieldAddr (off' := 4) rfl Try.runUnderlying31 rfl rfl Try.sizeOf29 rfl) rfl rfl rfl ?_
    refine WL.yes rfl rfl rfl (ltb rfl) rfl hb1 ?_
    refine WL.det (op_indexArr (off' := 5) rfl rfl Try.runUnderlying29 Try.sizeOf27 (by decide) (by decide) rfl) rfl rfl rfl ?_
    refine WL.yes rfl rfl rfl (ltb rfl) rfl hb1 ?_
    refine WL.det (op_load1 (i := 5) rfl Try.isAgg27 r1.rng rfl rfl) rfl rfl rfl ?_
    refine WL.yes rfl rfl rfl (ltb rfl) rfl hb1 ?_
    refine WL.det (op_feq (c := fEq .f32 s1 0) rfl rfl rfl rfl rfl) rfl rfl rfl ?_
    refine WL.det (op_pick_t rfl hb1 rfl) rfl rfl rfl ?_
    refine WL.det (op_assign rfl) rfl rfl rfl ?_
    refine WL.end ?_
    refine NE.code ?_
    refine CE.ret' ?_
    refine XE.leave1 Try.results82 rfl ?_
    refine ⟨?_, ((Mod.refl [] w).nt m1)⟩
    all_goals simp_all [stillF]
  · refine WL.no rfl rfl rfl (ltb rfl) rfl hb1 rfl (ltb rfl) ?_
    refine WL.no rfl rfl rfl (ltb rfl) rfl hb1 rfl (ltb rfl) ?_
    refine WL.no rfl rfl rfl (ltb rfl) rfl hb1 rfl (ltb rfl) ?_
    refine WL.no rfl rfl rfl (ltb rfl) rfl hb1 rfl (ltb rfl) ?_
    refine WL.det (op_pick_f rfl hb1 rfl) rfl rfl rfl ?_
    refine WL.det (op_assign rfl) rfl rfl rfl ?_
    refine WL.end ?_
    refine NE.code ?_
    refine CE.ret' ?_
    refine XE.leave1 Try.results82 rfl ?_
    refine ⟨?_, ((Mod.refl [] w).nt m1)⟩
    all_goals simp_all [stillF]

set_option maxRecDepth 100000 in
set_option maxHeartbeats 2000000 in
theorem c_l02Still (kd : Int) (c0 : Nat) (c1 : Nat) (c2 : Nat) (s0 : Nat) (s1 : Nat) (p : Nat) (k : Nat) (vs : List Value) (hk : k + 6 ≤ vs.length) (w : World) (r : Rng w p 0 (splice vs k [vI kd, vF c0, vF c1, vF c2, vF s0, vF s1])) : Cl Try.prog 127 #[vP p k] w fun v w' => v = .bool (stillF s0 s1) ∧ w = w' := by
  refine Cl.of Try.func127 Try.ntmps127 rfl rfl (ρ := [(0, vP p k)]) rfl ?_
  refine CE.seq ?_
  refine CE.region ?_
  refine WL.det (op_assign rfl) rfl rfl rfl ?_
  refine WL.end ?_
  refine NE.code ?_
  refine CE.seq ?_
  refine CE.region ?_
  refine WL.det (op_move rfl) rfl rfl rfl ?_
  refine WL.det (op_nilCheck rfl) rfl rfl rfl ?_
  refine WL.det (op_fieldAddr (off' := k + 4) rfl Try.runUnderlying31 rfl rfl Try.sizeOf29 rfl) rfl rfl rfl ?_
  refine WL.det (op_indexArr (off' := k + 4) rfl rfl Try.runUnderlying29 Try.sizeOf27 (by decide) (by decide) rfl) rfl rfl rfl ?_
  refine WL.det (op_load1 (i := k + 4) rfl Try.isAgg27 r (Nat.zero_add _) (sub_get (i := 4) hk rfl)) rfl rfl rfl ?_
  refine WL.det (op_feq (c := fEq .f32 s0 0) rfl rfl rfl rfl rfl) rfl rfl rfl ?_
  refine WL.det (op_move rfl) rfl rfl rfl ?_
  rcases Bool.eq_false_or_eq_true (fEq .f32 s0 0) with hb1 | hb1
  · refine WL.yes rfl rfl rfl (ltb rfl) rfl hb1 ?_
    refine WL.det (op_move rfl) rfl rfl rfl ?_
    refine WL.yes rfl rfl rfl (ltb rfl) rfl hb1 ?_
    refine WL.det (op_nilCheck rfl) rfl rfl rfl ?_
    refine WL.yes rfl rfl rfl (ltb rfl) rfl hb1 ?_
    refine WL.det (op_fieldAddr (off' := k + 4) rfl Try.runUnderlying31 rfl rfl Try.sizeOf29 rfl) rfl rfl rfl ?_
    refine WL.yes rfl rfl rfl (ltb rfl) rfl hb1 ?_
    refine WL.det (op_indexArr (off' := k + 5) rfl rfl Try.runUnderlying29 Try.sizeOf27 (by decide) (by decide) rfl) rfl rfl rfl ?_
    refine WL.yes rfl rfl rfl (ltb rfl) rfl hb1 ?_
    refine WL.det (op_load1 (i := k + 5) rfl Try.isAgg27 r (Nat.zero_add _) (sub_get (i := 5) hk rfl)) rfl rfl rfl ?_
    refine WL.yes rfl rfl rfl (ltb rfl) rfl hb1 ?_
    refine WL.det (op_feq (c := fEq .f32 s1 0) rfl rfl rfl rfl rfl) rfl rfl rfl ?_
    refine WL.det (op_pick_t rfl hb1 rfl) rfl rfl rfl ?_
    refine WL.det (op_assign rfl) rfl rfl rfl ?_
    refine WL.end ?_
    refine NE.code ?_
    refine CE.ret' ?_
    refine XE.leave1 Try.results127 rfl ?_
    refine ⟨?_, rfl⟩
    all_goals simp_all [stillF]
  · refine WL.no rfl rfl rfl (ltb rfl) rfl hb1 rfl (ltb rfl) ?_
    refine WL.no rfl rfl rfl (ltb rfl) rfl hb1 rfl (ltb rfl) ?_
    refine WL.no rfl rfl rfl (ltb rfl) rfl hb1 rfl (ltb rfl) ?_
    refine WL.no rfl rfl rfl (ltb rfl) rfl hb1 rfl (ltb rfl) ?_
    refine WL.no rfl rfl rfl (ltb rfl) rfl hb1 rfl (ltb rfl) ?_
    refine WL.no rfl rfl rfl (ltb rfl) rfl hb1 rfl (ltb rfl) ?_
    refine WL.det (op_pick_f rfl hb1 rfl) rfl rfl rfl ?_
    refine WL.det (op_assign rfl) rfl rfl rfl ?_
    refine WL.end ?_
    refine NE.code ?_
    refine CE.ret' ?_
    refine XE.leave1 Try.results127 rfl ?_
    refine ⟨?_, rfl⟩
    all_goals simp_all [stillF]

end Go.Proofs.Ytabfdgpldcegiaa
