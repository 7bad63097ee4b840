/- What a filter makes of a block. -/
import Derived.Test.YtnpkhjafnjpnmaaB4
set_option linter.unusedVariables false
set_option linter.unusedSimpArgs false
set_option maxRecDepth 100000
set_option maxHeartbeats 8000000
namespace Go.Proofs.Ytnpkhjafnjpnmaa

theorem c_l02Run (kd : Int) (c0 : Nat) (c1 : Nat) (c2 : Nat) (s0 : Nat) (s1 : Nat) (bs : List Nat) (p : Nat) (k : Nat) (vs : List Value) (l0 : s0 < wid .f32) (l1 : s1 < wid .f32) (hk : k + 6 ≤ vs.length) (lb : bs.length = 16) (wb : W32 bs) (w : World) (r : Row w p 0 (splice vs k [vI kd, vF c0, vF c1, vF c2, vF s0, vF s1])) : Cl Try.prog 76 #[vP p k, .agg (fl bs).toArray] w fun v w' => ∃ (ys : List Nat), v = .agg (fl ys).toArray ∧ (ys.length = 16) ∧ (W32 ys) ∧ (Outs kd c0 c1 c2 s0 s1 bs 16 ys) ∧ ((stAt kd c0 c1 c2 s0 s1 bs 16).1 < wid .f32) ∧ ((stAt kd c0 c1 c2 s0 s1 bs 16).2 < wid .f32) ∧ Row w' p 0 (splice vs k [vI kd, vF c0, vF c1, vF c2, vF ((stAt kd c0 c1 c2 s0 s1 bs 16).1), vF ((stAt kd c0 c1 c2 s0 s1 bs 16).2)]) ∧ Mod [p] w w' := by
 refine Cl.of Try.func76 Try.ntmps76 rfl rfl (ρ := [(0, vP p k), (1, .agg (fl bs).toArray)]) rfl ?_
 refine CE.seq (CE.region ?_)
 refine WL.op (op_box (cs := fl bs) rfl rfl) rfl rfl (ltb rfl) ?_
 rintro _ w1 ⟨rfl, r1, m1, z1⟩
 refine WL.op (op_alloc (cs := fl (List.replicate 16 0)) Try.zeroValue77 rfl) rfl rfl (ltb rfl) ?_
 rintro _ w2 ⟨rfl, r2, m2, z2⟩
 refine WL.end (NE.code (CE.seq (CE.seq (CE.region ?_))))
 refine WL.det (op_assign rfl) rfl rfl rfl ?_
 refine WL.end (NE.code (CE.block ?_))
 refine CE.loop (fun (z : Nat × List Nat × Nat × Nat) => [(5, vI ((z.1 : Nat) : Int)), (0, vP p k), (3, vP w.heap.size 0), (4, vP w1.heap.size 0)]) (fun (z : Nat × List Nat × Nat × Nat) => fun W => (z.1 ≤ 16) ∧ (Outs kd c0 c1 c2 s0 s1 bs z.1 z.2.1) ∧ (Rest bs z.1 z.2.1) ∧ (stAt kd c0 c1 c2 s0 s1 bs z.1 = (z.2.2.1, z.2.2.2)) ∧ (z.2.2.1 < wid .f32) ∧ (z.2.2.2 < wid .f32) ∧ Row W p 0 (splice vs k [vI kd, vF c0, vF c1, vF c2, vF z.2.2.1, vF z.2.2.2]) ∧ Row W w.heap.size 0 (fl z.2.1) ∧ Mod [p, w.heap.size] w2 W) (fun (z : Nat × List Nat × Nat × Nat) => 16 - z.1) (0, bs, s0, s1) (⟨rfl, rfl, rfl, rfl, trivial⟩) ⟨(by omega), (by exact Outs.zero lb wb), (by exact Rest.zero), (by rfl), (by assumption), (by assumption), (Row.congr ((r.ext m1).ext m2) rfl), (Row.congr (r1.ext m2) rfl), Mod.refl _ _⟩ ?_
 rintro ⟨i, ys, t0, t1⟩ w3 ⟨hi, ho, hr, hs, b0, b1, r3, r4, m3⟩
 replace hi : i ≤ 16 := hi
 replace ho : Outs kd c0 c1 c2 s0 s1 bs i ys := ho
 replace hr : Rest bs i ys := hr
 replace hs : stAt kd c0 c1 c2 s0 s1 bs i = (t0, t1) := hs
 replace b0 : t0 < wid .f32 := b0
 replace b1 : t1 < wid .f32 := b1
 replace r3 : Row w3 p 0 (splice vs k [vI kd, vF c0, vF c1, vF c2, vF t0, vF t1]) := r3
 replace r4 : Row w3 w.heap.size 0 (fl ys) := r4
 show CE _ _ _ _ [(5, vI ((i : Nat) : Int)), (0, vP p k), (3, vP w.heap.size 0), (4, vP w1.heap.size 0)] _
 refine CE.seq (CE.seq (CE.region ?_))
 refine WL.det (op_move rfl) rfl rfl rfl ?_
 refine WL.det (op_lti rfl rfl) rfl rfl rfl ?_
 refine WL.end (NE.code ?_)
 rcases Bool.eq_false_or_eq_true (decide (((i : Nat) : Int) < (16 : Int))) with hb1 | hb1
 ·have hp1 := of_decide_eq_true hb1
  refine CE.cond_t rfl hb1 ?_
  refine CE.skip' (NE.code (CE.seq (CE.block (CE.region ?_))))
  iterate 3 refine WL.det (op_move rfl) rfl rfl rfl ?_
  refine WL.det (op_indexArr (off' := 0 + i) rfl rfl Try.runUnderlying77 Try.sizeOf24 (by omega) (by omega) (by omega)) rfl rfl rfl ?_
  refine WL.det (op_load1 (i := i) rfl Try.isAgg24 r4.rng rfl (fl_get (by have eL : List.length ys = 16 := ho.1; omega))) rfl rfl rfl ?_
  refine WL.call (oc_call (vs := [vP p k, vF (ys.getD i 0)]) (cap := []) rfl rfl rfl Try.call56 (c_l02Step kd c0 c1 c2 t0 t1 p k (splice vs k [vI kd, vF c0, vF c1, vF c2, vF t0, vF t1]) (ys.getD i 0) (ys.getD i 0) b0 b1 (sub_fit (i := 0) hk (lB rfl)) rfl (ho.2.1.get _) w3 (Row.congr r3 (sub_same (i := 0) hk (lB rfl) rfl)))) rfl rfl (ltb rfl) ?_
  rintro _ w4 ⟨y1, rfl, h1, h2, h3, h4, r5, m4⟩
  have r6 : Row w4 p 0 (splice vs k [vI kd, vF c0, vF c1, vF c2, vF (stepS kd c0 c1 c2 t0 t1 (ys.getD i 0)), vF (stepT kd c0 c1 c2 t0 t1 (ys.getD i 0))]) := Row.congr r5 (sub_put (i := 0) hk (lB rfl) rfl)
  refine WL.det (op_indexArr (off' := 0 + i) rfl rfl Try.runUnderlying77 Try.sizeOf24 (by omega) (by omega) (by omega)) rfl rfl rfl ?_
  refine WL.op0 (op_store (i := i) (cs := [vF y1]) rfl rfl rfl Try.sizeOf24 rfl (r4.mod m4 (nC (lG (lL r.lt lR)) nN)) rfl (by rw [fl_length]; have eL : List.length ys = 16 := ho.1; omega) rfl) rfl rfl ?_
  rintro _ w5 ⟨r7, m5, z3⟩
  have r8 : Row w5 w.heap.size 0 (fl (ys.set i y1)) := Row.congr r7 (fl_splice (by have eL : List.length ys = 16 := ho.1; omega))
  refine WL.end (NE.blk (NE.code (CE.region ?_)))
  refine WL.det (op_move rfl) rfl rfl rfl ?_
  refine WL.det (op_add (r := ((i + 1 : Nat) : Int)) rfl rfl (w_i64 (by omega) (by omega))) rfl rfl rfl ?_
  refine WL.det (op_assign rfl) rfl rfl rfl ?_
  refine WL.end ?_
  exact NE.again ((i + 1), (ys.set i y1), (stepS kd c0 c1 c2 t0 t1 (ys.getD i 0)), (stepT kd c0 c1 c2 t0 t1 (ys.getD i 0))) (⟨rfl, rfl, rfl, rfl, trivial⟩) ⟨(by omega), (by exact ho.next (by omega) (by rw [yAt, hs, ← hr i (by omega) (by omega)]; assumption) (by assumption)), (by exact hr.next), (by rw [stAt, hs, hr i (by omega) (by omega)]), (by assumption), (by assumption), (Row.congr (r6.mod m5 (nC (lE (lL r.lt lR)) nN)) rfl), (Row.congr r8 rfl), ((m3.then m4 ((aC (.inl (by simp)) aN))).then m5 ((aC (.inl (by simp)) aN)))⟩ (by first | (dsimp only; omega) | omega)
 ·have hp1 := of_decide_eq_false hb1
  refine CE.cond_f rfl hb1 ?_
  refine CE.exit' (XE.exit_then (XE.exit_then (XE.exit_here (NE.code (CE.seq (CE.region ?_))))))
  refine WL.det (op_loadA (i := 0) (cs := fl ys) rfl Try.isAgg77 Try.sizeOf77 r4.rng rfl (fl_whole ho.1) (fl_len ho.1)) rfl rfl rfl ?_
  refine WL.op0 (op_store (i := 0) (cs := fl ys) rfl rfl rfl Try.sizeOf77 (fl_len ho.1) (r2.mod m3 (nC (lG (lL (lL r.lt m1.size) lR)) (nC (lG (lL r1.lt lR)) nN))) rfl (by rw [fl_length, List.length_replicate]; decide) (fl_one _)) rfl rfl ?_
  rintro _ w6 ⟨r9, m6, z4⟩
  have r10 : Row w6 w1.heap.size 0 (fl ys) := Row.congr r9 (splice_all ((fl_len (List.length_replicate)).trans (fl_len (ho.1)).symm))
  refine WL.end (NE.code (CE.ret' ?_))
  refine XE.leaveC Try.results76 (res_agg (cs := fl ys) rfl Try.isAgg77 Try.sizeOf77 r10.rng (fl_len ho.1) res_nil) ?_
  refine ⟨ys, rfl, ho.1, ho.2.1, ?_, ?_, ?_, (Row.congr (r3.mod m6 (nC (lE (lL (lL r.lt m1.size) lR)) nN)) ?_), (((((Mod.refl [p] w).nt m1).nt m2).then m3 ((aC (.inl (by simp)) (aC (.inr lR) aN)))).then m6 ((aC (.inr (lT m1.size lR)) aN)))⟩
  all_goals (have e : i = 16 := (by omega); subst e; have e1 : (stAt kd c0 c1 c2 s0 s1 bs 16).1 = t0 := (by rw [hs]); have e2 : (stAt kd c0 c1 c2 s0 s1 bs 16).2 = t1 := (by rw [hs]); first | exact ho | exact ho.1 | exact ho.2.1 | (rw [e1]; exact b0) | (rw [e2]; exact b1) | (rw [e1, e2]))

theorem c_run1 (kd : Int) (c0 : Nat) (c1 : Nat) (c2 : Nat) (s0 : Nat) (s1 : Nat) (bs : List Nat) (p : Nat) (k : Nat) (vs : List Value) (q : Nat) (d : Nat) (i : Nat) (l0 : s0 < wid .f32) (l1 : s1 < wid .f32) (hk : k + 6 ≤ vs.length) (lb : bs.length = 16) (wb : W32 bs) (hi : i < 16) (w : World) (rq : Rng w q 0 [vP p k]) (rd : Rng w d 0 (fl bs)) (r : Row w p 0 (splice vs k [vI kd, vF c0, vF c1, vF c2, vF s0, vF s1])) (n1 : q ≠ p) (n2 : d ≠ p) : Cl Try.prog 116 #[vI ((i : Nat) : Int), vP q 0, vP d 0] w fun v w' => ∃ (y : Nat), v = vF y ∧ (cn .f32 y = cn .f32 (stepY kd c0 c1 c2 s0 s1 (bs.getD i 0))) ∧ (y < wid .f32) ∧ ((stepS kd c0 c1 c2 s0 s1 (bs.getD i 0)) < wid .f32) ∧ ((stepT kd c0 c1 c2 s0 s1 (bs.getD i 0)) < wid .f32) ∧ Row w' p 0 (splice vs k [vI kd, vF c0, vF c1, vF c2, vF (stepS kd c0 c1 c2 s0 s1 (bs.getD i 0)), vF (stepT kd c0 c1 c2 s0 s1 (bs.getD i 0))]) ∧ Mod [p] w w' := by
 refine Cl.of Try.func116 Try.ntmps116 rfl rfl (ρ := [(0, vI ((i : Nat) : Int)), (1, vP q 0), (2, vP d 0)]) rfl ?_
 refine CE.seq (CE.region ?_)
 refine WL.det (op_assign rfl) rfl rfl rfl ?_
 refine WL.end (NE.code (CE.seq ?_))
 refine CE.draw (fun _ => none) [0, 1, 2, 3] [4, 5] [] (by kernel_rfl) (by kernel_rfl) ?_
 have md1 : Mod [] w w.drew := (Mod.refl _ _).drew
 generalize w.drew = w1 at md1 ⊢
 refine DR.det (i := 0) rfl rfl (by kernel_rfl) (.free rfl) rfl rfl (fun wD mD => op_load1 (i := 0) rfl Try.isAgg94 ((rq.ext md1).ext mD) rfl rfl) ?_
 refine DR.det (i := 1) rfl rfl (by kernel_rfl) (.free rfl) rfl rfl (fun wD mD => op_move rfl) ?_
 refine DR.det (i := 2) rfl rfl (by kernel_rfl) (.free rfl) rfl rfl (fun wD mD => op_indexArr (off' := 0 + i) rfl rfl Try.runUnderlying77 Try.sizeOf24 (by omega) (by omega) (by omega)) ?_
 refine DR.det (i := 3) rfl rfl (by kernel_rfl) (.free rfl) rfl rfl (fun wD mD => op_load1 (i := i) rfl Try.isAgg24 ((rd.ext md1).ext mD) rfl (fl_get (by have eL : List.length bs = 16 := lb; omega))) ?_
 refine DR.done rfl ?_
 intro w2 m1
 refine WO.call rfl (.free rfl) rfl (ltb rfl) (oc_call (vs := [vP p k, vF (bs.getD i 0)]) (cap := []) rfl rfl rfl Try.call48 (c_fstep kd c0 c1 c2 s0 s1 p k (splice vs k [vI kd, vF c0, vF c1, vF c2, vF s0, vF s1]) (bs.getD i 0) (bs.getD i 0) l0 l1 (sub_fit (i := 0) hk (lB rfl)) rfl (wb.get _) w2 (Row.congr ((r.ext md1).ext m1) (sub_same (i := 0) hk (lB rfl) rfl)))) ?_
 rintro _ w3 ⟨y1, rfl, h1, h2, h3, h4, r1, m2⟩
 have r2 : Row w3 p 0 (splice vs k [vI kd, vF c0, vF c1, vF c2, vF (stepS kd c0 c1 c2 s0 s1 (bs.getD i 0)), vF (stepT kd c0 c1 c2 s0 s1 (bs.getD i 0))]) := Row.congr r1 (sub_put (i := 0) hk (lB rfl) rfl)
 refine WO.det (op_assign rfl) rfl (.free rfl) rfl rfl ?_
 refine WO.end (NE.code (CE.ret' ?_))
 refine XE.leave1 Try.results116 rfl ?_
 refine ⟨y1, rfl, h1, h2, ?_, ?_, r2, ((((Mod.refl [p] w).nt md1).nt m1).then m2 ((aC (.inl (by simp)) aN)))⟩
 all_goals assumption

theorem c_made_run (kd : Int) (c0 : Nat) (c1 : Nat) (c2 : Nat) (s0 : Nat) (s1 : Nat) (bs : List Nat) (p : Nat) (k : Nat) (vs : List Value) (q : Nat) (d : Nat) (l0 : s0 < wid .f32) (l1 : s1 < wid .f32) (hk : k + 6 ≤ vs.length) (lb : bs.length = 16) (wb : W32 bs) (w : World) (rq : Rng w q 0 [vP p k]) (rd : Rng w d 0 (fl bs)) (r : Row w p 0 (splice vs k [vI kd, vF c0, vF c1, vF c2, vF s0, vF s1])) (n1 : q ≠ p) (n2 : d ≠ p) : Cl Try.prog 115 #[.func (.func 116) #[] #[vP q 0, vP d 0]] w fun v w' => ∃ (ys : List Nat), v = .agg (fl ys).toArray ∧ (ys.length = 16) ∧ (W32 ys) ∧ (Outs kd c0 c1 c2 s0 s1 bs 16 ys) ∧ ((stAt kd c0 c1 c2 s0 s1 bs 16).1 < wid .f32) ∧ ((stAt kd c0 c1 c2 s0 s1 bs 16).2 < wid .f32) ∧ Row w' p 0 (splice vs k [vI kd, vF c0, vF c1, vF c2, vF ((stAt kd c0 c1 c2 s0 s1 bs 16).1), vF ((stAt kd c0 c1 c2 s0 s1 bs 16).2)]) ∧ Mod [p] w w' := by
 refine Cl.of Try.func115 Try.ntmps115 rfl rfl (ρ := [(0, .func (.func 116) #[] #[vP q 0, vP d 0])]) rfl ?_
 refine CE.seq (CE.region ?_)
 refine WL.op (op_alloc (cs := fl (List.replicate 16 0)) Try.zeroValue77 rfl) rfl rfl (ltb rfl) ?_
 rintro _ w1 ⟨rfl, r1, m1, z1⟩
 refine WL.end (NE.code (CE.seq (CE.region ?_)))
 refine WL.op (op_alloc (cs := fl (List.replicate 16 0)) Try.zeroValue77 rfl) rfl rfl (ltb rfl) ?_
 rintro _ w2 ⟨rfl, r2, m2, z2⟩
 refine WL.end (NE.code (CE.seq (CE.seq (CE.region ?_))))
 refine WL.det (op_move rfl) rfl rfl rfl ?_
 refine WL.end (NE.code (CE.block ?_))
 refine CE.loop (fun (z : Nat × List Nat × Nat × Nat) => [(5, vI ((z.1 : Nat) : Int)), (0, .func (.func 116) #[] #[vP q 0, vP d 0]), (2, vP w.heap.size 0), (3, vP w1.heap.size 0)]) (fun (z : Nat × List Nat × Nat × Nat) => fun W => (z.1 ≤ 16) ∧ (Outs kd c0 c1 c2 s0 s1 bs z.1 z.2.1) ∧ (stAt kd c0 c1 c2 s0 s1 bs z.1 = (z.2.2.1, z.2.2.2)) ∧ (z.2.2.1 < wid .f32) ∧ (z.2.2.2 < wid .f32) ∧ Row W p 0 (splice vs k [vI kd, vF c0, vF c1, vF c2, vF z.2.2.1, vF z.2.2.2]) ∧ Row W w1.heap.size 0 (fl z.2.1) ∧ Mod [p, w1.heap.size] w2 W) (fun (z : Nat × List Nat × Nat × Nat) => 16 - z.1) (0, (List.replicate 16 0), s0, s1) (⟨rfl, rfl, rfl, rfl, trivial⟩) ⟨(by omega), (by exact Outs.zero List.length_replicate (W32.zeros _)), (by rfl), (by assumption), (by assumption), (Row.congr ((r.ext m1).ext m2) rfl), (Row.congr r2 rfl), Mod.refl _ _⟩ ?_
 rintro ⟨i, ys, t0, t1⟩ w3 ⟨hi, ho, hs, b0, b1, r3, r4, m3⟩
 replace hi : i ≤ 16 := hi
 replace ho : Outs kd c0 c1 c2 s0 s1 bs i ys := ho
 replace hs : stAt kd c0 c1 c2 s0 s1 bs i = (t0, t1) := hs
 replace b0 : t0 < wid .f32 := b0
 replace b1 : t1 < wid .f32 := b1
 replace r3 : Row w3 p 0 (splice vs k [vI kd, vF c0, vF c1, vF c2, vF t0, vF t1]) := r3
 replace r4 : Row w3 w1.heap.size 0 (fl ys) := r4
 show CE _ _ _ _ [(5, vI ((i : Nat) : Int)), (0, .func (.func 116) #[] #[vP q 0, vP d 0]), (2, vP w.heap.size 0), (3, vP w1.heap.size 0)] _
 refine CE.seq (CE.region ?_)
 refine WL.det (op_lti rfl rfl) rfl rfl rfl ?_
 refine WL.end (NE.code (CE.seq ?_))
 rcases Bool.eq_false_or_eq_true (decide (((i : Nat) : Int) < (16 : Int))) with hb1 | hb1
 ·have hp1 := of_decide_eq_true hb1
  refine CE.cond_t rfl hb1 ?_
  refine CE.skip' (NE.code (CE.seq (CE.block (CE.seq (CE.region ?_)))))
  refine WL.det (op_move rfl) rfl rfl rfl ?_
  refine WL.det (op_assign rfl) rfl rfl rfl ?_
  refine WL.end (NE.code (CE.region ?_))
  iterate 3 refine WL.det (op_move rfl) rfl rfl rfl ?_
  refine WL.call (oc_call (vs := [vI ((i : Nat) : Int)]) (cap := [vP q 0, vP d 0]) rfl rfl rfl Try.call116 (c_run1 kd c0 c1 c2 t0 t1 bs p k (splice vs k [vI kd, vF c0, vF c1, vF c2, vF t0, vF t1]) q d i b0 b1 (sub_fit (i := 0) hk (lB rfl)) lb wb (by omega) w3 (((rq.ext m1).ext m2).mod m3 (nC n1 (nC (lE (lL (lL (rq.lt (Nat.succ_pos _)) m1.size) lR)) nN))) (((rd.ext m1).ext m2).mod m3 (nC n2 (nC (lE (lL (lL (rd.lt (by have eL : List.length bs = 16 := lb; rw [fl_length]; omega)) m1.size) lR)) nN))) (Row.congr r3 (sub_same (i := 0) hk (lB rfl) rfl)) n1 n2)) rfl rfl (ltb rfl) ?_
  rintro _ w4 ⟨y1, rfl, h1, h2, h3, h4, r5, m4⟩
  have r6 : Row w4 p 0 (splice vs k [vI kd, vF c0, vF c1, vF c2, vF (stepS kd c0 c1 c2 t0 t1 (bs.getD i 0)), vF (stepT kd c0 c1 c2 t0 t1 (bs.getD i 0))]) := Row.congr r5 (sub_put (i := 0) hk (lB rfl) rfl)
  refine WL.det (op_indexArr (off' := 0 + i) rfl rfl Try.runUnderlying77 Try.sizeOf24 (by omega) (by omega) (by omega)) rfl rfl rfl ?_
  refine WL.op0 (op_store (i := i) (cs := [vF y1]) rfl rfl rfl Try.sizeOf24 rfl (r4.mod m4 (nC (lG (lL (lL r.lt m1.size) lR)) nN)) rfl (by rw [fl_length]; have eL : List.length ys = 16 := ho.1; omega) rfl) rfl rfl ?_
  rintro _ w5 ⟨r7, m5, z3⟩
  have r8 : Row w5 w1.heap.size 0 (fl (ys.set i y1)) := Row.congr r7 (fl_splice (by have eL : List.length ys = 16 := ho.1; omega))
  refine WL.end (NE.blk (NE.code (CE.region ?_)))
  refine WL.det (op_add (r := ((i + 1 : Nat) : Int)) rfl rfl (w_i64 (by omega) (by omega))) rfl rfl rfl ?_
  refine WL.det (op_move rfl) rfl rfl rfl ?_
  refine WL.end ?_
  exact NE.again ((i + 1), (ys.set i y1), (stepS kd c0 c1 c2 t0 t1 (bs.getD i 0)), (stepT kd c0 c1 c2 t0 t1 (bs.getD i 0))) (⟨rfl, rfl, rfl, rfl, trivial⟩) ⟨(by omega), (by exact ho.next (by omega) (by rw [yAt, hs]; assumption) (by assumption)), (by rw [stAt, hs]), (by assumption), (by assumption), (Row.congr (r6.mod m5 (nC (lE (lL (lL r.lt m1.size) lR)) nN)) rfl), (Row.congr r8 rfl), ((m3.then m4 ((aC (.inl (by simp)) aN))).then m5 ((aC (.inl (by simp)) aN)))⟩ (by first | (dsimp only; omega) | omega)
 ·have hp1 := of_decide_eq_false hb1
  refine CE.cond_f rfl hb1 ?_
  refine CE.exit' (XE.exit_then (XE.exit_then (XE.exit_here (NE.code (CE.seq (CE.region ?_))))))
  refine WL.det (op_loadA (i := 0) (cs := fl ys) rfl Try.isAgg77 Try.sizeOf77 r4.rng rfl (fl_whole ho.1) (fl_len ho.1)) rfl rfl rfl ?_
  refine WL.op0 (op_store (i := 0) (cs := fl ys) rfl rfl rfl Try.sizeOf77 (fl_len ho.1) ((r1.ext m2).mod m3 (nC (lG (lL r.lt lR)) (nC (lE (lL r1.lt lR)) nN))) rfl (by rw [fl_length, List.length_replicate]; decide) (fl_one _)) rfl rfl ?_
  rintro _ w6 ⟨r9, m6, z4⟩
  have r10 : Row w6 w.heap.size 0 (fl ys) := Row.congr r9 (splice_all ((fl_len (List.length_replicate)).trans (fl_len (ho.1)).symm))
  refine WL.end (NE.code (CE.ret' ?_))
  refine XE.leaveC Try.results115 (res_agg (cs := fl ys) rfl Try.isAgg77 Try.sizeOf77 r10.rng (fl_len ho.1) res_nil) ?_
  refine ⟨ys, rfl, ho.1, ho.2.1, ?_, ?_, ?_, (Row.congr (r3.mod m6 (nC (lE (lL r.lt lR)) nN)) ?_), (((((Mod.refl [p] w).nt m1).nt m2).then m3 ((aC (.inl (by simp)) (aC (.inr (lT m1.size lR)) aN)))).then m6 ((aC (.inr lR) aN)))⟩
  all_goals (have e : i = 16 := (by omega); subst e; have e1 : (stAt kd c0 c1 c2 s0 s1 bs 16).1 = t0 := (by rw [hs]); have e2 : (stAt kd c0 c1 c2 s0 s1 bs 16).2 = t1 := (by rw [hs]); first | exact ho | exact ho.1 | exact ho.2.1 | (rw [e1]; exact b0) | (rw [e2]; exact b1) | (rw [e1, e2]))

theorem c_run (kd : Int) (c0 : Nat) (c1 : Nat) (c2 : Nat) (s0 : Nat) (s1 : Nat) (bs : List Nat) (p : Nat) (k : Nat) (vs : List Value) (l0 : s0 < wid .f32) (l1 : s1 < wid .f32) (hk : k + 6 ≤ vs.length) (lb : bs.length = 16) (wb : W32 bs) (w : World) (r : Row w p 0 (splice vs k [vI kd, vF c0, vF c1, vF c2, vF s0, vF s1])) : Cl Try.prog 80 #[vP p k, .agg (fl bs).toArray] w fun v w' => ∃ (ys : List Nat), v = .agg (fl ys).toArray ∧ (ys.length = 16) ∧ (W32 ys) ∧ (Outs kd c0 c1 c2 s0 s1 bs 16 ys) ∧ ((stAt kd c0 c1 c2 s0 s1 bs 16).1 < wid .f32) ∧ ((stAt kd c0 c1 c2 s0 s1 bs 16).2 < wid .f32) ∧ Row w' p 0 (splice vs k [vI kd, vF c0, vF c1, vF c2, vF ((stAt kd c0 c1 c2 s0 s1 bs 16).1), vF ((stAt kd c0 c1 c2 s0 s1 bs 16).2)]) ∧ Mod [p] w w' := by
 refine Cl.of Try.func80 Try.ntmps80 rfl rfl (ρ := [(0, vP p k), (1, .agg (fl bs).toArray)]) rfl ?_
 refine CE.seq (CE.region ?_)
 refine WL.op (op_box (cs := [vP p k]) rfl rfl) rfl rfl (ltb rfl) ?_
 rintro _ w1 ⟨rfl, r1, m1, z1⟩
 refine WL.op (op_box (cs := fl bs) rfl rfl) rfl rfl (ltb rfl) ?_
 rintro _ w2 ⟨rfl, r2, m2, z2⟩
 refine WL.op (op_alloc (cs := fl (List.replicate 16 0)) Try.zeroValue77 rfl) rfl rfl (ltb rfl) ?_
 rintro _ w3 ⟨rfl, r3, m3, z3⟩
 refine WL.end (NE.code (CE.seq (CE.region ?_)))
 refine WL.det (op_makeFunc (vs := []) (us := [vP w.heap.size 0, vP w1.heap.size 0]) rfl rfl) rfl rfl rfl ?_
 refine WL.call (oc_call (vs := [.func (.func 116) #[] #[vP w.heap.size 0, vP w1.heap.size 0]]) (cap := []) rfl rfl rfl Try.call115 (c_made_run kd c0 c1 c2 s0 s1 bs p k (splice vs k [vI kd, vF c0, vF c1, vF c2, vF s0, vF s1]) w.heap.size w1.heap.size l0 l1 (sub_fit (i := 0) hk (lB rfl)) lb wb w3 ((r1.ext m2).ext m3).rng (r2.ext m3).rng (Row.congr (((r.ext m1).ext m2).ext m3) (sub_same (i := 0) hk (lB rfl) rfl)) (lG (lL r.lt lR)) (lG (lL (lL r.lt m1.size) lR)))) rfl rfl (ltb rfl) ?_
 rintro _ w4 ⟨ys1, rfl, h1, h2, h3, h4, h5, r4, m4⟩
 have r5 : Row w4 p 0 (splice vs k [vI kd, vF c0, vF c1, vF c2, vF ((stAt kd c0 c1 c2 s0 s1 bs 16).1), vF ((stAt kd c0 c1 c2 s0 s1 bs 16).2)]) := Row.congr r4 (sub_put (i := 0) hk (lB rfl) rfl)
 refine WL.op0 (op_store (i := 0) (cs := fl ys1) rfl rfl rfl Try.sizeOf77 (fl_len h1) (r3.mod m4 (nC (lG (lL (lL r.lt (lT m1.size m2.size)) lR)) nN)) rfl (by rw [fl_length, List.length_replicate]; decide) (fl_one _)) rfl rfl ?_
 rintro _ w5 ⟨r6, m5, z4⟩
 have r7 : Row w5 w2.heap.size 0 (fl ys1) := Row.congr r6 (splice_all ((fl_len (List.length_replicate)).trans (fl_len (h1)).symm))
 refine WL.end (NE.code (CE.ret' ?_))
 refine XE.leaveC Try.results80 (res_agg (cs := fl ys1) rfl Try.isAgg77 Try.sizeOf77 r7.rng (fl_len h1) res_nil) ?_
 refine ⟨ys1, rfl, h1, h2, ?_, ?_, ?_, (r5.mod m5 (nC (lE (lL (lL r.lt (lT m1.size m2.size)) lR)) nN)), ((((((Mod.refl [p] w).nt m1).nt m2).nt m3).then m4 ((aC (.inl (by simp)) aN))).then m5 ((aC (.inr (lT (lT m1.size m2.size) lR)) aN)))⟩
 all_goals assumption

end Go.Proofs.Ytnpkhjafnjpnmaa
