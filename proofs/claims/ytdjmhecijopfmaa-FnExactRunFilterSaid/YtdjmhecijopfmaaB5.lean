/- What a filter makes of a block. -/
import Derived.Test.YtdjmhecijopfmaaB4
set_option linter.unusedVariables false
set_option linter.unusedSimpArgs false
namespace Go.Proofs.Ytdjmhecijopfmaa

set_option maxRecDepth 100000 in
theorem c_l02Run (kd : Int) (c0 : Nat) (c1 : Nat) (c2 : Nat) (s0 : Nat) (s1 : Nat) (bs : List Nat) (p : Nat) (l0 : s0 < wid .f32) (l1 : s1 < wid .f32) (lb : bs.length = 16) (wb : W32 bs) (w : World) (r : Row w p 0 [.int .i64 kd, .float .f32 c0, .float .f32 c1, .float .f32 c2, .float .f32 s0, .float .f32 s1]) : Cl Try.prog 72 #[.pointer (some ⟨p, 0, none⟩), .agg (fl bs).toArray] w fun v w' => ∃ (ys : List Nat), v = .agg (fl ys).toArray ∧ (ys.length = 16) ∧ (W32 ys) ∧ (Outs kd c0 c1 c2 s0 s1 bs 16 ys) ∧ ((stAt kd c0 c1 c2 s0 s1 bs 16).1 < wid .f32) ∧ ((stAt kd c0 c1 c2 s0 s1 bs 16).2 < wid .f32) ∧ Row w' p 0 [.int .i64 kd, .float .f32 c0, .float .f32 c1, .float .f32 c2, .float .f32 ((stAt kd c0 c1 c2 s0 s1 bs 16).1), .float .f32 ((stAt kd c0 c1 c2 s0 s1 bs 16).2)] ∧ Mod [p] w w' := by
  refine Cl.of Try.func72 Try.ntmps72 rfl rfl (ρ := [(0, .pointer (some ⟨p, 0, none⟩)), (1, .agg (fl bs).toArray)]) rfl ?_
  refine CE.seq ?_
  refine CE.region ?_
  refine WL.op (op_box (cs := fl bs) rfl rfl) rfl rfl (ltb rfl) ?_
  rintro _ w1 ⟨rfl, r1, m1, z1⟩
  refine WL.op (op_alloc (cs := fl (List.replicate 16 0)) Try.zeroValue62 rfl) rfl rfl (ltb rfl) ?_
  rintro _ w2 ⟨rfl, r2, m2, z2⟩
  refine WL.end ?_
  refine NE.code ?_
  refine CE.seq ?_
  refine CE.seq ?_
  refine CE.region ?_
  refine WL.det (op_assign rfl) rfl rfl rfl ?_
  refine WL.end ?_
  refine NE.code ?_
  refine CE.block ?_
  refine CE.loop (fun (z : Nat × List Nat × Nat × Nat) => [(5, .int .i64 ((z.1 : Nat) : Int)), (0, .pointer (some ⟨p, 0, none⟩)), (3, .pointer (some ⟨w.heap.size, 0, none⟩)), (4, .pointer (some ⟨w1.heap.size, 0, none⟩))]) (fun (z : Nat × List Nat × Nat × Nat) => fun W => (z.1 ≤ 16) ∧ (Outs kd c0 c1 c2 s0 s1 bs z.1 z.2.1) ∧ (Rest bs z.1 z.2.1) ∧ (stAt kd c0 c1 c2 s0 s1 bs z.1 = (z.2.2.1, z.2.2.2)) ∧ (z.2.2.1 < wid .f32) ∧ (z.2.2.2 < wid .f32) ∧ Row W p 0 [.int .i64 kd, .float .f32 c0, .float .f32 c1, .float .f32 c2, .float .f32 z.2.2.1, .float .f32 z.2.2.2] ∧ Row W w.heap.size 0 (fl z.2.1) ∧ Mod [p, w.heap.size] w2 W) (fun (z : Nat × List Nat × Nat × Nat) => 16 - z.1) (0, bs, s0, s1) (⟨rfl, rfl, rfl, rfl, trivial⟩) ⟨(by omega), (by exact Outs.zero lb wb), (by exact Rest.zero), (by rfl), (by assumption), (by assumption), (Row.congr ((r.ext m1).ext m2) rfl), (Row.congr (r1.ext m2) rfl), Mod.refl _ _⟩ ?_
  rintro ⟨i, ys, t0, t1⟩ w3 ⟨hi, ho, hr, hs, b0, b1, r3, r4, m3⟩
  replace hi : i ≤ 16 := hi
  replace ho : Outs kd c0 c1 c2 s0 s1 bs i ys := ho
  replace hr : Rest bs i ys := hr
  replace hs : stAt kd c0 c1 c2 s0 s1 bs i = (t0, t1) := hs
  replace b0 : t0 < wid .f32 := b0
  replace b1 : t1 < wid .f32 := b1
  replace r3 : Row w3 p 0 [.int .i64 kd, .float .f32 c0, .float .f32 c1, .float .f32 c2, .float .f32 t0, .float .f32 t1] := r3
  replace r4 : Row w3 w.heap.size 0 (fl ys) := r4
  show CE _ _ _ _ [(5, .int .i64 ((i : Nat) : Int)), (0, .pointer (some ⟨p, 0, none⟩)), (3, .pointer (some ⟨w.heap.size, 0, none⟩)), (4, .pointer (some ⟨w1.heap.size, 0, none⟩))] _
  refine CE.seq ?_
  refine CE.seq ?_
  refine CE.region ?_
  refine WL.det (op_move rfl) rfl rfl rfl ?_
  refine WL.det (op_lti rfl rfl) rfl rfl rfl ?_
  refine WL.end ?_
  refine NE.code ?_
  rcases Bool.eq_false_or_eq_true (decide (((i : Nat) : Int) < (16 : Int))) with hb1 | hb1
  · have hp1 := hb1; try simp only [Bool.and_eq_true, Bool.or_eq_true, Bool.not_eq_true', Bool.not_eq_false', Bool.and_eq_false_iff, Bool.or_eq_false_iff, decide_eq_true_eq, decide_eq_false_iff_not, beq_iff_eq, bne_iff_ne, beq_eq_false_iff_ne, bne_eq_false_iff_eq, ne_eq, Bool.false_eq_true, not_false_eq_true, not_true_eq_false, vIn_t, vIn_f] at hp1
    refine CE.cond_t rfl hb1 ?_
    refine CE.skip' ?_
    refine NE.code ?_
    refine CE.seq ?_
    refine CE.block ?_
    refine CE.region ?_
    refine WL.det (op_move rfl) rfl rfl rfl ?_
    refine WL.det (op_move rfl) rfl rfl rfl ?_
    refine WL.det (op_move rfl) rfl rfl rfl ?_
    refine WL.det (op_indexArr (off' := 0 + i) rfl rfl Try.runUnderlying62 Try.sizeOf25 (by omega) (by omega) (by omega)) rfl rfl rfl ?_
    refine WL.det (op_load1 (i := i) rfl Try.isAgg25 r4.rng rfl (fl_get (by have eL : List.length ys = 16 := ho.1; omega))) rfl rfl rfl ?_
    refine WL.call (oc_call (vs := [.pointer (some ⟨p, 0, none⟩), .float .f32 (ys.getD i 0)]) (cap := []) rfl rfl rfl Try.call64 (c_l02Step kd c0 c1 c2 t0 t1 p (ys.getD i 0) (ys.getD i 0) b0 b1 rfl (ho.2.1.get _) w3 r3)) rfl rfl (ltb rfl) ?_
    rintro _ w4 ⟨y1, rfl, h1, h2, h3, h4, r5, m4⟩
    refine WL.det (op_indexArr (off' := 0 + i) rfl rfl Try.runUnderlying62 Try.sizeOf25 (by omega) (by omega) (by omega)) rfl rfl rfl ?_
    refine WL.op0 (op_store (i := i) (cs := [.float .f32 y1]) rfl rfl rfl Try.sizeOf25 rfl (r4.mod m4 (notin1 (Nat.ne_of_gt (Nat.lt_of_lt_of_le r.lt (Nat.le_refl _))))) rfl (by rw [fl_length]; have eL : List.length ys = 16 := ho.1; omega) rfl) rfl rfl ?_
    rintro _ w5 ⟨r6, m5, z3⟩
    have r7 : Row w5 w.heap.size 0 (fl (ys.set i y1)) := Row.congr r6 (fl_splice (by have eL : List.length ys = 16 := ho.1; omega))
    refine WL.end ?_
    refine NE.blk ?_
    refine NE.code ?_
    refine CE.region ?_
    refine WL.det (op_move rfl) rfl rfl rfl ?_
    refine WL.det (op_add (r := ((i + 1 : Nat) : Int)) rfl rfl (w_i64 (by omega) (by omega))) rfl rfl rfl ?_
    refine WL.det (op_assign rfl) rfl rfl rfl ?_
    refine WL.end ?_
    exact NE.again ((i + 1), (ys.set i y1), (stepS kd c0 c1 c2 t0 t1 (ys.getD i 0)), (stepT kd c0 c1 c2 t0 t1 (ys.getD i 0))) (⟨rfl, rfl, rfl, rfl, trivial⟩) ⟨(by omega), (by exact ho.next (by omega) (by rw [yAt, hs, ← hr i (by omega) (by omega)]; assumption) (by assumption)), (by exact hr.next), (by rw [stAt, hs, hr i (by omega) (by omega)]), (by assumption), (by assumption), (Row.congr (r5.mod m5 (notin1 (Nat.ne_of_lt (Nat.lt_of_lt_of_le r.lt (Nat.le_refl _))))) rfl), (Row.congr r7 rfl), ((m3.then m4 (allow1 (.inl (by simp)))).then m5 (allow1 (.inl (by simp))))⟩ (by first | (dsimp only; omega) | omega)
  · have hp1 := hb1; try simp only [Bool.and_eq_true, Bool.or_eq_true, Bool.not_eq_true', Bool.not_eq_false', Bool.and_eq_false_iff, Bool.or_eq_false_iff, decide_eq_true_eq, decide_eq_false_iff_not, beq_iff_eq, bne_iff_ne, beq_eq_false_iff_ne, bne_eq_false_iff_eq, ne_eq, Bool.false_eq_true, not_false_eq_true, not_true_eq_false, vIn_t, vIn_f] at hp1
    refine CE.cond_f rfl hb1 ?_
    refine CE.exit' ?_
    refine XE.exit_then ?_
    refine XE.exit_then ?_
    refine XE.exit_here ?_
    refine NE.code ?_
    refine CE.seq ?_
    refine CE.region ?_
    refine WL.det (op_loadA (i := 0) (cs := fl ys) rfl Try.isAgg62 Try.sizeOf62 r4.rng rfl (fl_whole ho.1) (fl_len ho.1)) rfl rfl rfl ?_
    refine WL.op0 (op_store (i := 0) (cs := fl ys) rfl rfl rfl Try.sizeOf62 (fl_len ho.1) (r2.mod m3 (notin2 (Nat.ne_of_gt (Nat.lt_of_lt_of_le (Nat.lt_of_lt_of_le r.lt m1.size) (Nat.le_refl _))) (Nat.ne_of_gt (Nat.lt_of_lt_of_le r1.lt (Nat.le_refl _))))) rfl (by rw [fl_length, List.length_replicate]; decide) (fl_one _)) rfl rfl ?_
    rintro _ w6 ⟨r8, m6, z4⟩
    have r9 : Row w6 w1.heap.size 0 (fl ys) := Row.congr r8 (splice_all ((fl_len (List.length_replicate)).trans (fl_len (ho.1)).symm))
    refine WL.end ?_
    refine NE.code ?_
    refine CE.ret' ?_
    refine XE.leaveC Try.results72 (res_agg (cs := fl ys) rfl Try.isAgg62 Try.sizeOf62 r9.rng (fl_len ho.1) res_nil) ?_
    refine ⟨ys, rfl, ho.1, ho.2.1, ?_, ?_, ?_, (Row.congr (r3.mod m6 (notin1 (Nat.ne_of_lt (Nat.lt_of_lt_of_le (Nat.lt_of_lt_of_le r.lt m1.size) (Nat.le_refl _))))) ?_), (((((Mod.refl [p] w).nil_then m1).nil_then m2).then m3 (allow2 (.inl (by simp)) (.inr (Nat.le_refl _)))).then m6 (allow1 (.inr (Nat.le_trans m1.size (Nat.le_refl _)))))⟩
    all_goals (have e : i = 16 := (by omega); subst e; have e1 : (stAt kd c0 c1 c2 s0 s1 bs 16).1 = t0 := (by rw [hs]); have e2 : (stAt kd c0 c1 c2 s0 s1 bs 16).2 = t1 := (by rw [hs]); first | exact ho | exact ho.1 | exact ho.2.1 | (rw [e1]; exact b0) | (rw [e2]; exact b1) | (rw [e1, e2]))

set_option maxRecDepth 100000 in
theorem c_run1 (kd : Int) (c0 : Nat) (c1 : Nat) (c2 : Nat) (s0 : Nat) (s1 : Nat) (bs : List Nat) (p : Nat) (q : Nat) (d : Nat) (i : Nat) (l0 : s0 < wid .f32) (l1 : s1 < wid .f32) (lb : bs.length = 16) (wb : W32 bs) (hi : i < 16) (w : World) (rq : Rng w q 0 [.pointer (some ⟨p, 0, none⟩)]) (rd : Rng w d 0 (fl bs)) (r : Row w p 0 [.int .i64 kd, .float .f32 c0, .float .f32 c1, .float .f32 c2, .float .f32 s0, .float .f32 s1]) (n1 : q ≠ p) (n2 : d ≠ p) : Cl Try.prog 89 #[.int .i64 ((i : Nat) : Int), .pointer (some ⟨q, 0, none⟩), .pointer (some ⟨d, 0, none⟩)] w fun v w' => ∃ (y : Nat), v = .float .f32 y ∧ (cn .f32 y = cn .f32 (stepY kd c0 c1 c2 s0 s1 (bs.getD i 0))) ∧ (y < wid .f32) ∧ ((stepS kd c0 c1 c2 s0 s1 (bs.getD i 0)) < wid .f32) ∧ ((stepT kd c0 c1 c2 s0 s1 (bs.getD i 0)) < wid .f32) ∧ Row w' p 0 [.int .i64 kd, .float .f32 c0, .float .f32 c1, .float .f32 c2, .float .f32 (stepS kd c0 c1 c2 s0 s1 (bs.getD i 0)), .float .f32 (stepT kd c0 c1 c2 s0 s1 (bs.getD i 0))] ∧ Mod [p] w w' := by
  refine Cl.of Try.func89 Try.ntmps89 rfl rfl (ρ := [(0, .int .i64 ((i : Nat) : Int)), (1, .pointer (some ⟨q, 0, none⟩)), (2, .pointer (some ⟨d, 0, none⟩))]) rfl ?_
  refine CE.seq ?_
  refine CE.region ?_
  refine WL.det (op_assign rfl) rfl rfl rfl ?_
  refine WL.end ?_
  refine NE.code ?_
  refine CE.seq ?_
  refine CE.draw (fun _ => none) [0, 1, 2, 3] [4, 5] [] (by kernel_rfl) (by kernel_rfl) ?_
  have md1 : Mod [] w w.drew := (Mod.refl _ _).drew
  generalize w.drew = w1 at md1 ⊢
  refine DR.det (i := 0) rfl rfl (by kernel_rfl) (.free rfl) rfl rfl (fun wD mD => op_load1 (i := 0) rfl Try.isAgg97 ((rq.ext md1).ext mD) rfl rfl) ?_
  refine DR.det (i := 1) rfl rfl (by kernel_rfl) (.free rfl) rfl rfl (fun wD mD => op_move rfl) ?_
  refine DR.det (i := 2) rfl rfl (by kernel_rfl) (.free rfl) rfl rfl (fun wD mD => op_indexArr (off' := 0 + i) rfl rfl Try.runUnderlying62 Try.sizeOf25 (by omega) (by omega) (by omega)) ?_
  refine DR.det (i := 3) rfl rfl (by kernel_rfl) (.free rfl) rfl rfl (fun wD mD => op_load1 (i := i) rfl Try.isAgg25 ((rd.ext md1).ext mD) rfl (fl_get (by have eL : List.length bs = 16 := lb; omega))) ?_
  refine DR.done rfl ?_
  intro w2 m1
  refine WO.call rfl (.free rfl) rfl (ltb rfl) (oc_call (vs := [.pointer (some ⟨p, 0, none⟩), .float .f32 (bs.getD i 0)]) (cap := []) rfl rfl rfl Try.call69 (c_fstep kd c0 c1 c2 s0 s1 p (bs.getD i 0) (bs.getD i 0) l0 l1 rfl (wb.get _) w2 ((r.ext md1).ext m1))) ?_
  rintro _ w3 ⟨y1, rfl, h1, h2, h3, h4, r1, m2⟩
  refine WO.det (op_assign rfl) rfl (.free rfl) rfl rfl ?_
  refine WO.end ?_
  refine NE.code ?_
  refine CE.ret' ?_
  refine XE.leave1 Try.results89 rfl ?_
  refine ⟨y1, rfl, h1, h2, ?_, ?_, r1, ((((Mod.refl [p] w).nil_then md1).nil_then m1).then m2 (allow1 (.inl (by simp))))⟩
  all_goals assumption

set_option maxRecDepth 100000 in
theorem c_made_run (kd : Int) (c0 : Nat) (c1 : Nat) (c2 : Nat) (s0 : Nat) (s1 : Nat) (bs : List Nat) (p : Nat) (q : Nat) (d : Nat) (l0 : s0 < wid .f32) (l1 : s1 < wid .f32) (lb : bs.length = 16) (wb : W32 bs) (w : World) (rq : Rng w q 0 [.pointer (some ⟨p, 0, none⟩)]) (rd : Rng w d 0 (fl bs)) (r : Row w p 0 [.int .i64 kd, .float .f32 c0, .float .f32 c1, .float .f32 c2, .float .f32 s0, .float .f32 s1]) (n1 : q ≠ p) (n2 : d ≠ p) : Cl Try.prog 88 #[.func (.func 89) #[] #[.pointer (some ⟨q, 0, none⟩), .pointer (some ⟨d, 0, none⟩)]] w fun v w' => ∃ (ys : List Nat), v = .agg (fl ys).toArray ∧ (ys.length = 16) ∧ (W32 ys) ∧ (Outs kd c0 c1 c2 s0 s1 bs 16 ys) ∧ ((stAt kd c0 c1 c2 s0 s1 bs 16).1 < wid .f32) ∧ ((stAt kd c0 c1 c2 s0 s1 bs 16).2 < wid .f32) ∧ Row w' p 0 [.int .i64 kd, .float .f32 c0, .float .f32 c1, .float .f32 c2, .float .f32 ((stAt kd c0 c1 c2 s0 s1 bs 16).1), .float .f32 ((stAt kd c0 c1 c2 s0 s1 bs 16).2)] ∧ Mod [p] w w' := by
  refine Cl.of Try.func88 Try.ntmps88 rfl rfl (ρ := [(0, .func (.func 89) #[] #[.pointer (some ⟨q, 0, none⟩), .pointer (some ⟨d, 0, none⟩)])]) rfl ?_
  refine CE.seq ?_
  refine CE.region ?_
  refine WL.op (op_alloc (cs := fl (List.replicate 16 0)) Try.zeroValue62 rfl) rfl rfl (ltb rfl) ?_
  rintro _ w1 ⟨rfl, r1, m1, z1⟩
  refine WL.end ?_
  refine NE.code ?_
  refine CE.seq ?_
  refine CE.region ?_
  refine WL.op (op_alloc (cs := fl (List.replicate 16 0)) Try.zeroValue62 rfl) rfl rfl (ltb rfl) ?_
  rintro _ w2 ⟨rfl, r2, m2, z2⟩
  refine WL.end ?_
  refine NE.code ?_
  refine CE.seq ?_
  refine CE.seq ?_
  refine CE.region ?_
  refine WL.det (op_move rfl) rfl rfl rfl ?_
  refine WL.end ?_
  refine NE.code ?_
  refine CE.block ?_
  refine CE.loop (fun (z : Nat × List Nat × Nat × Nat) => [(5, .int .i64 ((z.1 : Nat) : Int)), (0, .func (.func 89) #[] #[.pointer (some ⟨q, 0, none⟩), .pointer (some ⟨d, 0, none⟩)]), (2, .pointer (some ⟨w.heap.size, 0, none⟩)), (3, .pointer (some ⟨w1.heap.size, 0, none⟩))]) (fun (z : Nat × List Nat × Nat × Nat) => fun W => (z.1 ≤ 16) ∧ (Outs kd c0 c1 c2 s0 s1 bs z.1 z.2.1) ∧ (stAt kd c0 c1 c2 s0 s1 bs z.1 = (z.2.2.1, z.2.2.2)) ∧ (z.2.2.1 < wid .f32) ∧ (z.2.2.2 < wid .f32) ∧ Row W p 0 [.int .i64 kd, .float .f32 c0, .float .f32 c1, .float .f32 c2, .float .f32 z.2.2.1, .float .f32 z.2.2.2] ∧ Row W w1.heap.size 0 (fl z.2.1) ∧ Mod [p, w1.heap.size] w2 W) (fun (z : Nat × List Nat × Nat × Nat) => 16 - z.1) (0, (List.replicate 16 0), s0, s1) (⟨rfl, rfl, rfl, rfl, trivial⟩) ⟨(by omega), (by exact Outs.zero List.length_replicate (W32.zeros _)), (by rfl), (by assumption), (by assumption), (Row.congr ((r.ext m1).ext m2) rfl), (Row.congr r2 rfl), Mod.refl _ _⟩ ?_
  rintro ⟨i, ys, t0, t1⟩ w3 ⟨hi, ho, hs, b0, b1, r3, r4, m3⟩
  replace hi : i ≤ 16 := hi
  replace ho : Outs kd c0 c1 c2 s0 s1 bs i ys := ho
  replace hs : stAt kd c0 c1 c2 s0 s1 bs i = (t0, t1) := hs
  replace b0 : t0 < wid .f32 := b0
  replace b1 : t1 < wid .f32 := b1
  replace r3 : Row w3 p 0 [.int .i64 kd, .float .f32 c0, .float .f32 c1, .float .f32 c2, .float .f32 t0, .float .f32 t1] := r3
  replace r4 : Row w3 w1.heap.size 0 (fl ys) := r4
  show CE _ _ _ _ [(5, .int .i64 ((i : Nat) : Int)), (0, .func (.func 89) #[] #[.pointer (some ⟨q, 0, none⟩), .pointer (some ⟨d, 0, none⟩)]), (2, .pointer (some ⟨w.heap.size, 0, none⟩)), (3, .pointer (some ⟨w1.heap.size, 0, none⟩))] _
  refine CE.seq ?_
  refine CE.region ?_
  refine WL.det (op_lti rfl rfl) rfl rfl rfl ?_
  refine WL.end ?_
  refine NE.code ?_
  refine CE.seq ?_
  rcases Bool.eq_false_or_eq_true (decide (((i : Nat) : Int) < (16 : Int))) with hb1 | hb1
  · have hp1 := hb1; try simp only [Bool.and_eq_true, Bool.or_eq_true, Bool.not_eq_true', Bool.not_eq_false', Bool.and_eq_false_iff, Bool.or_eq_false_iff, decide_eq_true_eq, decide_eq_false_iff_not, beq_iff_eq, bne_iff_ne, beq_eq_false_iff_ne, bne_eq_false_iff_eq, ne_eq, Bool.false_eq_true, not_false_eq_true, not_true_eq_false, vIn_t, vIn_f] at hp1
    refine CE.cond_t rfl hb1 ?_
    refine CE.skip' ?_
    refine NE.code ?_
    refine CE.seq ?_
    refine CE.block ?_
    refine CE.seq ?_
    refine CE.region ?_
    refine WL.det (op_move rfl) rfl rfl rfl ?_
    refine WL.det (op_assign rfl) rfl rfl rfl ?_
    refine WL.end ?_
    refine NE.code ?_
    refine CE.region ?_
    refine WL.det (op_move rfl) rfl rfl rfl ?_
    refine WL.det (op_move rfl) rfl rfl rfl ?_
    refine WL.det (op_move rfl) rfl rfl rfl ?_
    refine WL.call (oc_call (vs := [.int .i64 ((i : Nat) : Int)]) (cap := [.pointer (some ⟨q, 0, none⟩), .pointer (some ⟨d, 0, none⟩)]) rfl rfl rfl Try.call89 (c_run1 kd c0 c1 c2 t0 t1 bs p q d i b0 b1 lb wb (by omega) w3 (((rq.ext m1).ext m2).mod m3 (notin2 n1 (Nat.ne_of_lt (Nat.lt_of_lt_of_le (Nat.lt_of_lt_of_le (rq.lt (Nat.succ_pos _)) m1.size) (Nat.le_refl _))))) (((rd.ext m1).ext m2).mod m3 (notin2 n2 (Nat.ne_of_lt (Nat.lt_of_lt_of_le (Nat.lt_of_lt_of_le (rd.lt (by have eL : List.length bs = 16 := lb; rw [fl_length]; omega)) m1.size) (Nat.le_refl _))))) r3 n1 n2)) rfl rfl (ltb rfl) ?_
    rintro _ w4 ⟨y1, rfl, h1, h2, h3, h4, r5, m4⟩
    refine WL.det (op_indexArr (off' := 0 + i) rfl rfl Try.runUnderlying62 Try.sizeOf25 (by omega) (by omega) (by omega)) rfl rfl rfl ?_
    refine WL.op0 (op_store (i := i) (cs := [.float .f32 y1]) rfl rfl rfl Try.sizeOf25 rfl (r4.mod m4 (notin1 (Nat.ne_of_gt (Nat.lt_of_lt_of_le (Nat.lt_of_lt_of_le r.lt m1.size) (Nat.le_refl _))))) rfl (by rw [fl_length]; have eL : List.length ys = 16 := ho.1; omega) rfl) rfl rfl ?_
    rintro _ w5 ⟨r6, m5, z3⟩
    have r7 : Row w5 w1.heap.size 0 (fl (ys.set i y1)) := Row.congr r6 (fl_splice (by have eL : List.length ys = 16 := ho.1; omega))
    refine WL.end ?_
    refine NE.blk ?_
    refine NE.code ?_
    refine CE.region ?_
    refine WL.det (op_add (r := ((i + 1 : Nat) : Int)) rfl rfl (w_i64 (by omega) (by omega))) rfl rfl rfl ?_
    refine WL.det (op_move rfl) rfl rfl rfl ?_
    refine WL.end ?_
    exact NE.again ((i + 1), (ys.set i y1), (stepS kd c0 c1 c2 t0 t1 (bs.getD i 0)), (stepT kd c0 c1 c2 t0 t1 (bs.getD i 0))) (⟨rfl, rfl, rfl, rfl, trivial⟩) ⟨(by omega), (by exact ho.next (by omega) (by rw [yAt, hs]; assumption) (by assumption)), (by rw [stAt, hs]), (by assumption), (by assumption), (Row.congr (r5.mod m5 (notin1 (Nat.ne_of_lt (Nat.lt_of_lt_of_le (Nat.lt_of_lt_of_le r.lt m1.size) (Nat.le_refl _))))) rfl), (Row.congr r7 rfl), ((m3.then m4 (allow1 (.inl (by simp)))).then m5 (allow1 (.inl (by simp))))⟩ (by first | (dsimp only; omega) | omega)
  · have hp1 := hb1; try simp only [Bool.and_eq_true, Bool.or_eq_true, Bool.not_eq_true', Bool.not_eq_false', Bool.and_eq_false_iff, Bool.or_eq_false_iff, decide_eq_true_eq, decide_eq_false_iff_not, beq_iff_eq, bne_iff_ne, beq_eq_false_iff_ne, bne_eq_false_iff_eq, ne_eq, Bool.false_eq_true, not_false_eq_true, not_true_eq_false, vIn_t, vIn_f] at hp1
    refine CE.cond_f rfl hb1 ?_
    refine CE.exit' ?_
    refine XE.exit_then ?_
    refine XE.exit_then ?_
    refine XE.exit_here ?_
    refine NE.code ?_
    refine CE.seq ?_
    refine CE.region ?_
    refine WL.det (op_loadA (i := 0) (cs := fl ys) rfl Try.isAgg62 Try.sizeOf62 r4.rng rfl (fl_whole ho.1) (fl_len ho.1)) rfl rfl rfl ?_
    refine WL.op0 (op_store (i := 0) (cs := fl ys) rfl rfl rfl Try.sizeOf62 (fl_len ho.1) ((r1.ext m2).mod m3 (notin2 (Nat.ne_of_gt (Nat.lt_of_lt_of_le r.lt (Nat.le_refl _))) (Nat.ne_of_lt (Nat.lt_of_lt_of_le r1.lt (Nat.le_refl _))))) rfl (by rw [fl_length, List.length_replicate]; decide) (fl_one _)) rfl rfl ?_
    rintro _ w6 ⟨r8, m6, z4⟩
    have r9 : Row w6 w.heap.size 0 (fl ys) := Row.congr r8 (splice_all ((fl_len (List.length_replicate)).trans (fl_len (ho.1)).symm))
    refine WL.end ?_
    refine NE.code ?_
    refine CE.ret' ?_
    refine XE.leaveC Try.results88 (res_agg (cs := fl ys) rfl Try.isAgg62 Try.sizeOf62 r9.rng (fl_len ho.1) res_nil) ?_
    refine ⟨ys, rfl, ho.1, ho.2.1, ?_, ?_, ?_, (Row.congr (r3.mod m6 (notin1 (Nat.ne_of_lt (Nat.lt_of_lt_of_le r.lt (Nat.le_refl _))))) ?_), (((((Mod.refl [p] w).nil_then m1).nil_then m2).then m3 (allow2 (.inl (by simp)) (.inr (Nat.le_trans m1.size (Nat.le_refl _))))).then m6 (allow1 (.inr (Nat.le_refl _))))⟩
    all_goals (have e : i = 16 := (by omega); subst e; have e1 : (stAt kd c0 c1 c2 s0 s1 bs 16).1 = t0 := (by rw [hs]); have e2 : (stAt kd c0 c1 c2 s0 s1 bs 16).2 = t1 := (by rw [hs]); first | exact ho | exact ho.1 | exact ho.2.1 | (rw [e1]; exact b0) | (rw [e2]; exact b1) | (rw [e1, e2]))

set_option maxRecDepth 100000 in
theorem c_run (kd : Int) (c0 : Nat) (c1 : Nat) (c2 : Nat) (s0 : Nat) (s1 : Nat) (bs : List Nat) (p : Nat) (l0 : s0 < wid .f32) (l1 : s1 < wid .f32) (lb : bs.length = 16) (wb : W32 bs) (w : World) (r : Row w p 0 [.int .i64 kd, .float .f32 c0, .float .f32 c1, .float .f32 c2, .float .f32 s0, .float .f32 s1]) : Cl Try.prog 73 #[.pointer (some ⟨p, 0, none⟩), .agg (fl bs).toArray] w fun v w' => ∃ (ys : List Nat), v = .agg (fl ys).toArray ∧ (ys.length = 16) ∧ (W32 ys) ∧ (Outs kd c0 c1 c2 s0 s1 bs 16 ys) ∧ ((stAt kd c0 c1 c2 s0 s1 bs 16).1 < wid .f32) ∧ ((stAt kd c0 c1 c2 s0 s1 bs 16).2 < wid .f32) ∧ Row w' p 0 [.int .i64 kd, .float .f32 c0, .float .f32 c1, .float .f32 c2, .float .f32 ((stAt kd c0 c1 c2 s0 s1 bs 16).1), .float .f32 ((stAt kd c0 c1 c2 s0 s1 bs 16).2)] ∧ Mod [p] w w' := by
  refine Cl.of Try.func73 Try.ntmps73 rfl rfl (ρ := [(0, .pointer (some ⟨p, 0, none⟩)), (1, .agg (fl bs).toArray)]) rfl ?_
  refine CE.seq ?_
  refine CE.region ?_
  refine WL.op (op_box (cs := [.pointer (some ⟨p, 0, none⟩)]) rfl rfl) rfl rfl (ltb rfl) ?_
  rintro _ w1 ⟨rfl, r1, m1, z1⟩
  refine WL.op (op_box (cs := fl bs) rfl rfl) rfl rfl (ltb rfl) ?_
  rintro _ w2 ⟨rfl, r2, m2, z2⟩
  refine WL.op (op_alloc (cs := fl (List.replicate 16 0)) Try.zeroValue62 rfl) rfl rfl (ltb rfl) ?_
  rintro _ w3 ⟨rfl, r3, m3, z3⟩
  refine WL.end ?_
  refine NE.code ?_
  refine CE.seq ?_
  refine CE.region ?_
  refine WL.det (op_makeFunc (vs := []) (us := [.pointer (some ⟨w.heap.size, 0, none⟩), .pointer (some ⟨w1.heap.size, 0, none⟩)]) rfl rfl) rfl rfl rfl ?_
  refine WL.call (oc_call (vs := [.func (.func 89) #[] #[.pointer (some ⟨w.heap.size, 0, none⟩), .pointer (some ⟨w1.heap.size, 0, none⟩)]]) (cap := []) rfl rfl rfl Try.call88 (c_made_run kd c0 c1 c2 s0 s1 bs p w.heap.size w1.heap.size l0 l1 lb wb w3 ((r1.ext m2).ext m3).rng (r2.ext m3).rng (((r.ext m1).ext m2).ext m3) (Nat.ne_of_gt (Nat.lt_of_lt_of_le r.lt (Nat.le_refl _))) (Nat.ne_of_gt (Nat.lt_of_lt_of_le (Nat.lt_of_lt_of_le r.lt m1.size) (Nat.le_refl _))))) rfl rfl (ltb rfl) ?_
  rintro _ w4 ⟨ys1, rfl, h1, h2, h3, h4, h5, r4, m4⟩
  refine WL.op0 (op_store (i := 0) (cs := fl ys1) rfl rfl rfl Try.sizeOf62 (fl_len h1) (r3.mod m4 (notin1 (Nat.ne_of_gt (Nat.lt_of_lt_of_le (Nat.lt_of_lt_of_le r.lt (Nat.le_trans m1.size m2.size)) (Nat.le_refl _))))) rfl (by rw [fl_length, List.length_replicate]; decide) (fl_one _)) rfl rfl ?_
  rintro _ w5 ⟨r5, m5, z4⟩
  have r6 : Row w5 w2.heap.size 0 (fl ys1) := Row.congr r5 (splice_all ((fl_len (List.length_replicate)).trans (fl_len (h1)).symm))
  refine WL.end ?_
  refine NE.code ?_
  refine CE.ret' ?_
  refine XE.leaveC Try.results73 (res_agg (cs := fl ys1) rfl Try.isAgg62 Try.sizeOf62 r6.rng (fl_len h1) res_nil) ?_
  refine ⟨ys1, rfl, h1, h2, ?_, ?_, ?_, (r4.mod m5 (notin1 (Nat.ne_of_lt (Nat.lt_of_lt_of_le (Nat.lt_of_lt_of_le r.lt (Nat.le_trans m1.size m2.size)) (Nat.le_refl _))))), ((((((Mod.refl [p] w).nil_then m1).nil_then m2).nil_then m3).then m4 (allow1 (.inl (by simp)))).then m5 (allow1 (.inr (Nat.le_trans (Nat.le_trans m1.size m2.size) (Nat.le_refl _)))))⟩
  all_goals assumption

set_option maxRecDepth 100000 in
theorem c_sRunF (kd : Int) (c0 : Nat) (c1 : Nat) (c2 : Nat) (s0 : Nat) (s1 : Nat) (bs : List Nat) (l0 : s0 < wid .f32) (l1 : s1 < wid .f32) (lb : bs.length = 16) (wb : W32 bs) (hv : vFil kd c0 c1 c2 s0 s1 = true) (w : World) : Cl Try.prog 30 #[.agg #[.int .i64 kd, .float .f32 c0, .float .f32 c1, .float .f32 c2, .float .f32 s0, .float .f32 s1], .agg (fl bs).toArray] w fun v w' => ∃ (ys : List Nat), v = .tuple #[.agg #[.int .i64 kd, .float .f32 c0, .float .f32 c1, .float .f32 c2, .float .f32 ((stAt kd c0 c1 c2 s0 s1 bs 16).1), .float .f32 ((stAt kd c0 c1 c2 s0 s1 bs 16).2)], .agg (fl ys).toArray, .int .i64 0] ∧ (ys.length = 16) ∧ (W32 ys) ∧ (Outs kd c0 c1 c2 s0 s1 bs 16 ys) ∧ Mod [] w w' := by
  refine Cl.of Try.func30 Try.ntmps30 rfl rfl (ρ := [(0, .agg #[.int .i64 kd, .float .f32 c0, .float .f32 c1, .float .f32 c2, .float .f32 s0, .float .f32 s1]), (1, .agg (fl bs).toArray)]) rfl ?_
  refine CE.seq ?_
  refine CE.region ?_
  refine WL.op (op_box (cs := [.int .i64 kd, .float .f32 c0, .float .f32 c1, .float .f32 c2, .float .f32 s0, .float .f32 s1]) rfl rfl) rfl rfl (ltb rfl) ?_
  rintro _ w1 ⟨rfl, r1, m1, z1⟩
  refine WL.op (op_box (cs := fl bs) rfl rfl) rfl rfl (ltb rfl) ?_
  rintro _ w2 ⟨rfl, r2, m2, z2⟩
  refine WL.op (op_alloc (cs := [.int .i64 0, .float .f32 0, .float .f32 0, .float .f32 0, .float .f32 0, .float .f32 0]) Try.zeroValue54 rfl) rfl rfl (ltb rfl) ?_
  rintro _ w3 ⟨rfl, r3, m3, z3⟩
  refine WL.op (op_alloc (cs := fl (List.replicate 16 0)) Try.zeroValue62 rfl) rfl rfl (ltb rfl) ?_
  rintro _ w4 ⟨rfl, r4, m4, z4⟩
  refine WL.det (op_assign rfl) rfl rfl rfl ?_
  refine WL.end ?_
  refine NE.code ?_
  refine CE.seq ?_
  refine CE.seq ?_
  refine CE.region ?_
  refine WL.call (oc_call (vs := [.pointer (some ⟨w.heap.size, 0, none⟩)]) (cap := []) rfl rfl rfl Try.call61 (c_l02Ok kd c0 c1 c2 s0 s1 w.heap.size w4 (((r1.ext m2).ext m3).ext m4).rng)) rfl rfl (ltb rfl) ?_
  rintro _ w5 ⟨rfl, m5⟩
  refine WL.det (op_not rfl) rfl rfl rfl ?_
  refine WL.end ?_
  refine NE.code ?_
  refine CE.cond_f rfl (bnot_t hv) ?_
  refine CE.skip' ?_
  refine NE.code ?_
  refine CE.seq ?_
  refine CE.region ?_
  refine WL.det (op_loadA (i := 0) (cs := fl bs) rfl Try.isAgg62 Try.sizeOf62 (((r2.ext m3).ext m4).ext m5).rng rfl (fl_whole lb) (fl_len lb)) rfl rfl rfl ?_
  refine WL.call (oc_call (vs := [.pointer (some ⟨w.heap.size, 0, none⟩), .agg (fl bs).toArray]) (cap := []) rfl rfl rfl Try.call72 (c_l02Run kd c0 c1 c2 s0 s1 bs w.heap.size l0 l1 lb wb w5 ((((r1.ext m2).ext m3).ext m4).ext m5))) rfl rfl (ltb rfl) ?_
  rintro _ w6 ⟨ys1, rfl, h1, h2, h3, h4, h5, r5, m6⟩
  refine WL.op (op_alloc (cs := fl (List.replicate 16 0)) Try.zeroValue62 rfl) rfl rfl (ltb rfl) ?_
  rintro _ w7 ⟨rfl, r6, m7, z5⟩
  refine WL.op0 (op_store (i := 0) (cs := fl ys1) rfl rfl rfl Try.sizeOf62 (fl_len h1) r6 rfl (by rw [fl_length, List.length_replicate]; decide) (fl_one _)) rfl rfl ?_
  rintro _ w8 ⟨r7, m8, z6⟩
  have r8 : Row w8 w6.heap.size 0 (fl ys1) := Row.congr r7 (splice_all ((fl_len (List.length_replicate)).trans (fl_len (h1)).symm))
  refine WL.end ?_
  refine NE.code ?_
  refine CE.seq ?_
  refine CE.draw (fun _ => none) [0, 1, 2] [3, 4] [w2.heap.size] (by kernel_rfl) (by kernel_rfl) ?_
  have md1 : Mod [] w8 w8.drew := (Mod.refl _ _).drew
  generalize w8.drew = w9 at md1 ⊢
  refine DR.det (i := 0) rfl rfl (by kernel_rfl) (.free rfl) rfl rfl (fun wD mD => op_loadA (i := 0) (cs := [.int .i64 kd, .float .f32 c0, .float .f32 c1, .float .f32 c2, .float .f32 ((stAt kd c0 c1 c2 s0 s1 bs 16).1), .float .f32 ((stAt kd c0 c1 c2 s0 s1 bs 16).2)]) rfl Try.isAgg54 Try.sizeOf54 ((((r5.ext m7).mod m8 (notin1 (Nat.ne_of_lt (Nat.lt_of_lt_of_le (Nat.lt_of_lt_of_le r1.lt (Nat.le_trans (Nat.le_trans (Nat.le_trans (Nat.le_trans m2.size m3.size) m4.size) m5.size) m6.size)) (Nat.le_refl _))))).ext md1).mod mD (notin1 (Nat.ne_of_lt (Nat.lt_of_lt_of_le (Nat.lt_of_lt_of_le r1.lt m2.size) (Nat.le_refl _))))).rng rfl rfl rfl) ?_
  refine DR.det (i := 1) rfl rfl (by kernel_rfl) (.free rfl) rfl rfl (fun wD mD => op_loadA (i := 0) (cs := fl ys1) rfl Try.isAgg62 Try.sizeOf62 ((r8.ext md1).mod mD (notin1 (Nat.ne_of_gt (Nat.lt_of_lt_of_le (Nat.lt_of_lt_of_le r3.lt (Nat.le_trans (Nat.le_trans m4.size m5.size) m6.size)) (Nat.le_refl _))))).rng rfl (fl_whole h1) (fl_len h1)) ?_
  refine DR.st1 (i := 2) rfl rfl (by kernel_rfl) (.free rfl) rfl ?_
  intro w10 m9
  refine Op1.mono (op_store (i := 0) (cs := [.int .i64 kd, .float .f32 c0, .float .f32 c1, .float .f32 c2, .float .f32 ((stAt kd c0 c1 c2 s0 s1 bs 16).1), .float .f32 ((stAt kd c0 c1 c2 s0 s1 bs 16).2)]) rfl rfl rfl Try.sizeOf54 rfl (((((((r3.ext m4).ext m5).mod m6 (notin1 (Nat.ne_of_gt (Nat.lt_of_lt_of_le (Nat.lt_of_lt_of_le r1.lt m2.size) (Nat.le_refl _))))).ext m7).mod m8 (notin1 (Nat.ne_of_lt (Nat.lt_of_lt_of_le (Nat.lt_of_lt_of_le r3.lt (Nat.le_trans (Nat.le_trans m4.size m5.size) m6.size)) (Nat.le_refl _))))).ext md1).ext m9) rfl (Nat.le_of_ble_eq_true rfl) rfl) ?_
  rintro _ w11 ⟨r9, m10, z7⟩
  have r10 : Row w11 w2.heap.size 0 [.int .i64 kd, .float .f32 c0, .float .f32 c1, .float .f32 c2, .float .f32 ((stAt kd c0 c1 c2 s0 s1 bs 16).1), .float .f32 ((stAt kd c0 c1 c2 s0 s1 bs 16).2)] := Row.congr r9 rfl
  refine ⟨(((Mod.refl [w2.heap.size] w9).nil_then m9).then m10 (allow1 (.inl (by simp)))), ?_⟩
  refine DR.done rfl ?_
  intro w12 m11
  refine WO.op0 rfl (.free rfl) rfl (op_store (i := 0) (cs := fl ys1) rfl rfl rfl Try.sizeOf62 (fl_len h1) ((((((((r4.ext m5).mod m6 (notin1 (Nat.ne_of_gt (Nat.lt_of_lt_of_le (Nat.lt_of_lt_of_le r1.lt (Nat.le_trans m2.size m3.size)) (Nat.le_refl _))))).ext m7).mod m8 (notin1 (Nat.ne_of_lt (Nat.lt_of_lt_of_le (Nat.lt_of_lt_of_le r4.lt (Nat.le_trans m5.size m6.size)) (Nat.le_refl _))))).ext md1).ext m9).mod m10 (notin1 (Nat.ne_of_gt (Nat.lt_of_lt_of_le r3.lt (Nat.le_refl _))))).ext m11) rfl (by rw [fl_length, List.length_replicate]; decide) (fl_one _)) ?_
  rintro _ w13 ⟨r11, m12, z8⟩
  have r12 : Row w13 w3.heap.size 0 (fl ys1) := Row.congr r11 (splice_all ((fl_len (List.length_replicate)).trans (fl_len (h1)).symm))
  refine WO.det (op_assign rfl) rfl (.free rfl) rfl rfl ?_
  refine WO.end ?_
  refine NE.code ?_
  refine CE.ret' ?_
  refine XE.leaveT Try.results30 (res_agg (cs := [.int .i64 kd, .float .f32 c0, .float .f32 c1, .float .f32 c2, .float .f32 ((stAt kd c0 c1 c2 s0 s1 bs 16).1), .float .f32 ((stAt kd c0 c1 c2 s0 s1 bs 16).2)]) rfl Try.isAgg54 Try.sizeOf54 ((r10.ext m11).mod m12 (notin1 (Nat.ne_of_lt (Nat.lt_of_lt_of_le r3.lt (Nat.le_refl _))))).rng rfl (res_agg (cs := fl ys1) rfl Try.isAgg62 Try.sizeOf62 r12.rng (fl_len h1) (res_tmp rfl res_nil))) ?_
  refine ⟨ys1, rfl, h1, h2, ?_, ((((((((((((((Mod.refl [] w).nil_then m1).nil_then m2).nil_then m3).nil_then m4).nil_then m5).then m6 (allow1 (.inr (Nat.le_refl _)))).nil_then m7).then m8 (allow1 (.inr (Nat.le_trans (Nat.le_trans (Nat.le_trans (Nat.le_trans (Nat.le_trans (Nat.le_trans m1.size m2.size) m3.size) m4.size) m5.size) m6.size) (Nat.le_refl _))))).nil_then md1).nil_then m9).then m10 (allow1 (.inr (Nat.le_trans (Nat.le_trans m1.size m2.size) (Nat.le_refl _))))).nil_then m11).then m12 (allow1 (.inr (Nat.le_trans (Nat.le_trans (Nat.le_trans m1.size m2.size) m3.size) (Nat.le_refl _)))))⟩
  all_goals assumption

set_option maxRecDepth 100000 in
theorem c_sRunF_bad (kd : Int) (c0 : Nat) (c1 : Nat) (c2 : Nat) (s0 : Nat) (s1 : Nat) (bs : List Nat) (l0 : s0 < wid .f32) (l1 : s1 < wid .f32) (lb : bs.length = 16) (wb : W32 bs) (hv : vFil kd c0 c1 c2 s0 s1 = false) (w : World) : Cl Try.prog 30 #[.agg #[.int .i64 kd, .float .f32 c0, .float .f32 c1, .float .f32 c2, .float .f32 s0, .float .f32 s1], .agg (fl bs).toArray] w fun v w' => v = .tuple #[.agg #[.int .i64 0, .float .f32 0, .float .f32 0, .float .f32 0, .float .f32 0, .float .f32 0], .agg (fl (List.replicate 16 0)).toArray, .int .i64 1] ∧ Mod [] w w' := by
  refine Cl.of Try.func30 Try.ntmps30 rfl rfl (ρ := [(0, .agg #[.int .i64 kd, .float .f32 c0, .float .f32 c1, .float .f32 c2, .float .f32 s0, .float .f32 s1]), (1, .agg (fl bs).toArray)]) rfl ?_
  refine CE.seq ?_
  refine CE.region ?_
  refine WL.op (op_box (cs := [.int .i64 kd, .float .f32 c0, .float .f32 c1, .float .f32 c2, .float .f32 s0, .float .f32 s1]) rfl rfl) rfl rfl (ltb rfl) ?_
  rintro _ w1 ⟨rfl, r1, m1, z1⟩
  refine WL.op (op_box (cs := fl bs) rfl rfl) rfl rfl (ltb rfl) ?_
  rintro _ w2 ⟨rfl, r2, m2, z2⟩
  refine WL.op (op_alloc (cs := [.int .i64 0, .float .f32 0, .float .f32 0, .float .f32 0, .float .f32 0, .float .f32 0]) Try.zeroValue54 rfl) rfl rfl (ltb rfl) ?_
  rintro _ w3 ⟨rfl, r3, m3, z3⟩
  refine WL.op (op_alloc (cs := fl (List.replicate 16 0)) Try.zeroValue62 rfl) rfl rfl (ltb rfl) ?_
  rintro _ w4 ⟨rfl, r4, m4, z4⟩
  refine WL.det (op_assign rfl) rfl rfl rfl ?_
  refine WL.end ?_
  refine NE.code ?_
  refine CE.seq ?_
  refine CE.seq ?_
  refine CE.region ?_
  refine WL.call (oc_call (vs := [.pointer (some ⟨w.heap.size, 0, none⟩)]) (cap := []) rfl rfl rfl Try.call61 (c_l02Ok kd c0 c1 c2 s0 s1 w.heap.size w4 (((r1.ext m2).ext m3).ext m4).rng)) rfl rfl (ltb rfl) ?_
  rintro _ w5 ⟨rfl, m5⟩
  refine WL.det (op_not rfl) rfl rfl rfl ?_
  refine WL.end ?_
  refine NE.code ?_
  refine CE.cond_t rfl (bnot_f hv) ?_
  refine CE.seq ?_
  refine CE.region ?_
  refine WL.det (op_build (qs := []) (cells := #[.int .i64 0, .float .f32 0, .float .f32 0, .float .f32 0, .float .f32 0, .float .f32 0]) rfl rfl) rfl rfl rfl ?_
  refine WL.det (op_build (qs := []) (cells := #[.float .f32 0, .float .f32 0, .float .f32 0, .float .f32 0, .float .f32 0, .float .f32 0, .float .f32 0, .float .f32 0, .float .f32 0, .float .f32 0, .float .f32 0, .float .f32 0, .float .f32 0, .float .f32 0, .float .f32 0, .float .f32 0]) rfl rfl) rfl rfl rfl ?_
  refine WL.op0 (op_store (i := 0) (cs := [.int .i64 0, .float .f32 0, .float .f32 0, .float .f32 0, .float .f32 0, .float .f32 0]) rfl rfl rfl Try.sizeOf54 rfl ((r3.ext m4).ext m5) rfl (Nat.le_of_ble_eq_true rfl) rfl) rfl rfl ?_
  rintro _ w6 ⟨r5, m6, z5⟩
  have r6 : Row w6 w2.heap.size 0 [.int .i64 0, .float .f32 0, .float .f32 0, .float .f32 0, .float .f32 0, .float .f32 0] := Row.congr r5 rfl
  refine WL.op0 (op_store (i := 0) (cs := fl (List.replicate 16 0)) rfl rfl rfl Try.sizeOf62 (fl_len List.length_replicate) ((r4.ext m5).mod m6 (notin1 (Nat.ne_of_gt (Nat.lt_of_lt_of_le r3.lt (Nat.le_refl _))))) rfl (by rw [fl_length, List.length_replicate]; decide) (fl_one _)) rfl rfl ?_
  rintro _ w7 ⟨r7, m7, z6⟩
  have r8 : Row w7 w3.heap.size 0 (fl (List.replicate 16 0)) := Row.congr r7 (splice_all ((fl_len (List.length_replicate)).trans (fl_len (List.length_replicate)).symm))
  refine WL.det (op_assign rfl) rfl rfl rfl ?_
  refine WL.end ?_
  refine NE.code ?_
  refine CE.ret' ?_
  refine XE.ret_then ?_
  refine XE.leaveT Try.results30 (res_agg (cs := [.int .i64 0, .float .f32 0, .float .f32 0, .float .f32 0, .float .f32 0, .float .f32 0]) rfl Try.isAgg54 Try.sizeOf54 (r6.mod m7 (notin1 (Nat.ne_of_lt (Nat.lt_of_lt_of_le r3.lt (Nat.le_refl _))))).rng rfl (res_agg (cs := fl (List.replicate 16 0)) rfl Try.isAgg62 Try.sizeOf62 r8.rng (fl_len List.length_replicate) (res_tmp rfl res_nil))) ?_
  refine ⟨rfl, ((((((((Mod.refl [] w).nil_then m1).nil_then m2).nil_then m3).nil_then m4).nil_then m5).then m6 (allow1 (.inr (Nat.le_trans (Nat.le_trans m1.size m2.size) (Nat.le_refl _))))).then m7 (allow1 (.inr (Nat.le_trans (Nat.le_trans (Nat.le_trans m1.size m2.size) m3.size) (Nat.le_refl _)))))⟩

set_option maxRecDepth 100000 in
theorem c_iRunF (kd : Int) (c0 : Nat) (c1 : Nat) (c2 : Nat) (s0 : Nat) (s1 : Nat) (bs : List Nat) (l0 : s0 < wid .f32) (l1 : s1 < wid .f32) (lb : bs.length = 16) (wb : W32 bs) (hv : vFil kd c0 c1 c2 s0 s1 = true) (w : World) : Cl Try.prog 32 #[.agg #[.int .i64 kd, .float .f32 c0, .float .f32 c1, .float .f32 c2, .float .f32 s0, .float .f32 s1], .agg (fl bs).toArray] w fun v w' => ∃ (ys : List Nat), v = .tuple #[.agg #[.int .i64 kd, .float .f32 c0, .float .f32 c1, .float .f32 c2, .float .f32 ((stAt kd c0 c1 c2 s0 s1 bs 16).1), .float .f32 ((stAt kd c0 c1 c2 s0 s1 bs 16).2)], .agg (fl ys).toArray, .int .i64 0] ∧ (ys.length = 16) ∧ (W32 ys) ∧ (Outs kd c0 c1 c2 s0 s1 bs 16 ys) ∧ Mod [] w w' := by
  refine Cl.of Try.func32 Try.ntmps32 rfl rfl (ρ := [(0, .agg #[.int .i64 kd, .float .f32 c0, .float .f32 c1, .float .f32 c2, .float .f32 s0, .float .f32 s1]), (1, .agg (fl bs).toArray)]) rfl ?_
  refine CE.seq ?_
  refine CE.region ?_
  refine WL.op (op_box (cs := [.int .i64 kd, .float .f32 c0, .float .f32 c1, .float .f32 c2, .float .f32 s0, .float .f32 s1]) rfl rfl) rfl rfl (ltb rfl) ?_
  rintro _ w1 ⟨rfl, r1, m1, z1⟩
  refine WL.op (op_box (cs := fl bs) rfl rfl) rfl rfl (ltb rfl) ?_
  rintro _ w2 ⟨rfl, r2, m2, z2⟩
  refine WL.op (op_alloc (cs := [.int .i64 0, .float .f32 0, .float .f32 0, .float .f32 0, .float .f32 0, .float .f32 0]) Try.zeroValue54 rfl) rfl rfl (ltb rfl) ?_
  rintro _ w3 ⟨rfl, r3, m3, z3⟩
  refine WL.op (op_alloc (cs := fl (List.replicate 16 0)) Try.zeroValue62 rfl) rfl rfl (ltb rfl) ?_
  rintro _ w4 ⟨rfl, r4, m4, z4⟩
  refine WL.det (op_assign rfl) rfl rfl rfl ?_
  refine WL.end ?_
  refine NE.code ?_
  refine CE.seq ?_
  refine CE.seq ?_
  refine CE.region ?_
  refine WL.det (op_loadA (i := 0) (cs := [.int .i64 kd, .float .f32 c0, .float .f32 c1, .float .f32 c2, .float .f32 s0, .float .f32 s1]) rfl Try.isAgg54 Try.sizeOf54 (((r1.ext m2).ext m3).ext m4).rng rfl rfl rfl) rfl rfl rfl ?_
  refine WL.call (oc_call (vs := [.agg #[.int .i64 kd, .float .f32 c0, .float .f32 c1, .float .f32 c2, .float .f32 s0, .float .f32 s1]]) (cap := []) rfl rfl rfl Try.call67 (c_ValidFilter kd c0 c1 c2 s0 s1 w4)) rfl rfl (ltb rfl) ?_
  rintro _ w5 ⟨rfl, m5⟩
  refine WL.det (op_not rfl) rfl rfl rfl ?_
  refine WL.end ?_
  refine NE.code ?_
  refine CE.cond_f rfl (bnot_t hv) ?_
  refine CE.skip' ?_
  refine NE.code ?_
  refine CE.seq ?_
  refine CE.region ?_
  refine WL.det (op_loadA (i := 0) (cs := fl bs) rfl Try.isAgg62 Try.sizeOf62 (((r2.ext m3).ext m4).ext m5).rng rfl (fl_whole lb) (fl_len lb)) rfl rfl rfl ?_
  refine WL.call (oc_call (vs := [.pointer (some ⟨w.heap.size, 0, none⟩), .agg (fl bs).toArray]) (cap := []) rfl rfl rfl Try.call73 (c_run kd c0 c1 c2 s0 s1 bs w.heap.size l0 l1 lb wb w5 ((((r1.ext m2).ext m3).ext m4).ext m5))) rfl rfl (ltb rfl) ?_
  rintro _ w6 ⟨ys1, rfl, h1, h2, h3, h4, h5, r5, m6⟩
  refine WL.op (op_alloc (cs := fl (List.replicate 16 0)) Try.zeroValue62 rfl) rfl rfl (ltb rfl) ?_
  rintro _ w7 ⟨rfl, r6, m7, z5⟩
  refine WL.op0 (op_store (i := 0) (cs := fl ys1) rfl rfl rfl Try.sizeOf62 (fl_len h1) r6 rfl (by rw [fl_length, List.length_replicate]; decide) (fl_one _)) rfl rfl ?_
  rintro _ w8 ⟨r7, m8, z6⟩
  have r8 : Row w8 w6.heap.size 0 (fl ys1) := Row.congr r7 (splice_all ((fl_len (List.length_replicate)).trans (fl_len (h1)).symm))
  refine WL.end ?_
  refine NE.code ?_
  refine CE.seq ?_
  refine CE.draw (fun _ => none) [0, 1, 2] [3, 4] [w2.heap.size] (by kernel_rfl) (by kernel_rfl) ?_
  have md1 : Mod [] w8 w8.drew := (Mod.refl _ _).drew
  generalize w8.drew = w9 at md1 ⊢
  refine DR.det (i := 0) rfl rfl (by kernel_rfl) (.free rfl) rfl rfl (fun wD mD => op_loadA (i := 0) (cs := [.int .i64 kd, .float .f32 c0, .float .f32 c1, .float .f32 c2, .float .f32 ((stAt kd c0 c1 c2 s0 s1 bs 16).1), .float .f32 ((stAt kd c0 c1 c2 s0 s1 bs 16).2)]) rfl Try.isAgg54 Try.sizeOf54 ((((r5.ext m7).mod m8 (notin1 (Nat.ne_of_lt (Nat.lt_of_lt_of_le (Nat.lt_of_lt_of_le r1.lt (Nat.le_trans (Nat.le_trans (Nat.le_trans (Nat.le_trans m2.size m3.size) m4.size) m5.size) m6.size)) (Nat.le_refl _))))).ext md1).mod mD (notin1 (Nat.ne_of_lt (Nat.lt_of_lt_of_le (Nat.lt_of_lt_of_le r1.lt m2.size) (Nat.le_refl _))))).rng rfl rfl rfl) ?_
  refine DR.det (i := 1) rfl rfl (by kernel_rfl) (.free rfl) rfl rfl (fun wD mD => op_loadA (i := 0) (cs := fl ys1) rfl Try.isAgg62 Try.sizeOf62 ((r8.ext md1).mod mD (notin1 (Nat.ne_of_gt (Nat.lt_of_lt_of_le (Nat.lt_of_lt_of_le r3.lt (Nat.le_trans (Nat.le_trans m4.size m5.size) m6.size)) (Nat.le_refl _))))).rng rfl (fl_whole h1) (fl_len h1)) ?_
  refine DR.st1 (i := 2) rfl rfl (by kernel_rfl) (.free rfl) rfl ?_
  intro w10 m9
  refine Op1.mono (op_store (i := 0) (cs := [.int .i64 kd, .float .f32 c0, .float .f32 c1, .float .f32 c2, .float .f32 ((stAt kd c0 c1 c2 s0 s1 bs 16).1), .float .f32 ((stAt kd c0 c1 c2 s0 s1 bs 16).2)]) rfl rfl rfl Try.sizeOf54 rfl (((((((r3.ext m4).ext m5).mod m6 (notin1 (Nat.ne_of_gt (Nat.lt_of_lt_of_le (Nat.lt_of_lt_of_le r1.lt m2.size) (Nat.le_refl _))))).ext m7).mod m8 (notin1 (Nat.ne_of_lt (Nat.lt_of_lt_of_le (Nat.lt_of_lt_of_le r3.lt (Nat.le_trans (Nat.le_trans m4.size m5.size) m6.size)) (Nat.le_refl _))))).ext md1).ext m9) rfl (Nat.le_of_ble_eq_true rfl) rfl) ?_
  rintro _ w11 ⟨r9, m10, z7⟩
  have r10 : Row w11 w2.heap.size 0 [.int .i64 kd, .float .f32 c0, .float .f32 c1, .float .f32 c2, .float .f32 ((stAt kd c0 c1 c2 s0 s1 bs 16).1), .float .f32 ((stAt kd c0 c1 c2 s0 s1 bs 16).2)] := Row.congr r9 rfl
  refine ⟨(((Mod.refl [w2.heap.size] w9).nil_then m9).then m10 (allow1 (.inl (by simp)))), ?_⟩
  refine DR.done rfl ?_
  intro w12 m11
  refine WO.op0 rfl (.free rfl) rfl (op_store (i := 0) (cs := fl ys1) rfl rfl rfl Try.sizeOf62 (fl_len h1) ((((((((r4.ext m5).mod m6 (notin1 (Nat.ne_of_gt (Nat.lt_of_lt_of_le (Nat.lt_of_lt_of_le r1.lt (Nat.le_trans m2.size m3.size)) (Nat.le_refl _))))).ext m7).mod m8 (notin1 (Nat.ne_of_lt (Nat.lt_of_lt_of_le (Nat.lt_of_lt_of_le r4.lt (Nat.le_trans m5.size m6.size)) (Nat.le_refl _))))).ext md1).ext m9).mod m10 (notin1 (Nat.ne_of_gt (Nat.lt_of_lt_of_le r3.lt (Nat.le_refl _))))).ext m11) rfl (by rw [fl_length, List.length_replicate]; decide) (fl_one _)) ?_
  rintro _ w13 ⟨r11, m12, z8⟩
  have r12 : Row w13 w3.heap.size 0 (fl ys1) := Row.congr r11 (splice_all ((fl_len (List.length_replicate)).trans (fl_len (h1)).symm))
  refine WO.det (op_assign rfl) rfl (.free rfl) rfl rfl ?_
  refine WO.end ?_
  refine NE.code ?_
  refine CE.ret' ?_
  refine XE.leaveT Try.results32 (res_agg (cs := [.int .i64 kd, .float .f32 c0, .float .f32 c1, .float .f32 c2, .float .f32 ((stAt kd c0 c1 c2 s0 s1 bs 16).1), .float .f32 ((stAt kd c0 c1 c2 s0 s1 bs 16).2)]) rfl Try.isAgg54 Try.sizeOf54 ((r10.ext m11).mod m12 (notin1 (Nat.ne_of_lt (Nat.lt_of_lt_of_le r3.lt (Nat.le_refl _))))).rng rfl (res_agg (cs := fl ys1) rfl Try.isAgg62 Try.sizeOf62 r12.rng (fl_len h1) (res_tmp rfl res_nil))) ?_
  refine ⟨ys1, rfl, h1, h2, ?_, ((((((((((((((Mod.refl [] w).nil_then m1).nil_then m2).nil_then m3).nil_then m4).nil_then m5).then m6 (allow1 (.inr (Nat.le_refl _)))).nil_then m7).then m8 (allow1 (.inr (Nat.le_trans (Nat.le_trans (Nat.le_trans (Nat.le_trans (Nat.le_trans (Nat.le_trans m1.size m2.size) m3.size) m4.size) m5.size) m6.size) (Nat.le_refl _))))).nil_then md1).nil_then m9).then m10 (allow1 (.inr (Nat.le_trans (Nat.le_trans m1.size m2.size) (Nat.le_refl _))))).nil_then m11).then m12 (allow1 (.inr (Nat.le_trans (Nat.le_trans (Nat.le_trans m1.size m2.size) m3.size) (Nat.le_refl _)))))⟩
  all_goals assumption

set_option maxRecDepth 100000 in
theorem c_iRunF_bad (kd : Int) (c0 : Nat) (c1 : Nat) (c2 : Nat) (s0 : Nat) (s1 : Nat) (bs : List Nat) (l0 : s0 < wid .f32) (l1 : s1 < wid .f32) (lb : bs.length = 16) (wb : W32 bs) (hv : vFil kd c0 c1 c2 s0 s1 = false) (w : World) : Cl Try.prog 32 #[.agg #[.int .i64 kd, .float .f32 c0, .float .f32 c1, .float .f32 c2, .float .f32 s0, .float .f32 s1], .agg (fl bs).toArray] w fun v w' => v = .tuple #[.agg #[.int .i64 0, .float .f32 0, .float .f32 0, .float .f32 0, .float .f32 0, .float .f32 0], .agg (fl (List.replicate 16 0)).toArray, .int .i64 1] ∧ Mod [] w w' := by
  refine Cl.of Try.func32 Try.ntmps32 rfl rfl (ρ := [(0, .agg #[.int .i64 kd, .float .f32 c0, .float .f32 c1, .float .f32 c2, .float .f32 s0, .float .f32 s1]), (1, .agg (fl bs).toArray)]) rfl ?_
  refine CE.seq ?_
  refine CE.region ?_
  refine WL.op (op_box (cs := [.int .i64 kd, .float .f32 c0, .float .f32 c1, .float .f32 c2, .float .f32 s0, .float .f32 s1]) rfl rfl) rfl rfl (ltb rfl) ?_
  rintro _ w1 ⟨rfl, r1, m1, z1⟩
  refine WL.op (op_box (cs := fl bs) rfl rfl) rfl rfl (ltb rfl) ?_
  rintro _ w2 ⟨rfl, r2, m2, z2⟩
  refine WL.op (op_alloc (cs := [.int .i64 0, .float .f32 0, .float .f32 0, .float .f32 0, .float .f32 0, .float .f32 0]) Try.zeroValue54 rfl) rfl rfl (ltb rfl) ?_
  rintro _ w3 ⟨rfl, r3, m3, z3⟩
  refine WL.op (op_alloc (cs := fl (List.replicate 16 0)) Try.zeroValue62 rfl) rfl rfl (ltb rfl) ?_
  rintro _ w4 ⟨rfl, r4, m4, z4⟩
  refine WL.det (op_assign rfl) rfl rfl rfl ?_
  refine WL.end ?_
  refine NE.code ?_
  refine CE.seq ?_
  refine CE.seq ?_
  refine CE.region ?_
  refine WL.det (op_loadA (i := 0) (cs := [.int .i64 kd, .float .f32 c0, .float .f32 c1, .float .f32 c2, .float .f32 s0, .float .f32 s1]) rfl Try.isAgg54 Try.sizeOf54 (((r1.ext m2).ext m3).ext m4).rng rfl rfl rfl) rfl rfl rfl ?_
  refine WL.call (oc_call (vs := [.agg #[.int .i64 kd, .float .f32 c0, .float .f32 c1, .float .f32 c2, .float .f32 s0, .float .f32 s1]]) (cap := []) rfl rfl rfl Try.call67 (c_ValidFilter kd c0 c1 c2 s0 s1 w4)) rfl rfl (ltb rfl) ?_
  rintro _ w5 ⟨rfl, m5⟩
  refine WL.det (op_not rfl) rfl rfl rfl ?_
  refine WL.end ?_
  refine NE.code ?_
  refine CE.cond_t rfl (bnot_f hv) ?_
  refine CE.seq ?_
  refine CE.region ?_
  refine WL.det (op_build (qs := []) (cells := #[.int .i64 0, .float .f32 0, .float .f32 0, .float .f32 0, .float .f32 0, .float .f32 0]) rfl rfl) rfl rfl rfl ?_
  refine WL.det (op_build (qs := []) (cells := #[.float .f32 0, .float .f32 0, .float .f32 0, .float .f32 0, .float .f32 0, .float .f32 0, .float .f32 0, .float .f32 0, .float .f32 0, .float .f32 0, .float .f32 0, .float .f32 0, .float .f32 0, .float .f32 0, .float .f32 0, .float .f32 0]) rfl rfl) rfl rfl rfl ?_
  refine WL.op0 (op_store (i := 0) (cs := [.int .i64 0, .float .f32 0, .float .f32 0, .float .f32 0, .float .f32 0, .float .f32 0]) rfl rfl rfl Try.sizeOf54 rfl ((r3.ext m4).ext m5) rfl (Nat.le_of_ble_eq_true rfl) rfl) rfl rfl ?_
  rintro _ w6 ⟨r5, m6, z5⟩
  have r6 : Row w6 w2.heap.size 0 [.int .i64 0, .float .f32 0, .float .f32 0, .float .f32 0, .float .f32 0, .float .f32 0] := Row.congr r5 rfl
  refine WL.op0 (op_store (i := 0) (cs := fl (List.replicate 16 0)) rfl rfl rfl Try.sizeOf62 (fl_len List.length_replicate) ((r4.ext m5).mod m6 (notin1 (Nat.ne_of_gt (Nat.lt_of_lt_of_le r3.lt (Nat.le_refl _))))) rfl (by rw [fl_length, List.length_replicate]; decide) (fl_one _)) rfl rfl ?_
  rintro _ w7 ⟨r7, m7, z6⟩
  have r8 : Row w7 w3.heap.size 0 (fl (List.replicate 16 0)) := Row.congr r7 (splice_all ((fl_len (List.length_replicate)).trans (fl_len (List.length_replicate)).symm))
  refine WL.det (op_assign rfl) rfl rfl rfl ?_
  refine WL.end ?_
  refine NE.code ?_
  refine CE.ret' ?_
  refine XE.ret_then ?_
  refine XE.leaveT Try.results32 (res_agg (cs := [.int .i64 0, .float .f32 0, .float .f32 0, .float .f32 0, .float .f32 0, .float .f32 0]) rfl Try.isAgg54 Try.sizeOf54 (r6.mod m7 (notin1 (Nat.ne_of_lt (Nat.lt_of_lt_of_le r3.lt (Nat.le_refl _))))).rng rfl (res_agg (cs := fl (List.replicate 16 0)) rfl Try.isAgg62 Try.sizeOf62 r8.rng (fl_len List.length_replicate) (res_tmp rfl res_nil))) ?_
  refine ⟨rfl, ((((((((Mod.refl [] w).nil_then m1).nil_then m2).nil_then m3).nil_then m4).nil_then m5).then m6 (allow1 (.inr (Nat.le_trans (Nat.le_trans m1.size m2.size) (Nat.le_refl _))))).then m7 (allow1 (.inr (Nat.le_trans (Nat.le_trans (Nat.le_trans m1.size m2.size) m3.size) (Nat.le_refl _)))))⟩

end Go.Proofs.Ytdjmhecijopfmaa
