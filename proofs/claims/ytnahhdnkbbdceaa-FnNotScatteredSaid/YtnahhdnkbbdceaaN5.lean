/- New pipes: the program. -/
import Derived.Test.YtnahhdnkbbdceaaN3
import Derived.Test.YtnahhdnkbbdceaaE17
set_option linter.unusedVariables false
set_option linter.unusedSimpArgs false
set_option maxRecDepth 100000
set_option maxHeartbeats 8000000
namespace Go.Proofs.Ytnahhdnkbbdceaa

theorem c_isKeepP (a : Nat) (w : World) : Cl Try.prog 73 #[vF a] w fun v w' => v = .bool (fGe .f32 a 0 && fLt .f32 a 1065353216) ∧ Mod [] w w' := by
 refine Cl.of Try.func73 Try.ntmps73 rfl rfl (ρ := [(0, vF a)]) rfl ?_
 refine CE.seq (CE.region ?_)
 refine WL.det (op_assign rfl) rfl rfl rfl ?_
 refine WL.end (NE.code (CE.seq (CE.region ?_)))
 refine WL.det (op_move rfl) rfl rfl rfl ?_
 refine WL.det (op_fge (c := fGe .f32 a 0) rfl rfl rfl rfl rfl) rfl rfl rfl ?_
 refine WL.det (op_move rfl) rfl rfl rfl ?_
 rcases Bool.eq_false_or_eq_true (fGe .f32 a 0) with hb1 | hb1
 ·refine WL.yes rfl rfl rfl (ltb rfl) rfl hb1 ?_
  refine WL.det (op_move rfl) rfl rfl rfl ?_
  refine WL.yes rfl rfl rfl (ltb rfl) rfl hb1 ?_
  refine WL.det (op_flt (c := fLt .f32 a 1065353216) rfl rfl rfl rfl rfl) rfl rfl rfl ?_
  refine WL.det (op_pick_t rfl hb1 rfl) rfl rfl rfl ?_
  refine WL.det (op_assign rfl) rfl rfl rfl ?_
  refine WL.end (NE.code (CE.ret' ?_))
  refine XE.leave1 Try.results73 rfl ?_
  refine ⟨?_, (Mod.refl [] w)⟩
  all_goals simp_all
 ·refine WL.no rfl rfl rfl (ltb rfl) rfl hb1 rfl (ltb rfl) ?_
  refine WL.no rfl rfl rfl (ltb rfl) rfl hb1 rfl (ltb rfl) ?_
  refine WL.det (op_pick_f rfl hb1 rfl) rfl rfl rfl ?_
  refine WL.det (op_assign rfl) rfl rfl rfl ?_
  refine WL.end (NE.code (CE.ret' ?_))
  refine XE.leave1 Try.results73 rfl ?_
  refine ⟨?_, (Mod.refl [] w)⟩
  all_goals simp_all

theorem c_insideP (a : Nat) (lo : Nat) (hi : Nat) (w : World) : Cl Try.prog 74 #[vF a, vF lo, vF hi] w fun v w' => v = .bool (fGe .f32 a lo && fLe .f32 a hi) ∧ w = w' := by
 refine Cl.of Try.func74 Try.ntmps74 rfl rfl (ρ := [(0, vF a), (1, vF lo), (2, vF hi)]) rfl ?_
 refine CE.seq (CE.region ?_)
 refine WL.det (op_assign rfl) rfl rfl rfl ?_
 refine WL.end (NE.code (CE.seq (CE.region ?_)))
 iterate 2 refine WL.det (op_move rfl) rfl rfl rfl ?_
 refine WL.det (op_fge (c := fGe .f32 a lo) rfl rfl rfl rfl rfl) rfl rfl rfl ?_
 refine WL.det (op_move rfl) rfl rfl rfl ?_
 rcases Bool.eq_false_or_eq_true (fGe .f32 a lo) with hb1 | hb1
 ·refine WL.yes rfl rfl rfl (ltb rfl) rfl hb1 ?_
  refine WL.det (op_move rfl) rfl rfl rfl ?_
  refine WL.yes rfl rfl rfl (ltb rfl) rfl hb1 ?_
  refine WL.det (op_move rfl) rfl rfl rfl ?_
  refine WL.yes rfl rfl rfl (ltb rfl) rfl hb1 ?_
  refine WL.det (op_fle (c := fLe .f32 a hi) rfl rfl rfl rfl rfl) rfl rfl rfl ?_
  refine WL.det (op_pick_t rfl hb1 rfl) rfl rfl rfl ?_
  refine WL.det (op_assign rfl) rfl rfl rfl ?_
  refine WL.end (NE.code (CE.ret' ?_))
  refine XE.leave1 Try.results74 rfl ?_
  refine ⟨?_, rfl⟩
  all_goals simp_all
 ·refine WL.no rfl rfl rfl (ltb rfl) rfl hb1 rfl (ltb rfl) ?_
  iterate 2 refine WL.no rfl rfl rfl (ltb rfl) rfl hb1 rfl (ltb rfl) ?_
  refine WL.det (op_pick_f rfl hb1 rfl) rfl rfl rfl ?_
  refine WL.det (op_assign rfl) rfl rfl rfl ?_
  refine WL.end (NE.code (CE.ret' ?_))
  refine XE.leave1 Try.results74 rfl ?_
  refine ⟨?_, rfl⟩
  all_goals simp_all

theorem c_OnePoleP (x : Nat) (lx : x < wid .f32) (w : World) : Cl Try.prog 76 #[vF x] w fun v w' => ∃ (r_ : Nat), v = .agg #[vI 1, vF r_, vF x, vF 0, vF 0, vF 0] ∧ (cn .f32 r_ = cn .f32 (fop .sub .f32 1065353216 x)) ∧ (r_ < wid .f32) ∧ Mod [] w w' := by
 refine Cl.of Try.func76 Try.ntmps76 rfl rfl (ρ := [(0, vF x)]) rfl ?_
 refine CE.seq (CE.region ?_)
 refine WL.op (op_alloc (cs := [vI 0, vF 0, vF 0, vF 0, vF 0, vF 0]) Try.zeroValue31 rfl) rfl rfl (ltb rfl) ?_
 rintro _ w1 ⟨rfl, r1, m1, z1⟩
 refine WL.end (NE.code (CE.seq (CE.region ?_)))
 refine WL.det (op_move rfl) rfl rfl rfl ?_
 refine WL.op (op_farith (e := (fop .sub .f32 1065353216 x)) (.inr (.inl rfl)) rfl rfl rfl rfl rfl) rfl rfl (ltb rfl) ?_
 rintro _ w2 ⟨⟨f1, rfl, hf1, lf1⟩, m2⟩
 refine WL.det (op_move rfl) rfl rfl rfl ?_
 refine WL.det (op_build (qs := [(0, vF f1), (1, vF x)]) (cells := #[vF f1, vF x, vF 0]) rfl (by kernel_rfl)) rfl rfl rfl ?_
 refine WL.det (op_build (qs := [(0, vI 1), (1, .agg #[vF f1, vF x, vF 0])]) (cells := #[vI 1, vF f1, vF x, vF 0, vF 0, vF 0]) rfl (by kernel_rfl)) rfl rfl rfl ?_
 refine WL.op0 (op_store (i := 0) (cs := [vI 1, vF f1, vF x, vF 0, vF 0, vF 0]) rfl rfl rfl Try.sizeOf31 rfl (r1.ext m2) rfl (lB rfl) rfl) rfl rfl ?_
 rintro _ w3 ⟨r2, m3, z2⟩
 have r3 : Row w3 w.heap.size 0 [vI 1, vF f1, vF x, vF 0, vF 0, vF 0] := Row.congr r2 rfl
 refine WL.end (NE.code (CE.ret' ?_))
 refine XE.leaveC Try.results76 (res_agg (cs := [vI 1, vF f1, vF x, vF 0, vF 0, vF 0]) rfl Try.isAgg31 Try.sizeOf31 r3.rng rfl res_nil) ?_
 refine ⟨f1, rfl, ?_, lf1, ((((Mod.refl [] w).nt m1).nt m2).then m3 ((aC (.inr lR) aN)))⟩
 all_goals simp_all

theorem c_lengthI (n : Nat) (c : Nat) (A : Option Addr) (w : World) : Cl Try.prog 72 #[.slice A n c] w fun v w' => v = vI ((n : Nat) : Int) ∧ w = w' := by
 refine Cl.of Try.func72 Try.ntmps72 rfl rfl (ρ := [(0, .slice A n c)]) rfl ?_
 refine CE.seq (CE.region ?_)
 refine WL.det (op_assign rfl) rfl rfl rfl ?_
 refine WL.end (NE.code (CE.seq (CE.region ?_)))
 refine WL.det (op_move rfl) rfl rfl rfl ?_
 refine WL.det (op_len rfl Try.runUnderlying36) rfl rfl rfl ?_
 refine WL.det (op_assign rfl) rfl rfl rfl ?_
 refine WL.end (NE.code (CE.ret' ?_))
 refine XE.leave1 Try.results72 rfl ?_
 refine ⟨rfl, rfl⟩

theorem c_NewRingP (n : Nat) (h1 : 1 ≤ n) (h2 : n ≤ 1024) (w : World) : Cl Try.prog 77 #[vI ((n : Nat) : Int)] w fun v w' => ∃ (b' : Nat), v = .tuple #[.agg #[vS b' 0 n n, vI 0], vI 0] ∧ Row w' b' 0 (fl (List.replicate n 0)) ∧ w.heap.size ≤ b' ∧ Mod [] w w' := by
 refine Cl.of Try.func77 Try.ntmps77 rfl rfl (ρ := [(0, vI ((n : Nat) : Int))]) rfl ?_
 refine CE.seq (CE.region ?_)
 refine WL.op (op_alloc (cs := [.slice none 0 0, vI 0]) Try.zeroValue60 rfl) rfl rfl (ltb rfl) ?_
 rintro _ w1 ⟨rfl, r1, m1, z1⟩
 refine WL.det (op_assign rfl) rfl rfl rfl ?_
 refine WL.end (NE.code (CE.seq (CE.seq (CE.region ?_))))
 refine WL.det (op_move rfl) rfl rfl rfl ?_
 refine WL.call (oc_call (vs := [vI ((n : Nat) : Int), vI 1, vI 1024]) (cap := []) rfl rfl rfl Try.call62 (c_within ((n : Nat) : Int) (1 : Int) (1024 : Int) w1)) rfl rfl (ltb rfl) ?_
 rintro _ _ ⟨rfl, rfl⟩
 refine WL.det (op_not rfl) rfl rfl rfl ?_
 refine WL.end (NE.code ?_)
 refine CE.cond_f rfl (bnot_t ((vIn_t _ _ _).2 ⟨by omega, by omega⟩)) ?_
 refine CE.skip' (NE.code (CE.seq (CE.region ?_)))
 refine WL.det (op_move rfl) rfl rfl rfl ?_
 refine WL.op (op_makeF (i := Try.t27) rfl rfl rfl rfl Try.underlying26 rfl rfl rfl rfl (by first | omega | decide)) rfl rfl (ltb rfl) ?_
 rintro _ w2 ⟨rfl, r2, m2, z2⟩
 refine WL.det (op_build (qs := [(0, vS w1.heap.size 0 n n)]) (cells := #[vS w1.heap.size 0 n n, vI 0]) rfl (by kernel_rfl)) rfl rfl rfl ?_
 refine WL.op0 (op_store (i := 0) (cs := [vS w1.heap.size 0 n n, vI 0]) rfl rfl rfl Try.sizeOf60 rfl (r1.ext m2) rfl (lB rfl) rfl) rfl rfl ?_
 rintro _ w3 ⟨r3, m3, z3⟩
 have r4 : Row w3 w.heap.size 0 [vS w1.heap.size 0 n n, vI 0] := Row.congr r3 rfl
 refine WL.det (op_assign rfl) rfl rfl rfl ?_
 refine WL.end (NE.code (CE.ret' ?_))
 refine XE.leaveT Try.results77 (res_agg (cs := [vS w1.heap.size 0 n n, vI 0]) rfl Try.isAgg60 Try.sizeOf60 r4.rng rfl (res_tmp rfl res_nil)) ?_
 refine ⟨w1.heap.size, rfl, (r2.mod m3 (nC (lG (lL r1.lt lR)) nN)), (lT m1.size lR), ((((Mod.refl [] w).nt m1).nt m2).then m3 ((aC (.inr lR) aN)))⟩

theorem c_NewPipe2 (m : Nat) (n : Nat) (cl : Nat) (lb : Nat) (cs : Nat) (sb : Nat) (op : Bool) (kw : Nat) (lw : Nat) (h1m : 1 ≤ m) (h2m : m ≤ 1024) (h1n : 1 ≤ n) (h2n : n ≤ 1024) (lkw : kw < wid .f32) (llw : lw < wid .f32) (hk : (fGe .f32 kw 0 && fLt .f32 kw 1065353216) = true) (hl : (fGe .f32 lw 0 && fLe .f32 lw 1065353216) = true) (w : World) (rl : Rng w lb 0 [vI ((m : Nat) : Int), vI ((n : Nat) : Int)]) (rs : Rng w sb 0 [vF 0]) : Cl Try.prog 23 #[vS lb 0 2 cl, vS sb 0 1 cs, .bool op, vF kw, vF lw] w fun v w' => ∃ (bR' : Nat) (cR' : Nat) (bL' : Nat) (cL' : Nat) (bS' : Nat) (cS' : Nat) (r_ : Nat) (d0' : Nat) (d1' : Nat) (e0' : Nat) (e1' : Nat), v = .tuple #[.agg #[vS bR' 0 2 cR', vS bL' 0 2 cL', vS bS' 0 1 cS', vI 1, vF r_, vF kw, vF 0, vF 0, vF 0, .bool op, vF lw, vF 1061158912, vF 3200253952], vI 0] ∧ (cn .f32 r_ = cn .f32 (fop .sub .f32 1065353216 kw)) ∧ (r_ < wid .f32) ∧ Row w' bR' 0 [vS d0' 0 m m, vI 0, vS d1' 0 n n, vI 0] ∧ Row w' bL' 0 [vS e0' 0 m m, vI 0, vS e1' 0 n n, vI 0] ∧ Row w' bS' 0 [vF 0] ∧ Row w' d0' 0 (fl (List.replicate m 0)) ∧ Row w' d1' 0 (fl (List.replicate n 0)) ∧ Row w' e0' 0 (fl (List.replicate m 0)) ∧ Row w' e1' 0 (fl (List.replicate n 0)) ∧ w.heap.size ≤ bR' ∧ w.heap.size ≤ bL' ∧ w.heap.size ≤ bS' ∧ w.heap.size ≤ d0' ∧ w.heap.size ≤ d1' ∧ w.heap.size ≤ e0' ∧ w.heap.size ≤ e1' ∧ bR' ≠ bL' ∧ bR' ≠ bS' ∧ bL' ≠ bS' ∧ d0' ≠ bR' ∧ d0' ≠ bL' ∧ d0' ≠ bS' ∧ d1' ≠ bR' ∧ d1' ≠ bL' ∧ d1' ≠ bS' ∧ e0' ≠ bR' ∧ e0' ≠ bL' ∧ e0' ≠ bS' ∧ e1' ≠ bR' ∧ e1' ≠ bL' ∧ e1' ≠ bS' ∧ d0' ≠ e0' ∧ d0' ≠ e1' ∧ d1' ≠ e0' ∧ d1' ≠ e1' ∧ d0' ≠ d1' ∧ e0' ≠ e1' ∧ Mod [] w w' := by
 refine Cl.of Try.func23 Try.ntmps23 rfl rfl (ρ := [(0, vS lb 0 2 cl), (1, vS sb 0 1 cs), (2, .bool op), (3, vF kw), (4, vF lw)]) rfl ?_
 refine CE.seq (CE.region ?_)
 refine WL.op (op_alloc (cs := [.slice none 0 0, .slice none 0 0, .slice none 0 0, vI 0, vF 0, vF 0, vF 0, vF 0, vF 0, .bool false, vF 0, vF 0, vF 0]) Try.zeroValue33 rfl) rfl rfl (ltb rfl) ?_
 rintro _ w1 ⟨rfl, r1, m1, z1⟩
 refine WL.det (op_assign rfl) rfl rfl rfl ?_
 refine WL.end (NE.code (CE.seq (CE.region ?_)))
 refine WL.det (op_move rfl) rfl rfl rfl ?_
 refine WL.call (oc_call (vs := [vS lb 0 2 cl]) (cap := []) rfl rfl rfl Try.call72 (c_lengthI 2 cl (some ⟨lb, 0, none⟩) w1)) rfl rfl (ltb rfl) ?_
 rintro _ _ ⟨rfl, rfl⟩
 refine WL.call (oc_call (vs := [vI 2, vI 1, vI 3]) (cap := []) rfl rfl rfl Try.call62 (c_within (2 : Int) (1 : Int) (3 : Int) w1)) rfl rfl (ltb rfl) ?_
 rintro _ _ ⟨rfl, rfl⟩
 refine WL.det (op_move rfl) rfl rfl rfl ?_
 refine WL.yes rfl rfl rfl (ltb rfl) rfl (by decide +kernel) ?_
 refine WL.det (op_move rfl) rfl rfl rfl ?_
 refine WL.yes rfl rfl rfl (ltb rfl) rfl (by decide +kernel) ?_
 refine WL.det (op_len rfl Try.runUnderlying26) rfl rfl rfl ?_
 refine WL.yes rfl rfl rfl (ltb rfl) rfl (by decide +kernel) ?_
 refine WL.det (op_move rfl) rfl rfl rfl ?_
 refine WL.yes rfl rfl rfl (ltb rfl) rfl (by decide +kernel) ?_
 refine WL.det (op_len rfl Try.runUnderlying36) rfl rfl rfl ?_
 refine WL.yes rfl rfl rfl (ltb rfl) rfl (by decide +kernel) ?_
 refine WL.det (op_sub (r := 1) rfl rfl (by decide)) rfl rfl rfl ?_
 refine WL.yes rfl rfl rfl (ltb rfl) rfl (by decide +kernel) ?_
 refine WL.det (op_eqi rfl rfl) rfl rfl rfl ?_
 refine WL.det (op_pick_t rfl (by decide +kernel) rfl) rfl rfl rfl ?_
 refine WL.det (op_move rfl) rfl rfl rfl ?_
 refine WL.yes rfl rfl rfl (ltb rfl) rfl rfl ?_
 refine WL.det (op_move rfl) rfl rfl rfl ?_
 refine WL.yes rfl rfl rfl (ltb rfl) rfl rfl ?_
 refine WL.call (oc_call (vs := [vF kw]) (cap := []) rfl rfl rfl Try.call73 (c_isKeepP kw w1)) rfl rfl (ltb rfl) ?_
 rintro _ w2 ⟨rfl, m2⟩
 refine WL.det (op_pick_t rfl rfl rfl) rfl rfl rfl ?_
 refine WL.det (op_move rfl) rfl rfl rfl ?_
 refine WL.yes rfl rfl rfl (ltb rfl) rfl hk ?_
 refine WL.det (op_move rfl) rfl rfl rfl ?_
 refine WL.yes rfl rfl rfl (ltb rfl) rfl hk ?_
 refine WL.call (oc_call (vs := [vF lw, vF 0, vF 1065353216]) (cap := []) rfl rfl rfl Try.call74 (c_insideP lw 0 1065353216 w2)) rfl rfl (ltb rfl) ?_
 rintro _ _ ⟨rfl, rfl⟩
 refine WL.det (op_pick_t rfl hk rfl) rfl rfl rfl ?_
 refine WL.det (op_assign rfl) rfl rfl rfl ?_
 refine WL.end (NE.code (CE.seq (CE.seq (CE.region ?_))))
 refine WL.det (op_move rfl) rfl rfl rfl ?_
 refine WL.det (op_len rfl Try.runUnderlying26) rfl rfl rfl ?_
 refine WL.det (op_move rfl) rfl rfl rfl ?_
 refine WL.end (NE.code (CE.block ?_))
 refine CE.rounds 2 ?_
 refine RN.one (CE.seq (CE.region ?_))
 refine WL.det (op_lti rfl rfl) rfl rfl rfl ?_
 refine WL.end (NE.code (CE.seq ?_))
 refine CE.cond_t rfl rfl ?_
 refine CE.skip' (NE.code (CE.seq (CE.block (CE.seq (CE.region ?_)))))
 refine WL.det (op_indexSl (off' := 0) rfl rfl rfl Try.runUnderlying26 Try.sizeOf27 (by omega) (by omega) rfl) rfl rfl rfl ?_
 refine WL.det (op_load1 (i := 0) rfl Try.isAgg27 ((rs.ext m1).ext m2) rfl rfl) rfl rfl rfl ?_
 refine WL.det (op_assign rfl) rfl rfl rfl ?_
 refine WL.end (NE.code (CE.region ?_))
 iterate 2 refine WL.det (op_move rfl) rfl rfl rfl ?_
 refine WL.yes rfl rfl rfl (ltb rfl) rfl hl ?_
 refine WL.det (op_move rfl) rfl rfl rfl ?_
 refine WL.yes rfl rfl rfl (ltb rfl) rfl hl ?_
 refine WL.call (oc_call (vs := [vF 0, vF 3212836864, vF 1065353216]) (cap := []) rfl rfl rfl Try.call74 (c_insideP 0 3212836864 1065353216 w2)) rfl rfl (ltb rfl) ?_
 rintro _ _ ⟨rfl, rfl⟩
 refine WL.det (op_pick_t rfl hl rfl) rfl rfl rfl ?_
 refine WL.det (op_assign rfl) rfl rfl rfl ?_
 refine WL.end (NE.blk (NE.code (CE.region ?_)))
 refine WL.det (op_add (r := 1) rfl rfl (by decide)) rfl rfl rfl ?_
 refine WL.det (op_move rfl) rfl rfl rfl ?_
 refine WL.end (NE.round (RN.one (CE.seq (CE.region ?_))))
 refine WL.det (op_lti rfl rfl) rfl rfl rfl ?_
 refine WL.end (NE.code (CE.seq ?_))
 refine CE.cond_f rfl rfl ?_
 refine CE.exit' (XE.exit_then (XE.exit_then (XE.exit_here (NE.code (CE.seq (CE.region ?_))))))
 refine WL.det (op_move rfl) rfl rfl rfl ?_
 refine WL.call (oc_call (vs := [vS sb 0 1 cs]) (cap := []) rfl rfl rfl Try.call75 (c_Clone32 1 cs sb [0] rfl (by omega) (by omega) w2 ((rs.ext m1).ext m2))) rfl rfl (ltb rfl) ?_
 rintro _ w3 ⟨b'1, c'1, rfl, r2, ge1, m3⟩
 refine WL.det (op_move rfl) rfl rfl rfl ?_
 refine WL.call (oc_call (vs := [vF kw]) (cap := []) rfl rfl rfl Try.call76 (c_OnePoleP kw lkw w3)) rfl rfl (ltb rfl) ?_
 rintro _ w4 ⟨r_1, rfl, h1, h2, m4⟩
 iterate 2 refine WL.det (op_move rfl) rfl rfl rfl ?_
 refine WL.det (op_build (qs := [(2, vS b'1 0 1 c'1), (3, .agg #[vI 1, vF r_1, vF kw, vF 0, vF 0, vF 0]), (4, .bool op), (5, vF lw), (6, vF 1061158912), (7, vF 3200253952)]) (cells := #[.slice none 0 0, .slice none 0 0, vS b'1 0 1 c'1, vI 1, vF r_1, vF kw, vF 0, vF 0, vF 0, .bool op, vF lw, vF 1061158912, vF 3200253952]) rfl (by kernel_rfl)) rfl rfl rfl ?_
 refine WL.op (op_alloc (cs := [.slice none 0 0, .slice none 0 0, .slice none 0 0, vI 0, vF 0, vF 0, vF 0, vF 0, vF 0, .bool false, vF 0, vF 0, vF 0]) Try.zeroValue33 rfl) rfl rfl (ltb rfl) ?_
 rintro _ w5 ⟨rfl, r3, m5, z2⟩
 refine WL.op0 (op_store (i := 0) (cs := [.slice none 0 0, .slice none 0 0, vS b'1 0 1 c'1, vI 1, vF r_1, vF kw, vF 0, vF 0, vF 0, .bool op, vF lw, vF 1061158912, vF 3200253952]) rfl rfl rfl Try.sizeOf33 rfl r3 rfl (lB rfl) rfl) rfl rfl ?_
 rintro _ w6 ⟨r4, m6, z3⟩
 have r5 : Row w6 w4.heap.size 0 [.slice none 0 0, .slice none 0 0, vS b'1 0 1 c'1, vI 1, vF r_1, vF kw, vF 0, vF 0, vF 0, .bool op, vF lw, vF 1061158912, vF 3200253952] := Row.congr r4 rfl
 refine WL.end (NE.code (CE.seq (CE.seq (CE.region ?_))))
 refine WL.det (op_move rfl) rfl rfl rfl ?_
 refine WL.det (op_len rfl Try.runUnderlying36) rfl rfl rfl ?_
 refine WL.det (op_move rfl) rfl rfl rfl ?_
 refine WL.end (NE.code (CE.block ?_))
 refine CE.rounds 3 ?_
 refine RN.one (CE.seq (CE.region ?_))
 refine WL.det (op_lti rfl rfl) rfl rfl rfl ?_
 refine WL.end (NE.code (CE.seq ?_))
 refine CE.cond_t rfl rfl ?_
 refine CE.skip' (NE.code (CE.seq (CE.block (CE.seq (CE.region ?_)))))
 refine WL.det (op_indexSl (off' := 0) rfl rfl rfl Try.runUnderlying36 Try.sizeOf2 (by omega) (by omega) rfl) rfl rfl rfl ?_
 have sz1 := (lT (lT (lT m1.size m2.size) m3.size) m4.size)
 have r6 := (Rng.youngS rl (((((rl.ext m1).ext m2).ext m3).ext m4).ext m5) m6 (allge_cons (lT sz1 lR) allge_nil))
 refine WL.det (op_load1 (i := 0) rfl Try.isAgg2 r6 rfl rfl) rfl rfl rfl ?_
 refine WL.det (op_assign rfl) rfl rfl rfl ?_
 refine WL.end (NE.code (CE.seq (CE.seq (CE.region ?_))))
 refine WL.det (op_move rfl) rfl rfl rfl ?_
 refine WL.det (op_not rfl) rfl rfl rfl ?_
 refine WL.det (op_move rfl) rfl rfl rfl ?_
 refine WL.yes rfl rfl rfl (ltb rfl) rfl (bnot_t (by decide +kernel)) ?_
 refine WL.det (op_move rfl) rfl rfl rfl ?_
 refine WL.yes rfl rfl rfl (ltb rfl) rfl (bnot_t (by decide +kernel)) ?_
 refine WL.call (oc_call (vs := [vI ((m : Nat) : Int), vI 1, vI 1024]) (cap := []) rfl rfl rfl Try.call62 (c_within ((m : Nat) : Int) (1 : Int) (1024 : Int) w6)) rfl rfl (ltb rfl) ?_
 rintro _ _ ⟨rfl, rfl⟩
 refine WL.yes rfl rfl rfl (ltb rfl) rfl (bnot_t (by decide +kernel)) ?_
 refine WL.det (op_not rfl) rfl rfl rfl ?_
 refine WL.det (op_pick_f rfl (bnot_t (by decide +kernel)) rfl) rfl rfl rfl ?_
 refine WL.end (NE.code ?_)
 refine CE.cond_f rfl (bnot_t ((vIn_t _ _ _).2 ⟨by omega, by omega⟩)) ?_
 refine CE.skip' (NE.code (CE.seq (CE.region ?_)))
 refine WL.det (op_move rfl) rfl rfl rfl ?_
 refine WL.call (oc_call (vs := [vI ((m : Nat) : Int)]) (cap := []) rfl rfl rfl Try.call77 (c_NewRingP m (by omega) (by omega) w6)) rfl rfl (ltb rfl) ?_
 rintro _ w7 ⟨b'2, rfl, r7, ge2, m7⟩
 refine WL.det (op_move rfl) rfl rfl rfl ?_
 iterate 2 refine WL.det (op_extract rfl rfl) rfl rfl rfl ?_
 refine WL.op (op_alloc (cs := [.slice none 0 0, vI 0]) Try.zeroValue60 rfl) rfl rfl (ltb rfl) ?_
 rintro _ w8 ⟨rfl, r8, m8, z4⟩
 refine WL.op0 (op_store (i := 0) (cs := [vS b'2 0 m m, vI 0]) rfl rfl rfl Try.sizeOf60 rfl r8 rfl (lB rfl) rfl) rfl rfl ?_
 rintro _ w9 ⟨r9, m9, z5⟩
 have r10 : Row w9 w7.heap.size 0 [vS b'2 0 m m, vI 0] := Row.congr r9 rfl
 refine WL.det (op_assign rfl) rfl rfl rfl ?_
 refine WL.end (NE.code (CE.seq (CE.region ?_)))
 refine WL.det (op_move rfl) rfl rfl rfl ?_
 refine WL.call (oc_call (vs := [vI ((m : Nat) : Int)]) (cap := []) rfl rfl rfl Try.call77 (c_NewRingP m (by omega) (by omega) w9)) rfl rfl (ltb rfl) ?_
 rintro _ w10 ⟨b'3, rfl, r11, ge3, m10⟩
 refine WL.det (op_move rfl) rfl rfl rfl ?_
 iterate 2 refine WL.det (op_extract rfl rfl) rfl rfl rfl ?_
 refine WL.op (op_alloc (cs := [.slice none 0 0, vI 0]) Try.zeroValue60 rfl) rfl rfl (ltb rfl) ?_
 rintro _ w11 ⟨rfl, r12, m11, z6⟩
 refine WL.op0 (op_store (i := 0) (cs := [vS b'3 0 m m, vI 0]) rfl rfl rfl Try.sizeOf60 rfl r12 rfl (lB rfl) rfl) rfl rfl ?_
 rintro _ w12 ⟨r13, m12, z7⟩
 have r14 : Row w12 w10.heap.size 0 [vS b'3 0 m m, vI 0] := Row.congr r13 rfl
 refine WL.det (op_assign rfl) rfl rfl rfl ?_
 refine WL.end (NE.code ?_)
 refine CE.drawF (fun _ => none) [0, 1, 2, 3, 4, 5, 6, 7, 8, 9, 10] [11, 12, 13] [] (fun ρ W => ∃ (e1_3_0 : Nat) (e1_4_0 : Nat) (e1_4_1 : Nat) (e1_8_0 : Nat) (e1_9_0 : Nat) (e1_9_1 : Nat), ρ = [(10, vP w.heap.size 0), (11, vI 0), (12, .bool (fGe .f32 0 3212836864 && fLe .f32 0 1065353216)), (15, vP w4.heap.size 0), (17, vI ((m : Nat) : Int)), (18, vP w7.heap.size 0), (20, vP w10.heap.size 0), (60, vS lb 0 2 cl), (61, vI 2), (62, vI 0), (63, .bool true), (64, vP lb 0), (65, vI ((m : Nat) : Int)), (66, .bool (fGe .f32 0 3212836864 && fLe .f32 0 1065353216)), (67, .bool (!(fGe .f32 0 3212836864 && fLe .f32 0 1065353216))), (68, .bool (!(fGe .f32 0 3212836864 && fLe .f32 0 1065353216))), (69, vI ((m : Nat) : Int)), (70, .bool (vIn ((m : Nat) : Int) (1 : Int) (1024 : Int))), (71, .bool (!(vIn ((m : Nat) : Int) (1 : Int) (1024 : Int)))), (72, .bool (!(vIn ((m : Nat) : Int) (1 : Int) (1024 : Int)))), (74, .tuple #[.agg #[vS b'2 0 m m, vI 0], vI 0]), (75, vI ((m : Nat) : Int)), (76, .tuple #[.agg #[vS b'2 0 m m, vI 0], vI 0]), (77, .agg #[vS b'2 0 m m, vI 0]), (78, vI 0), (79, .tuple #[.agg #[vS b'3 0 m m, vI 0], vI 0]), (80, vI ((m : Nat) : Int)), (81, .tuple #[.agg #[vS b'3 0 m m, vI 0], vI 0]), (82, .agg #[vS b'3 0 m m, vI 0]), (83, vI 0), (84, vP w4.heap.size 0), (85, .slice none 0 0), (86, .agg #[vS b'2 0 m m, vI 0]), (87, vS e1_3_0 0 1 1), (88, vS e1_4_0 0 1 e1_4_1), (89, vP w4.heap.size 1), (90, .slice none 0 0), (91, .agg #[vS b'3 0 m m, vI 0]), (92, vS e1_8_0 0 1 1), (93, vS e1_9_0 0 1 e1_9_1), (94, vP w4.heap.size 0)] ∧ Row W e1_3_0 0 [vS b'2 0 m m, vI 0] ∧ Row W e1_4_0 0 [vS b'2 0 m m, vI 0] ∧ Row W e1_8_0 0 [vS b'3 0 m m, vI 0] ∧ Row W e1_9_0 0 [vS b'3 0 m m, vI 0] ∧ w12.heap.size ≤ e1_3_0 ∧ w12.heap.size ≤ e1_4_0 ∧ w12.heap.size ≤ e1_8_0 ∧ w12.heap.size ≤ e1_9_0 ∧ e1_3_0 ≠ e1_4_0 ∧ e1_3_0 ≠ e1_8_0 ∧ e1_3_0 ≠ e1_9_0 ∧ e1_4_0 ≠ e1_8_0 ∧ e1_4_0 ≠ e1_9_0 ∧ e1_8_0 ≠ e1_9_0 ∧ Own 60 2 w12.heap.size W (some ⟨e1_4_0, 0, none⟩) 1 e1_4_1 [vS b'2 0 m m, vI 0] ∧ Own 60 2 w12.heap.size W (some ⟨e1_9_0, 0, none⟩) 1 e1_9_1 [vS b'3 0 m m, vI 0] ∧ Mod [] w12 W) (by kernel_rfl) (by kernel_rfl) ?_ ?_
 have md1 : Mod [] w12 w12.drew := (Mod.refl _ _).drew
 generalize w12.drew = w13 at md1 ⊢
 ·refine DR.det (i := 0) rfl rfl (by kernel_rfl) (.free rfl) rfl rfl (fun wD mD => op_fieldAddr (off' := 0) rfl Try.runUnderlying33 rfl rfl Try.sizeOf25 rfl) ?_
  refine DR.det (i := 1) rfl rfl (by kernel_rfl) (.free rfl) rfl rfl (fun wD mD => op_load1 (i := 0) rfl Try.isAgg25 ((((((((r5.ext m7).ext m8).mod m9 (nC (lE (lL (lL r3.lt (lT m6.size m7.size)) lR)) nN)).ext m10).ext m11).mod m12 (nC (lE (lL (lL r3.lt (lT (lT (lT (lT m6.size m7.size) m8.size) m9.size) m10.size)) lR)) nN)).ext md1).ext mD).rng rfl rfl) ?_
  refine DR.det (i := 2) rfl rfl (by kernel_rfl) (.free rfl) rfl rfl (fun wD mD => op_loadA (i := 0) (cs := [vS b'2 0 m m, vI 0]) rfl Try.isAgg60 Try.sizeOf60 (((((r10.ext m10).ext m11).mod m12 (nC (lE (lL (lL r8.lt (lT m9.size m10.size)) lR)) nN)).ext md1).ext mD).rng rfl rfl rfl) ?_
  refine DR.det (i := 5) rfl rfl (by kernel_rfl) (.free rfl) rfl rfl (fun wD mD => op_fieldAddr (off' := 1) rfl Try.runUnderlying33 rfl rfl Try.sizeOf25 rfl) ?_
  refine DR.det (i := 6) rfl rfl (by kernel_rfl) (.free rfl) rfl rfl (fun wD mD => op_load1 (i := 1) rfl Try.isAgg25 ((((((((r5.ext m7).ext m8).mod m9 (nC (lE (lL (lL r3.lt (lT m6.size m7.size)) lR)) nN)).ext m10).ext m11).mod m12 (nC (lE (lL (lL r3.lt (lT (lT (lT (lT m6.size m7.size) m8.size) m9.size) m10.size)) lR)) nN)).ext md1).ext mD).rng rfl rfl) ?_
  refine DR.det (i := 7) rfl rfl (by kernel_rfl) (.free rfl) rfl rfl (fun wD mD => op_loadA (i := 0) (cs := [vS b'3 0 m m, vI 0]) rfl Try.isAgg60 Try.sizeOf60 ((r14.ext md1).ext mD).rng rfl rfl rfl) ?_
  refine DR.fork (is := [3, 8]) (by kernel_rfl) (by decide) (all2 ?_ ?_)
  ·refine DP.op (i := 3) rfl rfl (.free rfl) rfl (ltb rfl) ?_
   intro w14 m13
   refine Op1.mono (op_buildSl (qs := [(0, .agg #[vS b'2 0 m m, vI 0])]) (cells := #[vS b'2 0 m m, vI 0]) rfl Try.runUnderlying25 Try.sizeOf60 Try.zeroValue60 (by decide) (by decide) (by kernel_rfl)) ?_
   rintro _ w15 ⟨rfl, r15, m14, z8⟩
   refine ⟨(((Mod.refl [] w13).nt m13).nt m14), ?_⟩
   refine DR.rebase ?_
   refine DR.fork (is := [4, 8]) (by kernel_rfl) (by decide) (all2 ?_ ?_)
   ·refine DP.op (i := 4) rfl rfl (.free rfl) rfl (ltb rfl) ?_
    intro w16 m15
    refine Op1.mono (op_app0 (i := Try.t60) (m := 2) (bt := 32) (news := [vS b'2 0 m m, vI 0]) (q := 0) (.inl rfl) rfl rfl Try.underlying25 rfl rfl rfl rfl rfl (by decide) (r15.ext m15).rng rfl rfl (by omega) (by decide)) ?_
    rintro _ w17 ⟨b1, c1, rfl, ow1, ge4, m16⟩
    have r16 : Row w17 b1 0 [vS b'2 0 m m, vI 0] := (Own.row1 ow1).1
    refine ⟨(((Mod.refl [] w15).nt m15).nt m16), ?_⟩
    refine DR.rebase ?_
    refine DR.det (i := 10) rfl rfl (by kernel_rfl) (.free rfl) rfl rfl (fun wD mD => op_fieldAddr (off' := 0) rfl Try.runUnderlying33 rfl rfl Try.sizeOf25 rfl) ?_
    refine DR.one1 (i := 8) rfl rfl (by kernel_rfl) (.free rfl) rfl (ltb rfl) ?_
    intro w18 m17
    refine Op1.mono (op_buildSl (qs := [(0, .agg #[vS b'3 0 m m, vI 0])]) (cells := #[vS b'3 0 m m, vI 0]) rfl Try.runUnderlying25 Try.sizeOf60 Try.zeroValue60 (by decide) (by decide) (by kernel_rfl)) ?_
    rintro _ w19 ⟨rfl, r17, m18, z9⟩
    refine ⟨(((Mod.refl [] w17).nt m17).nt m18), ?_⟩
    refine DR.rebase ?_
    refine DR.one1 (i := 9) rfl rfl (by kernel_rfl) (.free rfl) rfl (ltb rfl) ?_
    intro w20 m19
    refine Op1.mono (op_app0 (i := Try.t60) (m := 2) (bt := 32) (news := [vS b'3 0 m m, vI 0]) (q := 0) (.inl rfl) rfl rfl Try.underlying25 rfl rfl rfl rfl rfl (by decide) (r17.ext m19).rng rfl rfl (by omega) (by decide)) ?_
    rintro _ w21 ⟨b2, c2, rfl, ow2, ge5, m20⟩
    have r18 : Row w21 b2 0 [vS b'3 0 m m, vI 0] := (Own.row1 ow2).1
    refine ⟨(((Mod.refl [] w19).nt m19).nt m20), ?_⟩
    refine DR.sub [(10, vP w.heap.size 0), (11, vI 0), (12, .bool (fGe .f32 0 3212836864 && fLe .f32 0 1065353216)), (15, vP w4.heap.size 0), (17, vI ((m : Nat) : Int)), (18, vP w7.heap.size 0), (20, vP w10.heap.size 0), (60, vS lb 0 2 cl), (61, vI 2), (62, vI 0), (63, .bool true), (64, vP lb 0), (65, vI ((m : Nat) : Int)), (66, .bool (fGe .f32 0 3212836864 && fLe .f32 0 1065353216)), (67, .bool (!(fGe .f32 0 3212836864 && fLe .f32 0 1065353216))), (68, .bool (!(fGe .f32 0 3212836864 && fLe .f32 0 1065353216))), (69, vI ((m : Nat) : Int)), (70, .bool (vIn ((m : Nat) : Int) (1 : Int) (1024 : Int))), (71, .bool (!(vIn ((m : Nat) : Int) (1 : Int) (1024 : Int)))), (72, .bool (!(vIn ((m : Nat) : Int) (1 : Int) (1024 : Int)))), (74, .tuple #[.agg #[vS b'2 0 m m, vI 0], vI 0]), (75, vI ((m : Nat) : Int)), (76, .tuple #[.agg #[vS b'2 0 m m, vI 0], vI 0]), (77, .agg #[vS b'2 0 m m, vI 0]), (78, vI 0), (79, .tuple #[.agg #[vS b'3 0 m m, vI 0], vI 0]), (80, vI ((m : Nat) : Int)), (81, .tuple #[.agg #[vS b'3 0 m m, vI 0], vI 0]), (82, .agg #[vS b'3 0 m m, vI 0]), (83, vI 0), (84, vP w4.heap.size 0), (85, .slice none 0 0), (86, .agg #[vS b'2 0 m m, vI 0]), (87, vS w14.heap.size 0 1 1), (88, vS b1 0 1 c1), (89, vP w4.heap.size 1), (90, .slice none 0 0), (91, .agg #[vS b'3 0 m m, vI 0]), (92, vS w18.heap.size 0 1 1), (93, vS b2 0 1 c2), (94, vP w4.heap.size 0)] ⟨rfl, rfl, rfl, rfl, rfl, rfl, rfl, rfl, rfl, rfl, rfl, rfl, rfl, rfl, rfl, rfl, rfl, rfl, rfl, rfl, rfl, rfl, rfl, rfl, rfl, rfl, rfl, rfl, rfl, rfl, rfl, rfl, rfl, rfl, rfl, rfl, rfl, rfl, rfl, rfl, rfl, trivial⟩ ?_
    refine DR.meet rfl ?_
    intro w22 m21
    have r19 := (((((((r15.ext m15).ext m16).ext m17).ext m18).ext m19).ext m20).ext m21)
    have r20 := (((((r16.ext m17).ext m18).ext m19).ext m20).ext m21)
    have r21 := (((r17.ext m19).ext m20).ext m21)
    have sz2 := (lT (lT (lT md1.size m13.size) m14.size) m15.size)
    have sz3 := (lT (lT sz2 m16.size) m17.size)
    have sz4 := (lT (lT sz3 m18.size) m19.size)
    have sz5 := (lT (lT m15.size m16.size) m17.size)
    have sz6 := (lT (lT sz5 m18.size) m19.size)
    have sz7 := (lT (lT m17.size m18.size) m19.size)
    exact ⟨w14.heap.size, b1, c1, w18.heap.size, b2, c2, rfl, r19, r20, r21, (r18.ext m21), (lT (lT md1.size m13.size) lR), (lT sz2 ge4), (lT sz3 lR), (lT sz4 ge5), (lE (lL (lL r15.lt m15.size) ge4)), (lE (lL (lL r15.lt sz5) lR)), (lE (lL (lL r15.lt sz6) ge5)), (lE (lL (lL r16.lt m17.size) lR)), (lE (lL (lL r16.lt sz7) ge5)), (lE (lL (lL r17.lt m19.size) ge5)), (Own.low (Own.modb (Own.modb (Own.modb (Own.modb (Own.modb ow1 m17 nN) m18 nN) m19 nN) m20 nN) m21 nN) sz2), (Own.low (Own.modb ow2 m21 nN) sz4), (((((((((((Mod.refl [] w12).nt md1).nt m13).nt m14).nt m15).nt m16).nt m17).nt m18).nt m19).nt m20).nt m21)⟩
   ·refine DP.op (i := 8) rfl rfl (.free rfl) rfl (ltb rfl) ?_
    intro w23 m22
    refine Op1.mono (op_buildSl (qs := [(0, .agg #[vS b'3 0 m m, vI 0])]) (cells := #[vS b'3 0 m m, vI 0]) rfl Try.runUnderlying25 Try.sizeOf60 Try.zeroValue60 (by decide) (by decide) (by kernel_rfl)) ?_
    rintro _ w24 ⟨rfl, r22, m23, z10⟩
    refine ⟨(((Mod.refl [] w15).nt m22).nt m23), ?_⟩
    refine DR.rebase ?_
    refine DR.one1 (i := 4) rfl rfl (by kernel_rfl) (.free rfl) rfl (ltb rfl) ?_
    intro w25 m24
    refine Op1.mono (op_app0 (i := Try.t60) (m := 2) (bt := 32) (news := [vS b'2 0 m m, vI 0]) (q := 0) (.inl rfl) rfl rfl Try.underlying25 rfl rfl rfl rfl rfl (by decide) (((r15.ext m22).ext m23).ext m24).rng rfl rfl (by omega) (by decide)) ?_
    rintro _ w26 ⟨b3, c3, rfl, ow3, ge6, m25⟩
    have r23 : Row w26 b3 0 [vS b'2 0 m m, vI 0] := (Own.row1 ow3).1
    refine ⟨(((Mod.refl [] w24).nt m24).nt m25), ?_⟩
    refine DR.rebase ?_
    refine DR.det (i := 10) rfl rfl (by kernel_rfl) (.free rfl) rfl rfl (fun wD mD => op_fieldAddr (off' := 0) rfl Try.runUnderlying33 rfl rfl Try.sizeOf25 rfl) ?_
    refine DR.one1 (i := 9) rfl rfl (by kernel_rfl) (.free rfl) rfl (ltb rfl) ?_
    intro w27 m26
    refine Op1.mono (op_app0 (i := Try.t60) (m := 2) (bt := 32) (news := [vS b'3 0 m m, vI 0]) (q := 0) (.inl rfl) rfl rfl Try.underlying25 rfl rfl rfl rfl rfl (by decide) (((r22.ext m24).ext m25).ext m26).rng rfl rfl (by omega) (by decide)) ?_
    rintro _ w28 ⟨b4, c4, rfl, ow4, ge7, m27⟩
    have r24 : Row w28 b4 0 [vS b'3 0 m m, vI 0] := (Own.row1 ow4).1
    refine ⟨(((Mod.refl [] w26).nt m26).nt m27), ?_⟩
    refine DR.sub [(10, vP w.heap.size 0), (11, vI 0), (12, .bool (fGe .f32 0 3212836864 && fLe .f32 0 1065353216)), (15, vP w4.heap.size 0), (17, vI ((m : Nat) : Int)), (18, vP w7.heap.size 0), (20, vP w10.heap.size 0), (60, vS lb 0 2 cl), (61, vI 2), (62, vI 0), (63, .bool true), (64, vP lb 0), (65, vI ((m : Nat) : Int)), (66, .bool (fGe .f32 0 3212836864 && fLe .f32 0 1065353216)), (67, .bool (!(fGe .f32 0 3212836864 && fLe .f32 0 1065353216))), (68, .bool (!(fGe .f32 0 3212836864 && fLe .f32 0 1065353216))), (69, vI ((m : Nat) : Int)), (70, .bool (vIn ((m : Nat) : Int) (1 : Int) (1024 : Int))), (71, .bool (!(vIn ((m : Nat) : Int) (1 : Int) (1024 : Int)))), (72, .bool (!(vIn ((m : Nat) : Int) (1 : Int) (1024 : Int)))), (74, .tuple #[.agg #[vS b'2 0 m m, vI 0], vI 0]), (75, vI ((m : Nat) : Int)), (76, .tuple #[.agg #[vS b'2 0 m m, vI 0], vI 0]), (77, .agg #[vS b'2 0 m m, vI 0]), (78, vI 0), (79, .tuple #[.agg #[vS b'3 0 m m, vI 0], vI 0]), (80, vI ((m : Nat) : Int)), (81, .tuple #[.agg #[vS b'3 0 m m, vI 0], vI 0]), (82, .agg #[vS b'3 0 m m, vI 0]), (83, vI 0), (84, vP w4.heap.size 0), (85, .slice none 0 0), (86, .agg #[vS b'2 0 m m, vI 0]), (87, vS w14.heap.size 0 1 1), (88, vS b3 0 1 c3), (89, vP w4.heap.size 1), (90, .slice none 0 0), (91, .agg #[vS b'3 0 m m, vI 0]), (92, vS w23.heap.size 0 1 1), (93, vS b4 0 1 c4), (94, vP w4.heap.size 0)] ⟨rfl, rfl, rfl, rfl, rfl, rfl, rfl, rfl, rfl, rfl, rfl, rfl, rfl, rfl, rfl, rfl, rfl, rfl, rfl, rfl, rfl, rfl, rfl, rfl, rfl, rfl, rfl, rfl, rfl, rfl, rfl, rfl, rfl, rfl, rfl, rfl, rfl, rfl, rfl, rfl, rfl, trivial⟩ ?_
    refine DR.meet rfl ?_
    intro w29 m28
    have r25 := (((((((r15.ext m22).ext m23).ext m24).ext m25).ext m26).ext m27).ext m28)
    have r26 := (((r23.ext m26).ext m27).ext m28)
    have r27 := (((((r22.ext m24).ext m25).ext m26).ext m27).ext m28)
    have sz8 := (lT (lT (lT (lT (lT md1.size m13.size) m14.size) m22.size) m23.size) m24.size)
    have sz9 := (lT (lT (lT md1.size m13.size) m14.size) m22.size)
    have sz10 := (lT (lT sz8 m25.size) m26.size)
    have sz11 := (lT (lT m22.size m23.size) m24.size)
    have sz12 := (lT (lT sz11 m25.size) m26.size)
    have sz13 := (lT (lT m24.size m25.size) m26.size)
    exact ⟨w14.heap.size, b3, c3, w23.heap.size, b4, c4, rfl, r25, r26, r27, (r24.ext m28), (lT (lT md1.size m13.size) lR), (lT sz8 ge6), (lT sz9 lR), (lT sz10 ge7), (lE (lL (lL r15.lt sz11) ge6)), (lE (lL (lL r15.lt m22.size) lR)), (lE (lL (lL r15.lt sz12) ge7)), (lG (lL (lL r22.lt m24.size) ge6)), (lE (lL (lL r23.lt m26.size) ge7)), (lE (lL (lL r22.lt sz13) ge7)), (Own.low (Own.modb (Own.modb (Own.modb ow3 m26 nN) m27 nN) m28 nN) sz8), (Own.low (Own.modb ow4 m28 nN) sz10), (((((((((((Mod.refl [] w12).nt md1).nt m13).nt m14).nt m22).nt m23).nt m24).nt m25).nt m26).nt m27).nt m28)⟩
  ·refine DP.op (i := 8) rfl rfl (.free rfl) rfl (ltb rfl) ?_
   intro w30 m29
   refine Op1.mono (op_buildSl (qs := [(0, .agg #[vS b'3 0 m m, vI 0])]) (cells := #[vS b'3 0 m m, vI 0]) rfl Try.runUnderlying25 Try.sizeOf60 Try.zeroValue60 (by decide) (by decide) (by kernel_rfl)) ?_
   rintro _ w31 ⟨rfl, r28, m30, z11⟩
   refine ⟨(((Mod.refl [] w13).nt m29).nt m30), ?_⟩
   refine DR.rebase ?_
   refine DR.one1 (i := 3) rfl rfl (by kernel_rfl) (.free rfl) rfl (ltb rfl) ?_
   intro w32 m31
   refine Op1.mono (op_buildSl (qs := [(0, .agg #[vS b'2 0 m m, vI 0])]) (cells := #[vS b'2 0 m m, vI 0]) rfl Try.runUnderlying25 Try.sizeOf60 Try.zeroValue60 (by decide) (by decide) (by kernel_rfl)) ?_
   rintro _ w33 ⟨rfl, r29, m32, z12⟩
   refine ⟨(((Mod.refl [] w31).nt m31).nt m32), ?_⟩
   refine DR.rebase ?_
   refine DR.one1 (i := 4) rfl rfl (by kernel_rfl) (.free rfl) rfl (ltb rfl) ?_
   intro w34 m33
   refine Op1.mono (op_app0 (i := Try.t60) (m := 2) (bt := 32) (news := [vS b'2 0 m m, vI 0]) (q := 0) (.inl rfl) rfl rfl Try.underlying25 rfl rfl rfl rfl rfl (by decide) (r29.ext m33).rng rfl rfl (by omega) (by decide)) ?_
   rintro _ w35 ⟨b5, c5, rfl, ow5, ge8, m34⟩
   have r30 : Row w35 b5 0 [vS b'2 0 m m, vI 0] := (Own.row1 ow5).1
   refine ⟨(((Mod.refl [] w33).nt m33).nt m34), ?_⟩
   refine DR.rebase ?_
   refine DR.det (i := 10) rfl rfl (by kernel_rfl) (.free rfl) rfl rfl (fun wD mD => op_fieldAddr (off' := 0) rfl Try.runUnderlying33 rfl rfl Try.sizeOf25 rfl) ?_
   refine DR.one1 (i := 9) rfl rfl (by kernel_rfl) (.free rfl) rfl (ltb rfl) ?_
   intro w36 m35
   refine Op1.mono (op_app0 (i := Try.t60) (m := 2) (bt := 32) (news := [vS b'3 0 m m, vI 0]) (q := 0) (.inl rfl) rfl rfl Try.underlying25 rfl rfl rfl rfl rfl (by decide) (((((r28.ext m31).ext m32).ext m33).ext m34).ext m35).rng rfl rfl (by omega) (by decide)) ?_
   rintro _ w37 ⟨b6, c6, rfl, ow6, ge9, m36⟩
   have r31 : Row w37 b6 0 [vS b'3 0 m m, vI 0] := (Own.row1 ow6).1
   refine ⟨(((Mod.refl [] w35).nt m35).nt m36), ?_⟩
   refine DR.sub [(10, vP w.heap.size 0), (11, vI 0), (12, .bool (fGe .f32 0 3212836864 && fLe .f32 0 1065353216)), (15, vP w4.heap.size 0), (17, vI ((m : Nat) : Int)), (18, vP w7.heap.size 0), (20, vP w10.heap.size 0), (60, vS lb 0 2 cl), (61, vI 2), (62, vI 0), (63, .bool true), (64, vP lb 0), (65, vI ((m : Nat) : Int)), (66, .bool (fGe .f32 0 3212836864 && fLe .f32 0 1065353216)), (67, .bool (!(fGe .f32 0 3212836864 && fLe .f32 0 1065353216))), (68, .bool (!(fGe .f32 0 3212836864 && fLe .f32 0 1065353216))), (69, vI ((m : Nat) : Int)), (70, .bool (vIn ((m : Nat) : Int) (1 : Int) (1024 : Int))), (71, .bool (!(vIn ((m : Nat) : Int) (1 : Int) (1024 : Int)))), (72, .bool (!(vIn ((m : Nat) : Int) (1 : Int) (1024 : Int)))), (74, .tuple #[.agg #[vS b'2 0 m m, vI 0], vI 0]), (75, vI ((m : Nat) : Int)), (76, .tuple #[.agg #[vS b'2 0 m m, vI 0], vI 0]), (77, .agg #[vS b'2 0 m m, vI 0]), (78, vI 0), (79, .tuple #[.agg #[vS b'3 0 m m, vI 0], vI 0]), (80, vI ((m : Nat) : Int)), (81, .tuple #[.agg #[vS b'3 0 m m, vI 0], vI 0]), (82, .agg #[vS b'3 0 m m, vI 0]), (83, vI 0), (84, vP w4.heap.size 0), (85, .slice none 0 0), (86, .agg #[vS b'2 0 m m, vI 0]), (87, vS w32.heap.size 0 1 1), (88, vS b5 0 1 c5), (89, vP w4.heap.size 1), (90, .slice none 0 0), (91, .agg #[vS b'3 0 m m, vI 0]), (92, vS w30.heap.size 0 1 1), (93, vS b6 0 1 c6), (94, vP w4.heap.size 0)] ⟨rfl, rfl, rfl, rfl, rfl, rfl, rfl, rfl, rfl, rfl, rfl, rfl, rfl, rfl, rfl, rfl, rfl, rfl, rfl, rfl, rfl, rfl, rfl, rfl, rfl, rfl, rfl, rfl, rfl, rfl, rfl, rfl, rfl, rfl, rfl, rfl, rfl, rfl, rfl, rfl, rfl, trivial⟩ ?_
   refine DR.meet rfl ?_
   intro w38 m37
   have r32 := (((((r29.ext m33).ext m34).ext m35).ext m36).ext m37)
   have r33 := (((r30.ext m35).ext m36).ext m37)
   have r34 := (((((((r28.ext m31).ext m32).ext m33).ext m34).ext m35).ext m36).ext m37)
   have sz14 := (lT (lT (lT md1.size m29.size) m30.size) m31.size)
   have sz15 := (lT (lT sz14 m32.size) m33.size)
   have sz16 := (lT (lT sz15 m34.size) m35.size)
   have sz17 := (lT (lT m33.size m34.size) m35.size)
   have sz18 := (lT (lT m31.size m32.size) m33.size)
   have sz19 := (lT (lT sz18 m34.size) m35.size)
   exact ⟨w32.heap.size, b5, c5, w30.heap.size, b6, c6, rfl, r32, r33, r34, (r31.ext m37), (lT sz14 lR), (lT sz15 ge8), (lT (lT md1.size m29.size) lR), (lT sz16 ge9), (lE (lL (lL r29.lt m33.size) ge8)), (lG (lL (lL r28.lt m31.size) lR)), (lE (lL (lL r29.lt sz17) ge9)), (lG (lL (lL r28.lt sz18) ge8)), (lE (lL (lL r30.lt m35.size) ge9)), (lE (lL (lL r28.lt sz19) ge9)), (Own.low (Own.modb (Own.modb (Own.modb ow5 m35 nN) m36 nN) m37 nN) sz15), (Own.low (Own.modb ow6 m37 nN) sz16), (((((((((((Mod.refl [] w12).nt md1).nt m29).nt m30).nt m31).nt m32).nt m33).nt m34).nt m35).nt m36).nt m37)⟩
 ·rintro _ w39 ⟨e1_3_0, e1_4_0, e1_4_1, e1_8_0, e1_9_0, e1_9_1, rfl, rr1_0, rr1_1, rr1_2, rr1_3, ge10, ge11, ge12, ge13, ne1, ne2, ne3, ne4, ne5, ne6, ro1_0, ro1_1, m38⟩
  have sz20 := (lT (lT (lT (lT m6.size m7.size) m8.size) m9.size) m10.size)
  have r35 := (((((((r5.ext m7).ext m8).mod m9 (nC (lE (lL (lL r3.lt (lT m6.size m7.size)) lR)) nN)).ext m10).ext m11).mod m12 (nC (lE (lL (lL r3.lt sz20) lR)) nN)).ext m38)
  refine WO.op0 rfl (.free rfl) rfl (op_store (i := 0) (cs := [vS e1_4_0 0 1 e1_4_1]) rfl rfl rfl Try.sizeOf25 rfl r35 rfl (lB rfl) rfl) ?_
  rintro _ w40 ⟨r36, m39, z13⟩
  have r37 : Row w40 w4.heap.size 0 [vS e1_4_0 0 1 e1_4_1, .slice none 0 0, vS b'1 0 1 c'1, vI 1, vF r_1, vF kw, vF 0, vF 0, vF 0, .bool op, vF lw, vF 1061158912, vF 3200253952] := Row.congr r36 rfl
  refine WO.det (op_fieldAddr (off' := 1) rfl Try.runUnderlying33 rfl rfl Try.sizeOf25 rfl) rfl (.free rfl) rfl rfl ?_
  refine WO.op0 rfl (.free rfl) rfl (op_store (i := 1) (cs := [vS e1_9_0 0 1 e1_9_1]) rfl rfl rfl Try.sizeOf25 rfl r37 rfl (lB rfl) rfl) ?_
  rintro _ w41 ⟨r38, m40, z14⟩
  have r39 : Row w41 w4.heap.size 0 [vS e1_4_0 0 1 e1_4_1, vS e1_9_0 0 1 e1_9_1, vS b'1 0 1 c'1, vI 1, vF r_1, vF kw, vF 0, vF 0, vF 0, .bool op, vF lw, vF 1061158912, vF 3200253952] := Row.congr r38 rfl
  refine WO.end (NE.blk (NE.code (CE.region ?_)))
  refine WL.det (op_add (r := 1) rfl rfl (by decide)) rfl rfl rfl ?_
  refine WL.det (op_move rfl) rfl rfl rfl ?_
  refine WL.end (NE.round (RN.one (CE.seq (CE.region ?_))))
  refine WL.det (op_lti rfl rfl) rfl rfl rfl ?_
  refine WL.end (NE.code (CE.seq ?_))
  refine CE.cond_t rfl rfl ?_
  refine CE.skip' (NE.code (CE.seq (CE.block (CE.seq (CE.region ?_)))))
  refine WL.det (op_indexSl (off' := 1) rfl rfl rfl Try.runUnderlying36 Try.sizeOf2 (by omega) (by omega) rfl) rfl rfl rfl ?_
  have sz21 := (lT (lT (lT sz1 m5.size) m6.size) m7.size)
  have sz22 := (lT (lT (lT sz21 m8.size) m9.size) m10.size)
  have r40 := (Rng.youngS rl (Rng.youngS rl ((Rng.youngS rl (((Rng.youngS rl ((r6.ext m7).ext m8) m9 (allge_cons (lT sz21 lR) allge_nil)).ext m10).ext m11) m12 (allge_cons (lT sz22 lR) allge_nil)).ext m38) m39 (allge_cons (lT sz1 lR) allge_nil)) m40 (allge_cons (lT sz1 lR) allge_nil))
  refine WL.det (op_load1 (i := 1) rfl Try.isAgg2 r40 rfl rfl) rfl rfl rfl ?_
  refine WL.det (op_assign rfl) rfl rfl rfl ?_
  refine WL.end (NE.code (CE.seq (CE.seq (CE.region ?_))))
  refine WL.det (op_move rfl) rfl rfl rfl ?_
  refine WL.det (op_not rfl) rfl rfl rfl ?_
  refine WL.det (op_move rfl) rfl rfl rfl ?_
  refine WL.yes rfl rfl rfl (ltb rfl) rfl (bnot_t (by decide +kernel)) ?_
  refine WL.det (op_move rfl) rfl rfl rfl ?_
  refine WL.yes rfl rfl rfl (ltb rfl) rfl (bnot_t (by decide +kernel)) ?_
  refine WL.call (oc_call (vs := [vI ((n : Nat) : Int), vI 1, vI 1024]) (cap := []) rfl rfl rfl Try.call62 (c_within ((n : Nat) : Int) (1 : Int) (1024 : Int) w41)) rfl rfl (ltb rfl) ?_
  rintro _ _ ⟨rfl, rfl⟩
  refine WL.yes rfl rfl rfl (ltb rfl) rfl (bnot_t (by decide +kernel)) ?_
  refine WL.det (op_not rfl) rfl rfl rfl ?_
  refine WL.det (op_pick_f rfl (bnot_t (by decide +kernel)) rfl) rfl rfl rfl ?_
  refine WL.end (NE.code ?_)
  refine CE.cond_f rfl (bnot_t ((vIn_t _ _ _).2 ⟨by omega, by omega⟩)) ?_
  refine CE.skip' (NE.code (CE.seq (CE.region ?_)))
  refine WL.det (op_move rfl) rfl rfl rfl ?_
  refine WL.call (oc_call (vs := [vI ((n : Nat) : Int)]) (cap := []) rfl rfl rfl Try.call77 (c_NewRingP n (by omega) (by omega) w41)) rfl rfl (ltb rfl) ?_
  rintro _ w42 ⟨b'4, rfl, r41, ge14, m41⟩
  refine WL.det (op_move rfl) rfl rfl rfl ?_
  iterate 2 refine WL.det (op_extract rfl rfl) rfl rfl rfl ?_
  refine WL.op (op_alloc (cs := [.slice none 0 0, vI 0]) Try.zeroValue60 rfl) rfl rfl (ltb rfl) ?_
  rintro _ w43 ⟨rfl, r42, m42, z15⟩
  refine WL.op0 (op_store (i := 0) (cs := [vS b'4 0 n n, vI 0]) rfl rfl rfl Try.sizeOf60 rfl r42 rfl (lB rfl) rfl) rfl rfl ?_
  rintro _ w44 ⟨r43, m43, z16⟩
  have r44 : Row w44 w42.heap.size 0 [vS b'4 0 n n, vI 0] := Row.congr r43 rfl
  refine WL.det (op_assign rfl) rfl rfl rfl ?_
  refine WL.end (NE.code (CE.seq (CE.region ?_)))
  refine WL.det (op_move rfl) rfl rfl rfl ?_
  refine WL.call (oc_call (vs := [vI ((n : Nat) : Int)]) (cap := []) rfl rfl rfl Try.call77 (c_NewRingP n (by omega) (by omega) w44)) rfl rfl (ltb rfl) ?_
  rintro _ w45 ⟨b'5, rfl, r45, ge15, m44⟩
  refine WL.det (op_move rfl) rfl rfl rfl ?_
  iterate 2 refine WL.det (op_extract rfl rfl) rfl rfl rfl ?_
  refine WL.op (op_alloc (cs := [.slice none 0 0, vI 0]) Try.zeroValue60 rfl) rfl rfl (ltb rfl) ?_
  rintro _ w46 ⟨rfl, r46, m45, z17⟩
  refine WL.op0 (op_store (i := 0) (cs := [vS b'5 0 n n, vI 0]) rfl rfl rfl Try.sizeOf60 rfl r46 rfl (lB rfl) rfl) rfl rfl ?_
  rintro _ w47 ⟨r47, m46, z18⟩
  have r48 : Row w47 w45.heap.size 0 [vS b'5 0 n n, vI 0] := Row.congr r47 rfl
  refine WL.det (op_assign rfl) rfl rfl rfl ?_
  refine WL.end (NE.code ?_)
  refine CE.drawF (fun _ => none) [0, 1, 2, 3, 4, 5, 6, 7, 8, 9, 10] [11, 12, 13] [e1_4_0, e1_9_0] (fun ρ W => ∃ (e2_3_0 : Nat) (e2_4_0 : Nat) (e2_4_1 : Nat) (e2_8_0 : Nat) (e2_9_0 : Nat) (e2_9_1 : Nat), ρ = [(10, vP w.heap.size 0), (11, vI 0), (12, .bool (fGe .f32 0 3212836864 && fLe .f32 0 1065353216)), (15, vP w4.heap.size 0), (17, vI ((n : Nat) : Int)), (18, vP w42.heap.size 0), (20, vP w45.heap.size 0), (60, vS lb 0 2 cl), (61, vI 2), (62, vI 1), (63, .bool true), (64, vP lb 1), (65, vI ((n : Nat) : Int)), (66, .bool (fGe .f32 0 3212836864 && fLe .f32 0 1065353216)), (67, .bool (!(fGe .f32 0 3212836864 && fLe .f32 0 1065353216))), (68, .bool (!(fGe .f32 0 3212836864 && fLe .f32 0 1065353216))), (69, vI ((n : Nat) : Int)), (70, .bool (vIn ((n : Nat) : Int) (1 : Int) (1024 : Int))), (71, .bool (!(vIn ((n : Nat) : Int) (1 : Int) (1024 : Int)))), (72, .bool (!(vIn ((n : Nat) : Int) (1 : Int) (1024 : Int)))), (74, .tuple #[.agg #[vS b'4 0 n n, vI 0], vI 0]), (75, vI ((n : Nat) : Int)), (76, .tuple #[.agg #[vS b'4 0 n n, vI 0], vI 0]), (77, .agg #[vS b'4 0 n n, vI 0]), (78, vI 0), (79, .tuple #[.agg #[vS b'5 0 n n, vI 0], vI 0]), (80, vI ((n : Nat) : Int)), (81, .tuple #[.agg #[vS b'5 0 n n, vI 0], vI 0]), (82, .agg #[vS b'5 0 n n, vI 0]), (83, vI 0), (84, vP w4.heap.size 0), (85, vS e1_4_0 0 1 e1_4_1), (86, .agg #[vS b'4 0 n n, vI 0]), (87, vS e2_3_0 0 1 1), (88, vS e2_4_0 0 2 e2_4_1), (89, vP w4.heap.size 1), (90, vS e1_9_0 0 1 e1_9_1), (91, .agg #[vS b'5 0 n n, vI 0]), (92, vS e2_8_0 0 1 1), (93, vS e2_9_0 0 2 e2_9_1), (94, vP w4.heap.size 0), (95, vP w4.heap.size 1), (96, vI 1)] ∧ Row W e2_3_0 0 [vS b'4 0 n n, vI 0] ∧ Row W e2_4_0 0 [vS b'2 0 m m, vI 0, vS b'4 0 n n, vI 0] ∧ Row W e2_8_0 0 [vS b'5 0 n n, vI 0] ∧ Row W e2_9_0 0 [vS b'3 0 m m, vI 0, vS b'5 0 n n, vI 0] ∧ w47.heap.size ≤ e2_3_0 ∧ w12.heap.size ≤ e2_4_0 ∧ w47.heap.size ≤ e2_8_0 ∧ w12.heap.size ≤ e2_9_0 ∧ e2_3_0 ≠ e2_4_0 ∧ e2_3_0 ≠ e2_8_0 ∧ e2_3_0 ≠ e2_9_0 ∧ e2_4_0 ≠ e2_8_0 ∧ e2_4_0 ≠ e2_9_0 ∧ e2_8_0 ≠ e2_9_0 ∧ lb ≠ e2_4_0 ∧ sb ≠ e2_4_0 ∧ w.heap.size ≠ e2_4_0 ∧ b'1 ≠ e2_4_0 ∧ w4.heap.size ≠ e2_4_0 ∧ b'2 ≠ e2_4_0 ∧ w7.heap.size ≠ e2_4_0 ∧ b'3 ≠ e2_4_0 ∧ w10.heap.size ≠ e2_4_0 ∧ e1_3_0 ≠ e2_4_0 ∧ e1_8_0 ≠ e2_4_0 ∧ b'4 ≠ e2_4_0 ∧ w42.heap.size ≠ e2_4_0 ∧ b'5 ≠ e2_4_0 ∧ w45.heap.size ≠ e2_4_0 ∧ lb ≠ e2_9_0 ∧ sb ≠ e2_9_0 ∧ w.heap.size ≠ e2_9_0 ∧ b'1 ≠ e2_9_0 ∧ w4.heap.size ≠ e2_9_0 ∧ b'2 ≠ e2_9_0 ∧ w7.heap.size ≠ e2_9_0 ∧ b'3 ≠ e2_9_0 ∧ w10.heap.size ≠ e2_9_0 ∧ e1_3_0 ≠ e2_9_0 ∧ e1_8_0 ≠ e2_9_0 ∧ b'4 ≠ e2_9_0 ∧ w42.heap.size ≠ e2_9_0 ∧ b'5 ≠ e2_9_0 ∧ w45.heap.size ≠ e2_9_0 ∧ Own 60 2 w12.heap.size W (some ⟨e2_4_0, 0, none⟩) 2 e2_4_1 [vS b'2 0 m m, vI 0, vS b'4 0 n n, vI 0] ∧ Own 60 2 w12.heap.size W (some ⟨e2_9_0, 0, none⟩) 2 e2_9_1 [vS b'3 0 m m, vI 0, vS b'5 0 n n, vI 0] ∧ Mod [e1_4_0, e1_9_0] w47 W) (by kernel_rfl) (by kernel_rfl) ?_ ?_
  have md2 : Mod [] w47 w47.drew := (Mod.refl _ _).drew
  generalize w47.drew = w48 at md2 ⊢
  ·refine DR.det (i := 0) rfl rfl (by kernel_rfl) (.free rfl) rfl rfl (fun wD mD => op_fieldAddr (off' := 0) rfl Try.runUnderlying33 rfl rfl Try.sizeOf25 rfl) ?_
   refine DR.det (i := 1) rfl rfl (by kernel_rfl) (.free rfl) rfl rfl (fun wD mD => op_load1 (i := 0) rfl Try.isAgg25 ((((((((r39.ext m41).ext m42).mod m43 (nC (lE (lL (lL r3.lt (lT (lT (lT (lT (lT (lT sz20 m11.size) m12.size) m38.size) m39.size) m40.size) m41.size)) lR)) nN)).ext m44).ext m45).mod m46 (nC (lE (lL (lL r3.lt (lT (lT (lT (lT (lT (lT (lT (lT (lT sz20 m11.size) m12.size) m38.size) m39.size) m40.size) m41.size) m42.size) m43.size) m44.size)) lR)) nN)).ext md2).mod mD (nC (lE (lL (lL r3.lt (lT (lT sz20 m11.size) m12.size)) ge11)) (nC (lE (lL (lL r3.lt (lT (lT sz20 m11.size) m12.size)) ge13)) nN))).rng rfl rfl) ?_
   refine DR.det (i := 2) rfl rfl (by kernel_rfl) (.free rfl) rfl rfl (fun wD mD => op_loadA (i := 0) (cs := [vS b'4 0 n n, vI 0]) rfl Try.isAgg60 Try.sizeOf60 (((((r44.ext m44).ext m45).mod m46 (nC (lE (lL (lL r42.lt (lT m43.size m44.size)) lR)) nN)).ext md2).mod mD (nC (lG (lL (lL rr1_1.lt (lT (lT m39.size m40.size) m41.size)) lR)) (nC (lG (lL (lL rr1_3.lt (lT (lT m39.size m40.size) m41.size)) lR)) nN))).rng rfl rfl rfl) ?_
   refine DR.det (i := 5) rfl rfl (by kernel_rfl) (.free rfl) rfl rfl (fun wD mD => op_fieldAddr (off' := 1) rfl Try.runUnderlying33 rfl rfl Try.sizeOf25 rfl) ?_
   refine DR.det (i := 6) rfl rfl (by kernel_rfl) (.free rfl) rfl rfl (fun wD mD => op_load1 (i := 1) rfl Try.isAgg25 ((((((((r39.ext m41).ext m42).mod m43 (nC (lE (lL (lL r3.lt (lT (lT (lT (lT (lT (lT sz20 m11.size) m12.size) m38.size) m39.size) m40.size) m41.size)) lR)) nN)).ext m44).ext m45).mod m46 (nC (lE (lL (lL r3.lt (lT (lT (lT (lT (lT (lT (lT (lT (lT sz20 m11.size) m12.size) m38.size) m39.size) m40.size) m41.size) m42.size) m43.size) m44.size)) lR)) nN)).ext md2).mod mD (nC (lE (lL (lL r3.lt (lT (lT sz20 m11.size) m12.size)) ge11)) (nC (lE (lL (lL r3.lt (lT (lT sz20 m11.size) m12.size)) ge13)) nN))).rng rfl rfl) ?_
   refine DR.det (i := 7) rfl rfl (by kernel_rfl) (.free rfl) rfl rfl (fun wD mD => op_loadA (i := 0) (cs := [vS b'5 0 n n, vI 0]) rfl Try.isAgg60 Try.sizeOf60 ((r48.ext md2).mod mD (nC (lG (lL (lL rr1_1.lt (lT (lT (lT (lT (lT m39.size m40.size) m41.size) m42.size) m43.size) m44.size)) lR)) (nC (lG (lL (lL rr1_3.lt (lT (lT (lT (lT (lT m39.size m40.size) m41.size) m42.size) m43.size) m44.size)) lR)) nN))).rng rfl rfl rfl) ?_
   refine DR.fork (is := [3, 8]) (by kernel_rfl) (by decide) (all2 ?_ ?_)
   ·refine DP.op (i := 3) rfl rfl (.free rfl) rfl (ltb rfl) ?_
    intro w49 m47
    refine Op1.mono (op_buildSl (qs := [(0, .agg #[vS b'4 0 n n, vI 0])]) (cells := #[vS b'4 0 n n, vI 0]) rfl Try.runUnderlying25 Try.sizeOf60 Try.zeroValue60 (by decide) (by decide) (by kernel_rfl)) ?_
    rintro _ w50 ⟨rfl, r49, m48, z19⟩
    refine ⟨(((Mod.refl [e1_4_0, e1_9_0] w48).nt m47).nt m48), ?_⟩
    refine DR.rebase ?_
    refine DR.fork (is := [4, 8]) (by kernel_rfl) (by decide) (all2 ?_ ?_)
    ·refine DP.op (i := 4) rfl rfl (.free rfl) rfl (ltb rfl) ?_
     intro w51 m49
     refine Op1.mono (op_appk (i := Try.t60) (m := 2) (bt := 32) (news := [vS b'4 0 n n, vI 0]) (q := 0) rfl rfl Try.underlying25 rfl rfl rfl rfl rfl (by decide) (r49.ext m49).rng rfl rfl (Own.modb (Own.modb (Own.modb (Own.modb (Own.modb (Own.modb (Own.modb (Own.modb (Own.modb (Own.modb (Own.modb (Own.modb ro1_0 m39 (nC (lG (lL (lL r3.lt (lT (lT sz20 m11.size) m12.size)) ge11)) nN)) m40 (nC (lG (lL (lL r3.lt (lT (lT sz20 m11.size) m12.size)) ge11)) nN)) m41 nN) m42 nN) m43 (nC (lE (lL (lL rr1_1.lt (lT (lT m39.size m40.size) m41.size)) lR)) nN)) m44 nN) m45 nN) m46 (nC (lE (lL (lL rr1_1.lt (lT (lT (lT (lT (lT m39.size m40.size) m41.size) m42.size) m43.size) m44.size)) lR)) nN)) md2 nN) m47 nN) m48 nN) m49 nN) (lT (lT (lT (lT (lT (lT (lT (lT (lT (lT (lT (lT m38.size m39.size) m40.size) m41.size) m42.size) m43.size) m44.size) m45.size) m46.size) md2.size) m47.size) m48.size) m49.size) (by omega) (by omega) (by decide)) ?_
     have sz23 := (lT (lT sz22 m11.size) m12.size)
     have sz24 := (lT (lT (lT (lT (lT (lT (lT (lT (lT (lT (lT (lT (lT sz23 m38.size) m39.size) m40.size) m41.size) m42.size) m43.size) m44.size) m45.size) m46.size) md2.size) m47.size) m48.size) m49.size)
     have sz25 := (lT (lT (lT (lT (lT (lT (lT (lT (lT (lT m2.size m3.size) m4.size) m5.size) m6.size) m7.size) m8.size) m9.size) m10.size) m11.size) m12.size)
     have sz26 := (lT (lT (lT (lT (lT (lT (lT (lT (lT (lT (lT (lT (lT sz25 m38.size) m39.size) m40.size) m41.size) m42.size) m43.size) m44.size) m45.size) m46.size) md2.size) m47.size) m48.size) m49.size)
     have sz27 := (lT (lT (lT (lT (lT (lT (lT (lT m4.size m5.size) m6.size) m7.size) m8.size) m9.size) m10.size) m11.size) m12.size)
     have sz28 := (lT (lT (lT (lT (lT (lT (lT (lT (lT (lT (lT (lT (lT sz27 m38.size) m39.size) m40.size) m41.size) m42.size) m43.size) m44.size) m45.size) m46.size) md2.size) m47.size) m48.size) m49.size)
     have sz29 := (lT (lT sz20 m11.size) m12.size)
     have sz30 := (lT (lT (lT (lT (lT (lT (lT (lT (lT (lT (lT (lT (lT sz29 m38.size) m39.size) m40.size) m41.size) m42.size) m43.size) m44.size) m45.size) m46.size) md2.size) m47.size) m48.size) m49.size)
     have sz31 := (lT (lT (lT (lT m8.size m9.size) m10.size) m11.size) m12.size)
     have sz32 := (lT (lT (lT (lT (lT (lT (lT (lT (lT (lT (lT (lT (lT sz31 m38.size) m39.size) m40.size) m41.size) m42.size) m43.size) m44.size) m45.size) m46.size) md2.size) m47.size) m48.size) m49.size)
     have sz33 := (lT (lT (lT m9.size m10.size) m11.size) m12.size)
     have sz34 := (lT (lT (lT (lT (lT (lT (lT (lT (lT (lT (lT (lT (lT sz33 m38.size) m39.size) m40.size) m41.size) m42.size) m43.size) m44.size) m45.size) m46.size) md2.size) m47.size) m48.size) m49.size)
     have sz35 := (lT (lT (lT (lT (lT (lT (lT (lT (lT (lT (lT (lT (lT (lT m11.size m12.size) m38.size) m39.size) m40.size) m41.size) m42.size) m43.size) m44.size) m45.size) m46.size) md2.size) m47.size) m48.size) m49.size)
     have sz36 := (lT (lT (lT (lT (lT (lT (lT (lT (lT (lT (lT (lT (lT m12.size m38.size) m39.size) m40.size) m41.size) m42.size) m43.size) m44.size) m45.size) m46.size) md2.size) m47.size) m48.size) m49.size)
     have sz37 := (lT (lT (lT (lT (lT (lT (lT (lT (lT (lT (lT m39.size m40.size) m41.size) m42.size) m43.size) m44.size) m45.size) m46.size) md2.size) m47.size) m48.size) m49.size)
     have sz38 := (lT (lT (lT (lT (lT (lT (lT (lT m42.size m43.size) m44.size) m45.size) m46.size) md2.size) m47.size) m48.size) m49.size)
     have sz39 := (lT (lT m39.size m40.size) m41.size)
     have sz40 := (lT (lT (lT (lT (lT (lT (lT m43.size m44.size) m45.size) m46.size) md2.size) m47.size) m48.size) m49.size)
     have sz41 := (lT (lT sz39 m42.size) m43.size)
     have sz42 := (lT (lT (lT (lT (lT m45.size m46.size) md2.size) m47.size) m48.size) m49.size)
     have sz43 := (lT (lT (lT (lT m46.size md2.size) m47.size) m48.size) m49.size)
     have sz44 := (lT (lT (lT (lT (lT sz41 m44.size) m45.size) m46.size) md2.size) m47.size)
     rintro _ w52 ⟨b7, c7, rfl, ow7, hb1, m50⟩
     have r50 : Row w52 b7 0 [vS b'2 0 m m, vI 0, vS b'4 0 n n, vI 0] := (Own.row1 ow7).1
     refine ⟨(((Mod.refl [e1_4_0, e1_9_0] w50).nt m49).then m50 ((aC (.inl (by simp)) aN))), ?_⟩
     refine DR.rebase ?_
     refine DR.det (i := 10) rfl rfl (by kernel_rfl) (.free rfl) rfl rfl (fun wD mD => op_fieldAddr (off' := 0) rfl Try.runUnderlying33 rfl rfl Try.sizeOf25 rfl) ?_
     refine DR.one1 (i := 8) rfl rfl (by kernel_rfl) (.free rfl) rfl (ltb rfl) ?_
     intro w53 m51
     refine Op1.mono (op_buildSl (qs := [(0, .agg #[vS b'5 0 n n, vI 0])]) (cells := #[vS b'5 0 n n, vI 0]) rfl Try.runUnderlying25 Try.sizeOf60 Try.zeroValue60 (by decide) (by decide) (by kernel_rfl)) ?_
     rintro _ w54 ⟨rfl, r51, m52, z20⟩
     refine ⟨(((Mod.refl [e1_4_0, e1_9_0] w52).nt m51).nt m52), ?_⟩
     refine DR.rebase ?_
     refine DR.one1 (i := 9) rfl rfl (by kernel_rfl) (.free rfl) rfl (ltb rfl) ?_
     intro w55 m53
     refine Op1.mono (op_appk (i := Try.t60) (m := 2) (bt := 32) (news := [vS b'5 0 n n, vI 0]) (q := 0) rfl rfl Try.underlying25 rfl rfl rfl rfl rfl (by decide) (r51.ext m53).rng rfl rfl (Own.modb (Own.modb (Own.modb (Own.modb (Own.modb (Own.modb (Own.modb (Own.modb (Own.modb (Own.modb (Own.modb (Own.modb (Own.modb (Own.modb (Own.modb (Own.modb ro1_1 m39 (nC (lG (lL (lL r3.lt sz29) ge13)) nN)) m40 (nC (lG (lL (lL r3.lt sz29) ge13)) nN)) m41 nN) m42 nN) m43 (nC (lE (lL (lL rr1_3.lt sz39) lR)) nN)) m44 nN) m45 nN) m46 (nC (lE (lL (lL rr1_3.lt (lT sz41 m44.size)) lR)) nN)) md2 nN) m47 nN) m48 nN) m49 nN) m50 (nC (Ne.symm ne5) nN)) m51 nN) m52 nN) m53 nN) (lT (lT (lT (lT (lT (lT (lT (lT (lT (lT (lT (lT (lT (lT (lT (lT m38.size m39.size) m40.size) m41.size) m42.size) m43.size) m44.size) m45.size) m46.size) md2.size) m47.size) m48.size) m49.size) m50.size) m51.size) m52.size) m53.size) (by omega) (by omega) (by decide)) ?_
     have sz45 := (lT (lT (lT (lT sz24 m50.size) m51.size) m52.size) m53.size)
     have sz46 := (lT (lT (lT (lT sz26 m50.size) m51.size) m52.size) m53.size)
     have sz47 := (lT (lT (lT (lT sz28 m50.size) m51.size) m52.size) m53.size)
     have sz48 := (lT (lT (lT (lT sz30 m50.size) m51.size) m52.size) m53.size)
     have sz49 := (lT (lT (lT (lT sz32 m50.size) m51.size) m52.size) m53.size)
     have sz50 := (lT (lT (lT (lT sz34 m50.size) m51.size) m52.size) m53.size)
     have sz51 := (lT (lT (lT (lT sz35 m50.size) m51.size) m52.size) m53.size)
     have sz52 := (lT (lT (lT (lT sz36 m50.size) m51.size) m52.size) m53.size)
     have sz53 := (lT (lT (lT (lT sz37 m50.size) m51.size) m52.size) m53.size)
     have sz54 := (lT (lT (lT (lT sz38 m50.size) m51.size) m52.size) m53.size)
     have sz55 := (lT (lT (lT (lT sz40 m50.size) m51.size) m52.size) m53.size)
     have sz56 := (lT (lT (lT (lT sz42 m50.size) m51.size) m52.size) m53.size)
     have sz57 := (lT (lT (lT (lT sz43 m50.size) m51.size) m52.size) m53.size)
     have sz58 := (lT (lT (lT (lT m49.size m50.size) m51.size) m52.size) m53.size)
     have sz59 := (lT (lT m51.size m52.size) m53.size)
     have sz60 := (lT (lT sz37 m50.size) m51.size)
     rintro _ w56 ⟨b8, c8, rfl, ow8, hb2, m54⟩
     have r52 : Row w56 b8 0 [vS b'3 0 m m, vI 0, vS b'5 0 n n, vI 0] := (Own.row1 ow8).1
     refine ⟨(((Mod.refl [e1_4_0, e1_9_0] w54).nt m53).then m54 ((aC (.inl (by simp)) aN))), ?_⟩
     refine DR.sub [(10, vP w.heap.size 0), (11, vI 0), (12, .bool (fGe .f32 0 3212836864 && fLe .f32 0 1065353216)), (15, vP w4.heap.size 0), (17, vI ((n : Nat) : Int)), (18, vP w42.heap.size 0), (20, vP w45.heap.size 0), (60, vS lb 0 2 cl), (61, vI 2), (62, vI 1), (63, .bool true), (64, vP lb 1), (65, vI ((n : Nat) : Int)), (66, .bool (fGe .f32 0 3212836864 && fLe .f32 0 1065353216)), (67, .bool (!(fGe .f32 0 3212836864 && fLe .f32 0 1065353216))), (68, .bool (!(fGe .f32 0 3212836864 && fLe .f32 0 1065353216))), (69, vI ((n : Nat) : Int)), (70, .bool (vIn ((n : Nat) : Int) (1 : Int) (1024 : Int))), (71, .bool (!(vIn ((n : Nat) : Int) (1 : Int) (1024 : Int)))), (72, .bool (!(vIn ((n : Nat) : Int) (1 : Int) (1024 : Int)))), (74, .tuple #[.agg #[vS b'4 0 n n, vI 0], vI 0]), (75, vI ((n : Nat) : Int)), (76, .tuple #[.agg #[vS b'4 0 n n, vI 0], vI 0]), (77, .agg #[vS b'4 0 n n, vI 0]), (78, vI 0), (79, .tuple #[.agg #[vS b'5 0 n n, vI 0], vI 0]), (80, vI ((n : Nat) : Int)), (81, .tuple #[.agg #[vS b'5 0 n n, vI 0], vI 0]), (82, .agg #[vS b'5 0 n n, vI 0]), (83, vI 0), (84, vP w4.heap.size 0), (85, vS e1_4_0 0 1 e1_4_1), (86, .agg #[vS b'4 0 n n, vI 0]), (87, vS w49.heap.size 0 1 1), (88, vS b7 0 2 c7), (89, vP w4.heap.size 1), (90, vS e1_9_0 0 1 e1_9_1), (91, .agg #[vS b'5 0 n n, vI 0]), (92, vS w53.heap.size 0 1 1), (93, vS b8 0 2 c8), (94, vP w4.heap.size 0), (95, vP w4.heap.size 1), (96, vI 1)] ⟨rfl, rfl, rfl, rfl, rfl, rfl, rfl, rfl, rfl, rfl, rfl, rfl, rfl, rfl, rfl, rfl, rfl, rfl, rfl, rfl, rfl, rfl, rfl, rfl, rfl, rfl, rfl, rfl, rfl, rfl, rfl, rfl, rfl, rfl, rfl, rfl, rfl, rfl, rfl, rfl, rfl, rfl, rfl, trivial⟩ ?_
     refine DR.meet rfl ?_
     intro w57 m55
     have r53 := (((((((r49.ext m49).mod m50 (nC (lG (lL (lL rr1_1.lt sz44) lR)) nN)).ext m51).ext m52).ext m53).mod m54 (nC (lG (lL (lL rr1_3.lt sz44) lR)) nN)).ext m55)
     have r54 := (((((r50.ext m51).ext m52).ext m53).mod m54 (nC (Ne.symm (own_ne hb1 (Ne.symm ne5) (lL rr1_3.lt sz37))) nN)).ext m55)
     have r55 := (((r51.ext m53).mod m54 (nC (lG (lL (lL rr1_3.lt sz60) lR)) nN)).ext m55)
     have sz61 := (lT (lT (lT (lT (lT md2.size m47.size) m48.size) m49.size) m50.size) m51.size)
     have sz62 := (lT (lT m49.size m50.size) m51.size)
     exact ⟨w49.heap.size, b7, c7, w53.heap.size, b8, c8, rfl, r53, r54, r55, (r52.ext m55), (lT (lT md2.size m47.size) lR), (Own.row1 ow7).2, (lT sz61 lR), (Own.row1 ow8).2, (own_ne hb1 (lG (lL (lL rr1_1.lt sz44) lR)) (lL r49.lt m49.size)), (lE (lL (lL r49.lt sz62) lR)), (own_ne hb2 (lG (lL (lL rr1_3.lt sz44) lR)) (lL r49.lt sz58)), (lE (lL (lL r50.lt m51.size) lR)), (own_ne hb2 (Ne.symm (own_ne hb1 (Ne.symm ne5) (lL rr1_3.lt sz37))) (lL r50.lt sz59)), (own_ne hb2 (lG (lL (lL rr1_3.lt sz60) lR)) (lL r51.lt m53.size)), (own_ne hb1 (lE (lL (lL (rl.lt (Nat.succ_pos _)) sz23) ge11)) (lL (rl.lt (Nat.succ_pos _)) sz24)), (own_ne hb1 (lE (lL (lL (rs.lt (Nat.succ_pos _)) sz23) ge11)) (lL (rs.lt (Nat.succ_pos _)) sz24)), (own_ne hb1 (lE (lL (lL r1.lt sz25) ge11)) (lL r1.lt sz26)), (own_ne hb1 (lE (lL (lL r2.lt sz27) ge11)) (lL r2.lt sz28)), (own_ne hb1 (lE (lL (lL r3.lt sz29) ge11)) (lL r3.lt sz30)), (own_ne hb1 (lE (lL (lL r7.lt sz31) ge11)) (lL r7.lt sz32)), (own_ne hb1 (lE (lL (lL r8.lt sz33) ge11)) (lL r8.lt sz34)), (own_ne hb1 (lE (lL (lL r11.lt (lT m11.size m12.size)) ge11)) (lL r11.lt sz35)), (own_ne hb1 (lE (lL (lL r12.lt m12.size) ge11)) (lL r12.lt sz36)), (own_ne hb1 ne1 (lL rr1_0.lt sz37)), (own_ne hb1 (Ne.symm ne4) (lL rr1_2.lt sz37)), (own_ne hb1 (lG (lL (lL rr1_1.lt (lT m39.size m40.size)) ge14)) (lL r41.lt sz38)), (own_ne hb1 (lG (lL (lL rr1_1.lt sz39) lR)) (lL r42.lt sz40)), (own_ne hb1 (lG (lL (lL rr1_1.lt sz41) ge15)) (lL r45.lt sz42)), (own_ne hb1 (lG (lL (lL rr1_1.lt (lT sz41 m44.size)) lR)) (lL r46.lt sz43)), (own_ne hb2 (lE (lL (lL (rl.lt (Nat.succ_pos _)) sz23) ge13)) (lL (rl.lt (Nat.succ_pos _)) sz45)), (own_ne hb2 (lE (lL (lL (rs.lt (Nat.succ_pos _)) sz23) ge13)) (lL (rs.lt (Nat.succ_pos _)) sz45)), (own_ne hb2 (lE (lL (lL r1.lt sz25) ge13)) (lL r1.lt sz46)), (own_ne hb2 (lE (lL (lL r2.lt sz27) ge13)) (lL r2.lt sz47)), (own_ne hb2 (lE (lL (lL r3.lt sz29) ge13)) (lL r3.lt sz48)), (own_ne hb2 (lE (lL (lL r7.lt sz31) ge13)) (lL r7.lt sz49)), (own_ne hb2 (lE (lL (lL r8.lt sz33) ge13)) (lL r8.lt sz50)), (own_ne hb2 (lE (lL (lL r11.lt (lT m11.size m12.size)) ge13)) (lL r11.lt sz51)), (own_ne hb2 (lE (lL (lL r12.lt m12.size) ge13)) (lL r12.lt sz52)), (own_ne hb2 ne3 (lL rr1_0.lt sz53)), (own_ne hb2 ne6 (lL rr1_2.lt sz53)), (own_ne hb2 (lG (lL (lL rr1_3.lt (lT m39.size m40.size)) ge14)) (lL r41.lt sz54)), (own_ne hb2 (lG (lL (lL rr1_3.lt sz39) lR)) (lL r42.lt sz55)), (own_ne hb2 (lG (lL (lL rr1_3.lt sz41) ge15)) (lL r45.lt sz56)), (own_ne hb2 (lG (lL (lL rr1_3.lt (lT sz41 m44.size)) lR)) (lL r46.lt sz57)), (Own.modb (Own.modb (Own.modb (Own.modb (Own.modb ow7 m51 nN) m52 nN) m53 nN) m54 (nC (Ne.symm (own_ne hb1 (Ne.symm ne5) (lL rr1_3.lt sz37))) nN)) m55 nN), (Own.modb ow8 m55 nN), (((((((((((Mod.refl [e1_4_0, e1_9_0] w47).nt md2).nt m47).nt m48).nt m49).then m50 ((aC (.inl (by simp)) aN))).nt m51).nt m52).nt m53).then m54 ((aC (.inl (by simp)) aN))).nt m55)⟩
    ·refine DP.op (i := 8) rfl rfl (.free rfl) rfl (ltb rfl) ?_
     intro w58 m56
     refine Op1.mono (op_buildSl (qs := [(0, .agg #[vS b'5 0 n n, vI 0])]) (cells := #[vS b'5 0 n n, vI 0]) rfl Try.runUnderlying25 Try.sizeOf60 Try.zeroValue60 (by decide) (by decide) (by kernel_rfl)) ?_
     rintro _ w59 ⟨rfl, r56, m57, z21⟩
     refine ⟨(((Mod.refl [e1_4_0, e1_9_0] w50).nt m56).nt m57), ?_⟩
     refine DR.rebase ?_
     refine DR.one1 (i := 4) rfl rfl (by kernel_rfl) (.free rfl) rfl (ltb rfl) ?_
     intro w60 m58
     refine Op1.mono (op_appk (i := Try.t60) (m := 2) (bt := 32) (news := [vS b'4 0 n n, vI 0]) (q := 0) rfl rfl Try.underlying25 rfl rfl rfl rfl rfl (by decide) (((r49.ext m56).ext m57).ext m58).rng rfl rfl (Own.modb (Own.modb (Own.modb (Own.modb (Own.modb (Own.modb (Own.modb (Own.modb (Own.modb (Own.modb (Own.modb (Own.modb (Own.modb (Own.modb ro1_0 m39 (nC (lG (lL (lL r3.lt (lT (lT sz20 m11.size) m12.size)) ge11)) nN)) m40 (nC (lG (lL (lL r3.lt (lT (lT sz20 m11.size) m12.size)) ge11)) nN)) m41 nN) m42 nN) m43 (nC (lE (lL (lL rr1_1.lt (lT (lT m39.size m40.size) m41.size)) lR)) nN)) m44 nN) m45 nN) m46 (nC (lE (lL (lL rr1_1.lt (lT (lT (lT (lT (lT m39.size m40.size) m41.size) m42.size) m43.size) m44.size)) lR)) nN)) md2 nN) m47 nN) m48 nN) m56 nN) m57 nN) m58 nN) (lT (lT (lT (lT (lT (lT (lT (lT (lT (lT (lT (lT (lT (lT m38.size m39.size) m40.size) m41.size) m42.size) m43.size) m44.size) m45.size) m46.size) md2.size) m47.size) m48.size) m56.size) m57.size) m58.size) (by omega) (by omega) (by decide)) ?_
     have sz63 := (lT (lT sz22 m11.size) m12.size)
     have sz64 := (lT (lT (lT (lT (lT (lT (lT (lT (lT (lT (lT (lT (lT (lT (lT sz63 m38.size) m39.size) m40.size) m41.size) m42.size) m43.size) m44.size) m45.size) m46.size) md2.size) m47.size) m48.size) m56.size) m57.size) m58.size)
     have sz65 := (lT (lT (lT (lT (lT (lT (lT (lT (lT (lT m2.size m3.size) m4.size) m5.size) m6.size) m7.size) m8.size) m9.size) m10.size) m11.size) m12.size)
     have sz66 := (lT (lT (lT (lT (lT (lT (lT (lT (lT (lT (lT (lT (lT (lT (lT sz65 m38.size) m39.size) m40.size) m41.size) m42.size) m43.size) m44.size) m45.size) m46.size) md2.size) m47.size) m48.size) m56.size) m57.size) m58.size)
     have sz67 := (lT (lT (lT (lT (lT (lT (lT (lT m4.size m5.size) m6.size) m7.size) m8.size) m9.size) m10.size) m11.size) m12.size)
     have sz68 := (lT (lT (lT (lT (lT (lT (lT (lT (lT (lT (lT (lT (lT (lT (lT sz67 m38.size) m39.size) m40.size) m41.size) m42.size) m43.size) m44.size) m45.size) m46.size) md2.size) m47.size) m48.size) m56.size) m57.size) m58.size)
     have sz69 := (lT (lT sz20 m11.size) m12.size)
     have sz70 := (lT (lT (lT (lT (lT (lT (lT (lT (lT (lT (lT (lT (lT (lT (lT sz69 m38.size) m39.size) m40.size) m41.size) m42.size) m43.size) m44.size) m45.size) m46.size) md2.size) m47.size) m48.size) m56.size) m57.size) m58.size)
     have sz71 := (lT (lT (lT (lT m8.size m9.size) m10.size) m11.size) m12.size)
     have sz72 := (lT (lT (lT (lT (lT (lT (lT (lT (lT (lT (lT (lT (lT (lT (lT sz71 m38.size) m39.size) m40.size) m41.size) m42.size) m43.size) m44.size) m45.size) m46.size) md2.size) m47.size) m48.size) m56.size) m57.size) m58.size)
     have sz73 := (lT (lT (lT m9.size m10.size) m11.size) m12.size)
     have sz74 := (lT (lT (lT (lT (lT (lT (lT (lT (lT (lT (lT (lT (lT (lT (lT sz73 m38.size) m39.size) m40.size) m41.size) m42.size) m43.size) m44.size) m45.size) m46.size) md2.size) m47.size) m48.size) m56.size) m57.size) m58.size)
     have sz75 := (lT (lT (lT (lT (lT (lT (lT (lT (lT (lT (lT (lT (lT (lT (lT (lT m11.size m12.size) m38.size) m39.size) m40.size) m41.size) m42.size) m43.size) m44.size) m45.size) m46.size) md2.size) m47.size) m48.size) m56.size) m57.size) m58.size)
     have sz76 := (lT (lT (lT (lT (lT (lT (lT (lT (lT (lT (lT (lT (lT (lT (lT m12.size m38.size) m39.size) m40.size) m41.size) m42.size) m43.size) m44.size) m45.size) m46.size) md2.size) m47.size) m48.size) m56.size) m57.size) m58.size)
     have sz77 := (lT (lT (lT (lT (lT (lT (lT (lT (lT (lT (lT (lT (lT m39.size m40.size) m41.size) m42.size) m43.size) m44.size) m45.size) m46.size) md2.size) m47.size) m48.size) m56.size) m57.size) m58.size)
     have sz78 := (lT (lT (lT (lT (lT (lT (lT (lT (lT (lT m42.size m43.size) m44.size) m45.size) m46.size) md2.size) m47.size) m48.size) m56.size) m57.size) m58.size)
     have sz79 := (lT (lT m39.size m40.size) m41.size)
     have sz80 := (lT (lT (lT (lT (lT (lT (lT (lT (lT m43.size m44.size) m45.size) m46.size) md2.size) m47.size) m48.size) m56.size) m57.size) m58.size)
     have sz81 := (lT (lT sz79 m42.size) m43.size)
     have sz82 := (lT (lT (lT (lT (lT (lT (lT m45.size m46.size) md2.size) m47.size) m48.size) m56.size) m57.size) m58.size)
     have sz83 := (lT (lT (lT (lT (lT (lT m46.size md2.size) m47.size) m48.size) m56.size) m57.size) m58.size)
     have sz84 := (lT (lT (lT (lT (lT sz81 m44.size) m45.size) m46.size) md2.size) m47.size)
     have sz85 := (lT (lT m56.size m57.size) m58.size)
     have sz86 := (lT (lT sz84 m48.size) m56.size)
     rintro _ w61 ⟨b9, c9, rfl, ow9, hb3, m59⟩
     have r57 : Row w61 b9 0 [vS b'2 0 m m, vI 0, vS b'4 0 n n, vI 0] := (Own.row1 ow9).1
     refine ⟨(((Mod.refl [e1_4_0, e1_9_0] w59).nt m58).then m59 ((aC (.inl (by simp)) aN))), ?_⟩
     refine DR.rebase ?_
     refine DR.det (i := 10) rfl rfl (by kernel_rfl) (.free rfl) rfl rfl (fun wD mD => op_fieldAddr (off' := 0) rfl Try.runUnderlying33 rfl rfl Try.sizeOf25 rfl) ?_
     refine DR.one1 (i := 9) rfl rfl (by kernel_rfl) (.free rfl) rfl (ltb rfl) ?_
     intro w62 m60
     refine Op1.mono (op_appk (i := Try.t60) (m := 2) (bt := 32) (news := [vS b'5 0 n n, vI 0]) (q := 0) rfl rfl Try.underlying25 rfl rfl rfl rfl rfl (by decide) (((r56.ext m58).mod m59 (nC (lG (lL (lL rr1_1.lt sz86) lR)) nN)).ext m60).rng rfl rfl (Own.modb (Own.modb (Own.modb (Own.modb (Own.modb (Own.modb (Own.modb (Own.modb (Own.modb (Own.modb (Own.modb (Own.modb (Own.modb (Own.modb (Own.modb (Own.modb ro1_1 m39 (nC (lG (lL (lL r3.lt sz69) ge13)) nN)) m40 (nC (lG (lL (lL r3.lt sz69) ge13)) nN)) m41 nN) m42 nN) m43 (nC (lE (lL (lL rr1_3.lt sz79) lR)) nN)) m44 nN) m45 nN) m46 (nC (lE (lL (lL rr1_3.lt (lT sz81 m44.size)) lR)) nN)) md2 nN) m47 nN) m48 nN) m56 nN) m57 nN) m58 nN) m59 (nC (Ne.symm ne5) nN)) m60 nN) (lT (lT (lT (lT (lT (lT (lT (lT (lT (lT (lT (lT (lT (lT (lT (lT m38.size m39.size) m40.size) m41.size) m42.size) m43.size) m44.size) m45.size) m46.size) md2.size) m47.size) m48.size) m56.size) m57.size) m58.size) m59.size) m60.size) (by omega) (by omega) (by decide)) ?_
     have sz87 := (lT (lT sz64 m59.size) m60.size)
     have sz88 := (lT (lT sz66 m59.size) m60.size)
     have sz89 := (lT (lT sz68 m59.size) m60.size)
     have sz90 := (lT (lT sz70 m59.size) m60.size)
     have sz91 := (lT (lT sz72 m59.size) m60.size)
     have sz92 := (lT (lT sz74 m59.size) m60.size)
     have sz93 := (lT (lT sz75 m59.size) m60.size)
     have sz94 := (lT (lT sz76 m59.size) m60.size)
     have sz95 := (lT (lT sz77 m59.size) m60.size)
     have sz96 := (lT (lT sz78 m59.size) m60.size)
     have sz97 := (lT (lT sz80 m59.size) m60.size)
     have sz98 := (lT (lT sz82 m59.size) m60.size)
     have sz99 := (lT (lT sz83 m59.size) m60.size)
     have sz100 := (lT (lT sz85 m59.size) m60.size)
     have sz101 := (lT (lT m58.size m59.size) m60.size)
     rintro _ w63 ⟨b10, c10, rfl, ow10, hb4, m61⟩
     have r58 : Row w63 b10 0 [vS b'3 0 m m, vI 0, vS b'5 0 n n, vI 0] := (Own.row1 ow10).1
     refine ⟨(((Mod.refl [e1_4_0, e1_9_0] w61).nt m60).then m61 ((aC (.inl (by simp)) aN))), ?_⟩
     refine DR.sub [(10, vP w.heap.size 0), (11, vI 0), (12, .bool (fGe .f32 0 3212836864 && fLe .f32 0 1065353216)), (15, vP w4.heap.size 0), (17, vI ((n : Nat) : Int)), (18, vP w42.heap.size 0), (20, vP w45.heap.size 0), (60, vS lb 0 2 cl), (61, vI 2), (62, vI 1), (63, .bool true), (64, vP lb 1), (65, vI ((n : Nat) : Int)), (66, .bool (fGe .f32 0 3212836864 && fLe .f32 0 1065353216)), (67, .bool (!(fGe .f32 0 3212836864 && fLe .f32 0 1065353216))), (68, .bool (!(fGe .f32 0 3212836864 && fLe .f32 0 1065353216))), (69, vI ((n : Nat) : Int)), (70, .bool (vIn ((n : Nat) : Int) (1 : Int) (1024 : Int))), (71, .bool (!(vIn ((n : Nat) : Int) (1 : Int) (1024 : Int)))), (72, .bool (!(vIn ((n : Nat) : Int) (1 : Int) (1024 : Int)))), (74, .tuple #[.agg #[vS b'4 0 n n, vI 0], vI 0]), (75, vI ((n : Nat) : Int)), (76, .tuple #[.agg #[vS b'4 0 n n, vI 0], vI 0]), (77, .agg #[vS b'4 0 n n, vI 0]), (78, vI 0), (79, .tuple #[.agg #[vS b'5 0 n n, vI 0], vI 0]), (80, vI ((n : Nat) : Int)), (81, .tuple #[.agg #[vS b'5 0 n n, vI 0], vI 0]), (82, .agg #[vS b'5 0 n n, vI 0]), (83, vI 0), (84, vP w4.heap.size 0), (85, vS e1_4_0 0 1 e1_4_1), (86, .agg #[vS b'4 0 n n, vI 0]), (87, vS w49.heap.size 0 1 1), (88, vS b9 0 2 c9), (89, vP w4.heap.size 1), (90, vS e1_9_0 0 1 e1_9_1), (91, .agg #[vS b'5 0 n n, vI 0]), (92, vS w58.heap.size 0 1 1), (93, vS b10 0 2 c10), (94, vP w4.heap.size 0), (95, vP w4.heap.size 1), (96, vI 1)] ⟨rfl, rfl, rfl, rfl, rfl, rfl, rfl, rfl, rfl, rfl, rfl, rfl, rfl, rfl, rfl, rfl, rfl, rfl, rfl, rfl, rfl, rfl, rfl, rfl, rfl, rfl, rfl, rfl, rfl, rfl, rfl, rfl, rfl, rfl, rfl, rfl, rfl, rfl, rfl, rfl, rfl, rfl, rfl, trivial⟩ ?_
     refine DR.meet rfl ?_
     intro w64 m62
     have r59 := (((((((r49.ext m56).ext m57).ext m58).mod m59 (nC (lG (lL (lL rr1_1.lt sz84) lR)) nN)).ext m60).mod m61 (nC (lG (lL (lL rr1_3.lt sz84) lR)) nN)).ext m62)
     have r60 := (((r57.ext m60).mod m61 (nC (Ne.symm (own_ne hb3 (Ne.symm ne5) (lL rr1_3.lt sz77))) nN)).ext m62)
     have r61 := (((((r56.ext m58).mod m59 (nC (lG (lL (lL rr1_1.lt sz86) lR)) nN)).ext m60).mod m61 (nC (lG (lL (lL rr1_3.lt sz86) lR)) nN)).ext m62)
     have sz102 := (lT (lT (lT md2.size m47.size) m48.size) m56.size)
     exact ⟨w49.heap.size, b9, c9, w58.heap.size, b10, c10, rfl, r59, r60, r61, (r58.ext m62), (lT (lT md2.size m47.size) lR), (Own.row1 ow9).2, (lT sz102 lR), (Own.row1 ow10).2, (own_ne hb3 (lG (lL (lL rr1_1.lt sz84) lR)) (lL r49.lt sz85)), (lE (lL (lL r49.lt m56.size) lR)), (own_ne hb4 (lG (lL (lL rr1_3.lt sz84) lR)) (lL r49.lt sz100)), (Ne.symm (own_ne hb3 (lG (lL (lL rr1_1.lt sz86) lR)) (lL r56.lt m58.size))), (own_ne hb4 (Ne.symm (own_ne hb3 (Ne.symm ne5) (lL rr1_3.lt sz77))) (lL r57.lt m60.size)), (own_ne hb4 (lG (lL (lL rr1_3.lt sz86) lR)) (lL r56.lt sz101)), (own_ne hb3 (lE (lL (lL (rl.lt (Nat.succ_pos _)) sz63) ge11)) (lL (rl.lt (Nat.succ_pos _)) sz64)), (own_ne hb3 (lE (lL (lL (rs.lt (Nat.succ_pos _)) sz63) ge11)) (lL (rs.lt (Nat.succ_pos _)) sz64)), (own_ne hb3 (lE (lL (lL r1.lt sz65) ge11)) (lL r1.lt sz66)), (own_ne hb3 (lE (lL (lL r2.lt sz67) ge11)) (lL r2.lt sz68)), (own_ne hb3 (lE (lL (lL r3.lt sz69) ge11)) (lL r3.lt sz70)), (own_ne hb3 (lE (lL (lL r7.lt sz71) ge11)) (lL r7.lt sz72)), (own_ne hb3 (lE (lL (lL r8.lt sz73) ge11)) (lL r8.lt sz74)), (own_ne hb3 (lE (lL (lL r11.lt (lT m11.size m12.size)) ge11)) (lL r11.lt sz75)), (own_ne hb3 (lE (lL (lL r12.lt m12.size) ge11)) (lL r12.lt sz76)), (own_ne hb3 ne1 (lL rr1_0.lt sz77)), (own_ne hb3 (Ne.symm ne4) (lL rr1_2.lt sz77)), (own_ne hb3 (lG (lL (lL rr1_1.lt (lT m39.size m40.size)) ge14)) (lL r41.lt sz78)), (own_ne hb3 (lG (lL (lL rr1_1.lt sz79) lR)) (lL r42.lt sz80)), (own_ne hb3 (lG (lL (lL rr1_1.lt sz81) ge15)) (lL r45.lt sz82)), (own_ne hb3 (lG (lL (lL rr1_1.lt (lT sz81 m44.size)) lR)) (lL r46.lt sz83)), (own_ne hb4 (lE (lL (lL (rl.lt (Nat.succ_pos _)) sz63) ge13)) (lL (rl.lt (Nat.succ_pos _)) sz87)), (own_ne hb4 (lE (lL (lL (rs.lt (Nat.succ_pos _)) sz63) ge13)) (lL (rs.lt (Nat.succ_pos _)) sz87)), (own_ne hb4 (lE (lL (lL r1.lt sz65) ge13)) (lL r1.lt sz88)), (own_ne hb4 (lE (lL (lL r2.lt sz67) ge13)) (lL r2.lt sz89)), (own_ne hb4 (lE (lL (lL r3.lt sz69) ge13)) (lL r3.lt sz90)), (own_ne hb4 (lE (lL (lL r7.lt sz71) ge13)) (lL r7.lt sz91)), (own_ne hb4 (lE (lL (lL r8.lt sz73) ge13)) (lL r8.lt sz92)), (own_ne hb4 (lE (lL (lL r11.lt (lT m11.size m12.size)) ge13)) (lL r11.lt sz93)), (own_ne hb4 (lE (lL (lL r12.lt m12.size) ge13)) (lL r12.lt sz94)), (own_ne hb4 ne3 (lL rr1_0.lt sz95)), (own_ne hb4 ne6 (lL rr1_2.lt sz95)), (own_ne hb4 (lG (lL (lL rr1_3.lt (lT m39.size m40.size)) ge14)) (lL r41.lt sz96)), (own_ne hb4 (lG (lL (lL rr1_3.lt sz79) lR)) (lL r42.lt sz97)), (own_ne hb4 (lG (lL (lL rr1_3.lt sz81) ge15)) (lL r45.lt sz98)), (own_ne hb4 (lG (lL (lL rr1_3.lt (lT sz81 m44.size)) lR)) (lL r46.lt sz99)), (Own.modb (Own.modb (Own.modb ow9 m60 nN) m61 (nC (Ne.symm (own_ne hb3 (Ne.symm ne5) (lL rr1_3.lt sz77))) nN)) m62 nN), (Own.modb ow10 m62 nN), (((((((((((Mod.refl [e1_4_0, e1_9_0] w47).nt md2).nt m47).nt m48).nt m56).nt m57).nt m58).then m59 ((aC (.inl (by simp)) aN))).nt m60).then m61 ((aC (.inl (by simp)) aN))).nt m62)⟩
   ·refine DP.op (i := 8) rfl rfl (.free rfl) rfl (ltb rfl) ?_
    intro w65 m63
    refine Op1.mono (op_buildSl (qs := [(0, .agg #[vS b'5 0 n n, vI 0])]) (cells := #[vS b'5 0 n n, vI 0]) rfl Try.runUnderlying25 Try.sizeOf60 Try.zeroValue60 (by decide) (by decide) (by kernel_rfl)) ?_
    rintro _ w66 ⟨rfl, r62, m64, z22⟩
    refine ⟨(((Mod.refl [e1_4_0, e1_9_0] w48).nt m63).nt m64), ?_⟩
    refine DR.rebase ?_
    refine DR.one1 (i := 3) rfl rfl (by kernel_rfl) (.free rfl) rfl (ltb rfl) ?_
    intro w67 m65
    refine Op1.mono (op_buildSl (qs := [(0, .agg #[vS b'4 0 n n, vI 0])]) (cells := #[vS b'4 0 n n, vI 0]) rfl Try.runUnderlying25 Try.sizeOf60 Try.zeroValue60 (by decide) (by decide) (by kernel_rfl)) ?_
    rintro _ w68 ⟨rfl, r63, m66, z23⟩
    refine ⟨(((Mod.refl [e1_4_0, e1_9_0] w66).nt m65).nt m66), ?_⟩
    refine DR.rebase ?_
    refine DR.one1 (i := 4) rfl rfl (by kernel_rfl) (.free rfl) rfl (ltb rfl) ?_
    intro w69 m67
    refine Op1.mono (op_appk (i := Try.t60) (m := 2) (bt := 32) (news := [vS b'4 0 n n, vI 0]) (q := 0) rfl rfl Try.underlying25 rfl rfl rfl rfl rfl (by decide) (r63.ext m67).rng rfl rfl (Own.modb (Own.modb (Own.modb (Own.modb (Own.modb (Own.modb (Own.modb (Own.modb (Own.modb (Own.modb (Own.modb (Own.modb (Own.modb (Own.modb ro1_0 m39 (nC (lG (lL (lL r3.lt (lT (lT sz20 m11.size) m12.size)) ge11)) nN)) m40 (nC (lG (lL (lL r3.lt (lT (lT sz20 m11.size) m12.size)) ge11)) nN)) m41 nN) m42 nN) m43 (nC (lE (lL (lL rr1_1.lt (lT (lT m39.size m40.size) m41.size)) lR)) nN)) m44 nN) m45 nN) m46 (nC (lE (lL (lL rr1_1.lt (lT (lT (lT (lT (lT m39.size m40.size) m41.size) m42.size) m43.size) m44.size)) lR)) nN)) md2 nN) m63 nN) m64 nN) m65 nN) m66 nN) m67 nN) (lT (lT (lT (lT (lT (lT (lT (lT (lT (lT (lT (lT (lT (lT m38.size m39.size) m40.size) m41.size) m42.size) m43.size) m44.size) m45.size) m46.size) md2.size) m63.size) m64.size) m65.size) m66.size) m67.size) (by omega) (by omega) (by decide)) ?_
    have sz103 := (lT (lT sz22 m11.size) m12.size)
    have sz104 := (lT (lT (lT (lT (lT (lT (lT (lT (lT (lT (lT (lT (lT (lT (lT sz103 m38.size) m39.size) m40.size) m41.size) m42.size) m43.size) m44.size) m45.size) m46.size) md2.size) m63.size) m64.size) m65.size) m66.size) m67.size)
    have sz105 := (lT (lT (lT (lT (lT (lT (lT (lT (lT (lT m2.size m3.size) m4.size) m5.size) m6.size) m7.size) m8.size) m9.size) m10.size) m11.size) m12.size)
    have sz106 := (lT (lT (lT (lT (lT (lT (lT (lT (lT (lT (lT (lT (lT (lT (lT sz105 m38.size) m39.size) m40.size) m41.size) m42.size) m43.size) m44.size) m45.size) m46.size) md2.size) m63.size) m64.size) m65.size) m66.size) m67.size)
    have sz107 := (lT (lT (lT (lT (lT (lT (lT (lT m4.size m5.size) m6.size) m7.size) m8.size) m9.size) m10.size) m11.size) m12.size)
    have sz108 := (lT (lT (lT (lT (lT (lT (lT (lT (lT (lT (lT (lT (lT (lT (lT sz107 m38.size) m39.size) m40.size) m41.size) m42.size) m43.size) m44.size) m45.size) m46.size) md2.size) m63.size) m64.size) m65.size) m66.size) m67.size)
    have sz109 := (lT (lT sz20 m11.size) m12.size)
    have sz110 := (lT (lT (lT (lT (lT (lT (lT (lT (lT (lT (lT (lT (lT (lT (lT sz109 m38.size) m39.size) m40.size) m41.size) m42.size) m43.size) m44.size) m45.size) m46.size) md2.size) m63.size) m64.size) m65.size) m66.size) m67.size)
    have sz111 := (lT (lT (lT (lT m8.size m9.size) m10.size) m11.size) m12.size)
    have sz112 := (lT (lT (lT (lT (lT (lT (lT (lT (lT (lT (lT (lT (lT (lT (lT sz111 m38.size) m39.size) m40.size) m41.size) m42.size) m43.size) m44.size) m45.size) m46.size) md2.size) m63.size) m64.size) m65.size) m66.size) m67.size)
    have sz113 := (lT (lT (lT m9.size m10.size) m11.size) m12.size)
    have sz114 := (lT (lT (lT (lT (lT (lT (lT (lT (lT (lT (lT (lT (lT (lT (lT sz113 m38.size) m39.size) m40.size) m41.size) m42.size) m43.size) m44.size) m45.size) m46.size) md2.size) m63.size) m64.size) m65.size) m66.size) m67.size)
    have sz115 := (lT (lT (lT (lT (lT (lT (lT (lT (lT (lT (lT (lT (lT (lT (lT (lT m11.size m12.size) m38.size) m39.size) m40.size) m41.size) m42.size) m43.size) m44.size) m45.size) m46.size) md2.size) m63.size) m64.size) m65.size) m66.size) m67.size)
    have sz116 := (lT (lT (lT (lT (lT (lT (lT (lT (lT (lT (lT (lT (lT (lT (lT m12.size m38.size) m39.size) m40.size) m41.size) m42.size) m43.size) m44.size) m45.size) m46.size) md2.size) m63.size) m64.size) m65.size) m66.size) m67.size)
    have sz117 := (lT (lT (lT (lT (lT (lT (lT (lT (lT (lT (lT (lT (lT m39.size m40.size) m41.size) m42.size) m43.size) m44.size) m45.size) m46.size) md2.size) m63.size) m64.size) m65.size) m66.size) m67.size)
    have sz118 := (lT (lT (lT (lT (lT (lT (lT (lT (lT (lT m42.size m43.size) m44.size) m45.size) m46.size) md2.size) m63.size) m64.size) m65.size) m66.size) m67.size)
    have sz119 := (lT (lT m39.size m40.size) m41.size)
    have sz120 := (lT (lT (lT (lT (lT (lT (lT (lT (lT m43.size m44.size) m45.size) m46.size) md2.size) m63.size) m64.size) m65.size) m66.size) m67.size)
    have sz121 := (lT (lT sz119 m42.size) m43.size)
    have sz122 := (lT (lT (lT (lT (lT (lT (lT m45.size m46.size) md2.size) m63.size) m64.size) m65.size) m66.size) m67.size)
    have sz123 := (lT (lT (lT (lT (lT (lT m46.size md2.size) m63.size) m64.size) m65.size) m66.size) m67.size)
    have sz124 := (lT (lT (lT (lT (lT sz121 m44.size) m45.size) m46.size) md2.size) m63.size)
    have sz125 := (lT (lT m65.size m66.size) m67.size)
    have sz126 := (lT (lT sz124 m64.size) m65.size)
    rintro _ w70 ⟨b11, c11, rfl, ow11, hb5, m68⟩
    have r64 : Row w70 b11 0 [vS b'2 0 m m, vI 0, vS b'4 0 n n, vI 0] := (Own.row1 ow11).1
    refine ⟨(((Mod.refl [e1_4_0, e1_9_0] w68).nt m67).then m68 ((aC (.inl (by simp)) aN))), ?_⟩
    refine DR.rebase ?_
    refine DR.det (i := 10) rfl rfl (by kernel_rfl) (.free rfl) rfl rfl (fun wD mD => op_fieldAddr (off' := 0) rfl Try.runUnderlying33 rfl rfl Try.sizeOf25 rfl) ?_
    refine DR.one1 (i := 9) rfl rfl (by kernel_rfl) (.free rfl) rfl (ltb rfl) ?_
    intro w71 m69
    refine Op1.mono (op_appk (i := Try.t60) (m := 2) (bt := 32) (news := [vS b'5 0 n n, vI 0]) (q := 0) rfl rfl Try.underlying25 rfl rfl rfl rfl rfl (by decide) (((((r62.ext m65).ext m66).ext m67).mod m68 (nC (lG (lL (lL rr1_1.lt sz124) lR)) nN)).ext m69).rng rfl rfl (Own.modb (Own.modb (Own.modb (Own.modb (Own.modb (Own.modb (Own.modb (Own.modb (Own.modb (Own.modb (Own.modb (Own.modb (Own.modb (Own.modb (Own.modb (Own.modb ro1_1 m39 (nC (lG (lL (lL r3.lt sz109) ge13)) nN)) m40 (nC (lG (lL (lL r3.lt sz109) ge13)) nN)) m41 nN) m42 nN) m43 (nC (lE (lL (lL rr1_3.lt sz119) lR)) nN)) m44 nN) m45 nN) m46 (nC (lE (lL (lL rr1_3.lt (lT sz121 m44.size)) lR)) nN)) md2 nN) m63 nN) m64 nN) m65 nN) m66 nN) m67 nN) m68 (nC (Ne.symm ne5) nN)) m69 nN) (lT (lT (lT (lT (lT (lT (lT (lT (lT (lT (lT (lT (lT (lT (lT (lT m38.size m39.size) m40.size) m41.size) m42.size) m43.size) m44.size) m45.size) m46.size) md2.size) m63.size) m64.size) m65.size) m66.size) m67.size) m68.size) m69.size) (by omega) (by omega) (by decide)) ?_
    have sz127 := (lT (lT sz104 m68.size) m69.size)
    have sz128 := (lT (lT sz106 m68.size) m69.size)
    have sz129 := (lT (lT sz108 m68.size) m69.size)
    have sz130 := (lT (lT sz110 m68.size) m69.size)
    have sz131 := (lT (lT sz112 m68.size) m69.size)
    have sz132 := (lT (lT sz114 m68.size) m69.size)
    have sz133 := (lT (lT sz115 m68.size) m69.size)
    have sz134 := (lT (lT sz116 m68.size) m69.size)
    have sz135 := (lT (lT sz117 m68.size) m69.size)
    have sz136 := (lT (lT sz118 m68.size) m69.size)
    have sz137 := (lT (lT sz120 m68.size) m69.size)
    have sz138 := (lT (lT sz122 m68.size) m69.size)
    have sz139 := (lT (lT sz123 m68.size) m69.size)
    have sz140 := (lT (lT sz125 m68.size) m69.size)
    have sz141 := (lT (lT m67.size m68.size) m69.size)
    rintro _ w72 ⟨b12, c12, rfl, ow12, hb6, m70⟩
    have r65 : Row w72 b12 0 [vS b'3 0 m m, vI 0, vS b'5 0 n n, vI 0] := (Own.row1 ow12).1
    refine ⟨(((Mod.refl [e1_4_0, e1_9_0] w70).nt m69).then m70 ((aC (.inl (by simp)) aN))), ?_⟩
    refine DR.sub [(10, vP w.heap.size 0), (11, vI 0), (12, .bool (fGe .f32 0 3212836864 && fLe .f32 0 1065353216)), (15, vP w4.heap.size 0), (17, vI ((n : Nat) : Int)), (18, vP w42.heap.size 0), (20, vP w45.heap.size 0), (60, vS lb 0 2 cl), (61, vI 2), (62, vI 1), (63, .bool true), (64, vP lb 1), (65, vI ((n : Nat) : Int)), (66, .bool (fGe .f32 0 3212836864 && fLe .f32 0 1065353216)), (67, .bool (!(fGe .f32 0 3212836864 && fLe .f32 0 1065353216))), (68, .bool (!(fGe .f32 0 3212836864 && fLe .f32 0 1065353216))), (69, vI ((n : Nat) : Int)), (70, .bool (vIn ((n : Nat) : Int) (1 : Int) (1024 : Int))), (71, .bool (!(vIn ((n : Nat) : Int) (1 : Int) (1024 : Int)))), (72, .bool (!(vIn ((n : Nat) : Int) (1 : Int) (1024 : Int)))), (74, .tuple #[.agg #[vS b'4 0 n n, vI 0], vI 0]), (75, vI ((n : Nat) : Int)), (76, .tuple #[.agg #[vS b'4 0 n n, vI 0], vI 0]), (77, .agg #[vS b'4 0 n n, vI 0]), (78, vI 0), (79, .tuple #[.agg #[vS b'5 0 n n, vI 0], vI 0]), (80, vI ((n : Nat) : Int)), (81, .tuple #[.agg #[vS b'5 0 n n, vI 0], vI 0]), (82, .agg #[vS b'5 0 n n, vI 0]), (83, vI 0), (84, vP w4.heap.size 0), (85, vS e1_4_0 0 1 e1_4_1), (86, .agg #[vS b'4 0 n n, vI 0]), (87, vS w67.heap.size 0 1 1), (88, vS b11 0 2 c11), (89, vP w4.heap.size 1), (90, vS e1_9_0 0 1 e1_9_1), (91, .agg #[vS b'5 0 n n, vI 0]), (92, vS w65.heap.size 0 1 1), (93, vS b12 0 2 c12), (94, vP w4.heap.size 0), (95, vP w4.heap.size 1), (96, vI 1)] ⟨rfl, rfl, rfl, rfl, rfl, rfl, rfl, rfl, rfl, rfl, rfl, rfl, rfl, rfl, rfl, rfl, rfl, rfl, rfl, rfl, rfl, rfl, rfl, rfl, rfl, rfl, rfl, rfl, rfl, rfl, rfl, rfl, rfl, rfl, rfl, rfl, rfl, rfl, rfl, rfl, rfl, rfl, rfl, trivial⟩ ?_
    refine DR.meet rfl ?_
    intro w73 m71
    have r66 := (((((r63.ext m67).mod m68 (nC (lG (lL (lL rr1_1.lt sz126) lR)) nN)).ext m69).mod m70 (nC (lG (lL (lL rr1_3.lt sz126) lR)) nN)).ext m71)
    have r67 := (((r64.ext m69).mod m70 (nC (Ne.symm (own_ne hb5 (Ne.symm ne5) (lL rr1_3.lt sz117))) nN)).ext m71)
    have r68 := (((((((r62.ext m65).ext m66).ext m67).mod m68 (nC (lG (lL (lL rr1_1.lt sz124) lR)) nN)).ext m69).mod m70 (nC (lG (lL (lL rr1_3.lt sz124) lR)) nN)).ext m71)
    have sz142 := (lT (lT (lT md2.size m63.size) m64.size) m65.size)
    exact ⟨w67.heap.size, b11, c11, w65.heap.size, b12, c12, rfl, r66, r67, r68, (r65.ext m71), (lT sz142 lR), (Own.row1 ow11).2, (lT (lT md2.size m63.size) lR), (Own.row1 ow12).2, (own_ne hb5 (lG (lL (lL rr1_1.lt sz126) lR)) (lL r63.lt m67.size)), (lG (lL (lL r62.lt m65.size) lR)), (own_ne hb6 (lG (lL (lL rr1_3.lt sz126) lR)) (lL r63.lt sz141)), (Ne.symm (own_ne hb5 (lG (lL (lL rr1_1.lt sz124) lR)) (lL r62.lt sz125))), (own_ne hb6 (Ne.symm (own_ne hb5 (Ne.symm ne5) (lL rr1_3.lt sz117))) (lL r64.lt m69.size)), (own_ne hb6 (lG (lL (lL rr1_3.lt sz124) lR)) (lL r62.lt sz140)), (own_ne hb5 (lE (lL (lL (rl.lt (Nat.succ_pos _)) sz103) ge11)) (lL (rl.lt (Nat.succ_pos _)) sz104)), (own_ne hb5 (lE (lL (lL (rs.lt (Nat.succ_pos _)) sz103) ge11)) (lL (rs.lt (Nat.succ_pos _)) sz104)), (own_ne hb5 (lE (lL (lL r1.lt sz105) ge11)) (lL r1.lt sz106)), (own_ne hb5 (lE (lL (lL r2.lt sz107) ge11)) (lL r2.lt sz108)), (own_ne hb5 (lE (lL (lL r3.lt sz109) ge11)) (lL r3.lt sz110)), (own_ne hb5 (lE (lL (lL r7.lt sz111) ge11)) (lL r7.lt sz112)), (own_ne hb5 (lE (lL (lL r8.lt sz113) ge11)) (lL r8.lt sz114)), (own_ne hb5 (lE (lL (lL r11.lt (lT m11.size m12.size)) ge11)) (lL r11.lt sz115)), (own_ne hb5 (lE (lL (lL r12.lt m12.size) ge11)) (lL r12.lt sz116)), (own_ne hb5 ne1 (lL rr1_0.lt sz117)), (own_ne hb5 (Ne.symm ne4) (lL rr1_2.lt sz117)), (own_ne hb5 (lG (lL (lL rr1_1.lt (lT m39.size m40.size)) ge14)) (lL r41.lt sz118)), (own_ne hb5 (lG (lL (lL rr1_1.lt sz119) lR)) (lL r42.lt sz120)), (own_ne hb5 (lG (lL (lL rr1_1.lt sz121) ge15)) (lL r45.lt sz122)), (own_ne hb5 (lG (lL (lL rr1_1.lt (lT sz121 m44.size)) lR)) (lL r46.lt sz123)), (own_ne hb6 (lE (lL (lL (rl.lt (Nat.succ_pos _)) sz103) ge13)) (lL (rl.lt (Nat.succ_pos _)) sz127)), (own_ne hb6 (lE (lL (lL (rs.lt (Nat.succ_pos _)) sz103) ge13)) (lL (rs.lt (Nat.succ_pos _)) sz127)), (own_ne hb6 (lE (lL (lL r1.lt sz105) ge13)) (lL r1.lt sz128)), (own_ne hb6 (lE (lL (lL r2.lt sz107) ge13)) (lL r2.lt sz129)), (own_ne hb6 (lE (lL (lL r3.lt sz109) ge13)) (lL r3.lt sz130)), (own_ne hb6 (lE (lL (lL r7.lt sz111) ge13)) (lL r7.lt sz131)), (own_ne hb6 (lE (lL (lL r8.lt sz113) ge13)) (lL r8.lt sz132)), (own_ne hb6 (lE (lL (lL r11.lt (lT m11.size m12.size)) ge13)) (lL r11.lt sz133)), (own_ne hb6 (lE (lL (lL r12.lt m12.size) ge13)) (lL r12.lt sz134)), (own_ne hb6 ne3 (lL rr1_0.lt sz135)), (own_ne hb6 ne6 (lL rr1_2.lt sz135)), (own_ne hb6 (lG (lL (lL rr1_3.lt (lT m39.size m40.size)) ge14)) (lL r41.lt sz136)), (own_ne hb6 (lG (lL (lL rr1_3.lt sz119) lR)) (lL r42.lt sz137)), (own_ne hb6 (lG (lL (lL rr1_3.lt sz121) ge15)) (lL r45.lt sz138)), (own_ne hb6 (lG (lL (lL rr1_3.lt (lT sz121 m44.size)) lR)) (lL r46.lt sz139)), (Own.modb (Own.modb (Own.modb ow11 m69 nN) m70 (nC (Ne.symm (own_ne hb5 (Ne.symm ne5) (lL rr1_3.lt sz117))) nN)) m71 nN), (Own.modb ow12 m71 nN), (((((((((((Mod.refl [e1_4_0, e1_9_0] w47).nt md2).nt m63).nt m64).nt m65).nt m66).nt m67).then m68 ((aC (.inl (by simp)) aN))).nt m69).then m70 ((aC (.inl (by simp)) aN))).nt m71)⟩
  ·rintro _ w74 ⟨e2_3_0, e2_4_0, e2_4_1, e2_8_0, e2_9_0, e2_9_1, rfl, rr2_0, rr2_1, rr2_2, rr2_3, ge16, ge17, ge18, ge19, ne7, ne8, ne9, ne10, ne11, ne12, ne13, ne14, ne15, ne16, ne17, ne18, ne19, ne20, ne21, ne22, ne23, ne24, ne25, ne26, ne27, ne28, ne29, ne30, ne31, ne32, ne33, ne34, ne35, ne36, ne37, ne38, ne39, ne40, ne41, ne42, ro2_0, ro2_1, m72⟩
   have sz143 := (lT (lT (lT (lT (lT (lT sz20 m11.size) m12.size) m38.size) m39.size) m40.size) m41.size)
   have sz144 := (lT (lT (lT sz143 m42.size) m43.size) m44.size)
   have sz145 := (lT (lT sz20 m11.size) m12.size)
   have r69 := (((((((r39.ext m41).ext m42).mod m43 (nC (lE (lL (lL r3.lt sz143) lR)) nN)).ext m44).ext m45).mod m46 (nC (lE (lL (lL r3.lt sz144) lR)) nN)).mod m72 (nC (lE (lL (lL r3.lt sz145) ge11)) (nC (lE (lL (lL r3.lt sz145) ge13)) nN)))
   refine WO.op0 rfl (.free rfl) rfl (op_store (i := 0) (cs := [vS e2_4_0 0 2 e2_4_1]) rfl rfl rfl Try.sizeOf25 rfl r69 rfl (lB rfl) rfl) ?_
   rintro _ w75 ⟨r70, m73, z24⟩
   have r71 : Row w75 w4.heap.size 0 [vS e2_4_0 0 2 e2_4_1, vS e1_9_0 0 1 e1_9_1, vS b'1 0 1 c'1, vI 1, vF r_1, vF kw, vF 0, vF 0, vF 0, .bool op, vF lw, vF 1061158912, vF 3200253952] := Row.congr r70 rfl
   refine WO.det (op_fieldAddr (off' := 1) rfl Try.runUnderlying33 rfl rfl Try.sizeOf25 rfl) rfl (.free rfl) rfl rfl ?_
   refine WO.op0 rfl (.free rfl) rfl (op_store (i := 1) (cs := [vS e2_9_0 0 2 e2_9_1]) rfl rfl rfl Try.sizeOf25 rfl r71 rfl (lB rfl) rfl) ?_
   rintro _ w76 ⟨r72, m74, z25⟩
   have r73 : Row w76 w4.heap.size 0 [vS e2_4_0 0 2 e2_4_1, vS e2_9_0 0 2 e2_9_1, vS b'1 0 1 c'1, vI 1, vF r_1, vF kw, vF 0, vF 0, vF 0, .bool op, vF lw, vF 1061158912, vF 3200253952] := Row.congr r72 rfl
   refine WO.end (NE.blk (NE.code (CE.region ?_)))
   refine WL.det (op_add (r := 2) rfl rfl (by decide)) rfl rfl rfl ?_
   refine WL.det (op_move rfl) rfl rfl rfl ?_
   refine WL.end (NE.round (RN.one (CE.seq (CE.region ?_))))
   refine WL.det (op_lti rfl rfl) rfl rfl rfl ?_
   refine WL.end (NE.code (CE.seq ?_))
   refine CE.cond_f rfl rfl ?_
   refine CE.exit' (XE.exit_then (XE.exit_then (XE.exit_here (NE.code (CE.seq (CE.seq (CE.region ?_)))))))
   refine WL.det (op_move rfl) rfl rfl rfl ?_
   refine WL.det (op_not rfl) rfl rfl rfl ?_
   refine WL.end (NE.code ?_)
   refine CE.cond_f rfl (bnot_t (by decide +kernel)) ?_
   refine CE.skip' (NE.code (CE.seq (CE.region ?_)))
   refine WL.det (op_loadA (i := 0) (cs := [vS e2_4_0 0 2 e2_4_1, vS e2_9_0 0 2 e2_9_1, vS b'1 0 1 c'1, vI 1, vF r_1, vF kw, vF 0, vF 0, vF 0, .bool op, vF lw, vF 1061158912, vF 3200253952]) rfl Try.isAgg33 Try.sizeOf33 r73.rng rfl rfl rfl) rfl rfl rfl ?_
   have sz146 := (lT (lT m2.size m3.size) m4.size)
   have sz147 := (lT (lT (lT sz146 m5.size) m6.size) m7.size)
   have sz148 := (lT (lT (lT sz147 m8.size) m9.size) m10.size)
   have sz149 := (lT (lT (lT (lT (lT (lT sz148 m11.size) m12.size) m38.size) m39.size) m40.size) m41.size)
   have sz150 := (lT (lT (lT sz149 m42.size) m43.size) m44.size)
   have sz151 := (lT (lT sz148 m11.size) m12.size)
   have r74 := (((((((((((((((((((((((r1.ext m2).ext m3).ext m4).ext m5).mod m6 (nC (lE (lL (lL r1.lt sz146) lR)) nN)).ext m7).ext m8).mod m9 (nC (lE (lL (lL r1.lt sz147) lR)) nN)).ext m10).ext m11).mod m12 (nC (lE (lL (lL r1.lt sz148) lR)) nN)).ext m38).mod m39 (nC (lE (lL (lL r1.lt sz146) lR)) nN)).mod m40 (nC (lE (lL (lL r1.lt sz146) lR)) nN)).ext m41).ext m42).mod m43 (nC (lE (lL (lL r1.lt sz149) lR)) nN)).ext m44).ext m45).mod m46 (nC (lE (lL (lL r1.lt sz150) lR)) nN)).mod m72 (nC (lE (lL (lL r1.lt sz151) ge11)) (nC (lE (lL (lL r1.lt sz151) ge13)) nN))).mod m73 (nC (lE (lL (lL r1.lt sz146) lR)) nN)).mod m74 (nC (lE (lL (lL r1.lt sz146) lR)) nN))
   refine WL.op0 (op_store (i := 0) (cs := [vS e2_4_0 0 2 e2_4_1, vS e2_9_0 0 2 e2_9_1, vS b'1 0 1 c'1, vI 1, vF r_1, vF kw, vF 0, vF 0, vF 0, .bool op, vF lw, vF 1061158912, vF 3200253952]) rfl rfl rfl Try.sizeOf33 rfl r74 rfl (lB rfl) rfl) rfl rfl ?_
   rintro _ w77 ⟨r75, m75, z26⟩
   have r76 : Row w77 w.heap.size 0 [vS e2_4_0 0 2 e2_4_1, vS e2_9_0 0 2 e2_9_1, vS b'1 0 1 c'1, vI 1, vF r_1, vF kw, vF 0, vF 0, vF 0, .bool op, vF lw, vF 1061158912, vF 3200253952] := Row.congr r75 rfl
   refine WL.det (op_assign rfl) rfl rfl rfl ?_
   refine WL.end (NE.code (CE.ret' ?_))
   refine XE.leaveT Try.results23 (res_agg (cs := [vS e2_4_0 0 2 e2_4_1, vS e2_9_0 0 2 e2_9_1, vS b'1 0 1 c'1, vI 1, vF r_1, vF kw, vF 0, vF 0, vF 0, .bool op, vF lw, vF 1061158912, vF 3200253952]) rfl Try.isAgg33 Try.sizeOf33 r76.rng rfl (res_tmp rfl res_nil)) ?_
   have r77 := (((rr2_1.mod m73 (nC (Ne.symm ne17) nN)).mod m74 (nC (Ne.symm ne17) nN)).mod m75 (nC (Ne.symm ne15) nN))
   have r78 := (((rr2_3.mod m73 (nC (Ne.symm ne32) nN)).mod m74 (nC (Ne.symm ne32) nN)).mod m75 (nC (Ne.symm ne30) nN))
   have sz152 := (lT (lT (lT m4.size m5.size) m6.size) m7.size)
   have sz153 := (lT (lT (lT sz152 m8.size) m9.size) m10.size)
   have sz154 := (lT (lT (lT (lT (lT (lT sz153 m11.size) m12.size) m38.size) m39.size) m40.size) m41.size)
   have sz155 := (lT (lT (lT sz154 m42.size) m43.size) m44.size)
   have sz156 := (lT (lT sz153 m11.size) m12.size)
   have r79 := ((((((((((((((((((((((r2.ext m4).ext m5).mod m6 (nC (lE (lL (lL r2.lt m4.size) lR)) nN)).ext m7).ext m8).mod m9 (nC (lE (lL (lL r2.lt sz152) lR)) nN)).ext m10).ext m11).mod m12 (nC (lE (lL (lL r2.lt sz153) lR)) nN)).ext m38).mod m39 (nC (lE (lL (lL r2.lt m4.size) lR)) nN)).mod m40 (nC (lE (lL (lL r2.lt m4.size) lR)) nN)).ext m41).ext m42).mod m43 (nC (lE (lL (lL r2.lt sz154) lR)) nN)).ext m44).ext m45).mod m46 (nC (lE (lL (lL r2.lt sz155) lR)) nN)).mod m72 (nC (lE (lL (lL r2.lt sz156) ge11)) (nC (lE (lL (lL r2.lt sz156) ge13)) nN))).mod m73 (nC (lE (lL (lL r2.lt m4.size) lR)) nN)).mod m74 (nC (lE (lL (lL r2.lt m4.size) lR)) nN)).mod m75 (nC (lG (lL (lL r1.lt m2.size) ge1)) nN))
   have sz157 := (lT (lT m8.size m9.size) m10.size)
   have sz158 := (lT (lT (lT (lT (lT (lT sz157 m11.size) m12.size) m38.size) m39.size) m40.size) m41.size)
   have sz159 := (lT (lT (lT sz158 m42.size) m43.size) m44.size)
   have sz160 := (lT (lT sz157 m11.size) m12.size)
   have sz161 := (lT (lT sz146 m5.size) m6.size)
   have r80 := ((((((((((((((((((r7.ext m8).mod m9 (nC (lE (lL r7.lt lR)) nN)).ext m10).ext m11).mod m12 (nC (lE (lL (lL r7.lt sz157) lR)) nN)).ext m38).mod m39 (nC (lG (lL (lL r3.lt m6.size) ge2)) nN)).mod m40 (nC (lG (lL (lL r3.lt m6.size) ge2)) nN)).ext m41).ext m42).mod m43 (nC (lE (lL (lL r7.lt sz158) lR)) nN)).ext m44).ext m45).mod m46 (nC (lE (lL (lL r7.lt sz159) lR)) nN)).mod m72 (nC (lE (lL (lL r7.lt sz160) ge11)) (nC (lE (lL (lL r7.lt sz160) ge13)) nN))).mod m73 (nC (lG (lL (lL r3.lt m6.size) ge2)) nN)).mod m74 (nC (lG (lL (lL r3.lt m6.size) ge2)) nN)).mod m75 (nC (lG (lL (lL r1.lt sz161) ge2)) nN))
   have sz162 := (lT (lT m42.size m43.size) m44.size)
   have sz163 := (lT (lT (lT sz145 m38.size) m39.size) m40.size)
   have sz164 := (lT (lT (lT sz151 m38.size) m39.size) m40.size)
   have r81 := (((((((((r41.ext m42).mod m43 (nC (lE (lL r41.lt lR)) nN)).ext m44).ext m45).mod m46 (nC (lE (lL (lL r41.lt sz162) lR)) nN)).mod m72 (nC (lG (lL (lL rr1_1.lt (lT m39.size m40.size)) ge14)) (nC (lG (lL (lL rr1_3.lt (lT m39.size m40.size)) ge14)) nN))).mod m73 (nC (lG (lL (lL r3.lt sz163) ge14)) nN)).mod m74 (nC (lG (lL (lL r3.lt sz163) ge14)) nN)).mod m75 (nC (lG (lL (lL r1.lt sz164) ge14)) nN))
   have sz165 := (lT (lT (lT m6.size m7.size) m8.size) m9.size)
   have sz166 := (lT (lT (lT (lT (lT m11.size m12.size) m38.size) m39.size) m40.size) m41.size)
   have sz167 := (lT (lT (lT sz166 m42.size) m43.size) m44.size)
   have sz168 := (lT (lT sz147 m8.size) m9.size)
   have r82 := (((((((((((((((r11.ext m11).mod m12 (nC (lE (lL r11.lt lR)) nN)).ext m38).mod m39 (nC (lG (lL (lL r3.lt sz165) ge3)) nN)).mod m40 (nC (lG (lL (lL r3.lt sz165) ge3)) nN)).ext m41).ext m42).mod m43 (nC (lE (lL (lL r11.lt sz166) lR)) nN)).ext m44).ext m45).mod m46 (nC (lE (lL (lL r11.lt sz167) lR)) nN)).mod m72 (nC (lE (lL (lL r11.lt (lT m11.size m12.size)) ge11)) (nC (lE (lL (lL r11.lt (lT m11.size m12.size)) ge13)) nN))).mod m73 (nC (lG (lL (lL r3.lt sz165) ge3)) nN)).mod m74 (nC (lG (lL (lL r3.lt sz165) ge3)) nN)).mod m75 (nC (lG (lL (lL r1.lt sz168) ge3)) nN))
   have sz169 := (lT (lT (lT (lT m39.size m40.size) m41.size) m42.size) m43.size)
   have sz170 := (lT (lT sz143 m42.size) m43.size)
   have sz171 := (lT (lT sz149 m42.size) m43.size)
   have r83 := ((((((r45.ext m45).mod m46 (nC (lE (lL r45.lt lR)) nN)).mod m72 (nC (lG (lL (lL rr1_1.lt sz169) ge15)) (nC (lG (lL (lL rr1_3.lt sz169) ge15)) nN))).mod m73 (nC (lG (lL (lL r3.lt sz170) ge15)) nN)).mod m74 (nC (lG (lL (lL r3.lt sz170) ge15)) nN)).mod m75 (nC (lG (lL (lL r1.lt sz171) ge15)) nN))
   have sz172 := (lT (lT sz22 m11.size) m12.size)
   have sz173 := (lT (lT sz1 m5.size) m6.size)
   have sz174 := (lT (lT (lT sz172 m38.size) m39.size) m40.size)
   have sz175 := (lT (lT sz21 m8.size) m9.size)
   have sz176 := (lT (lT (lT sz174 m41.size) m42.size) m43.size)
   have sz177 := (lT (lT m4.size m5.size) m6.size)
   have sz178 := (lT (lT (lT sz156 m38.size) m39.size) m40.size)
   have sz179 := (lT (lT sz152 m8.size) m9.size)
   have sz180 := (lT (lT sz154 m42.size) m43.size)
   have sz181 := (lT (lT sz158 m42.size) m43.size)
   have sz182 := (lT (lT (lT (lT m11.size m12.size) m38.size) m39.size) m40.size)
   have sz183 := (lT (lT (lT sz160 m38.size) m39.size) m40.size)
   have sz184 := (lT (lT sz166 m42.size) m43.size)
   refine ⟨e2_4_0, e2_4_1, e2_9_0, e2_9_1, b'1, c'1, r_1, b'2, b'4, b'3, b'5, rfl, ?_, h2, r77, r78, (Row.congr r79 ?_), r80, r81, r82, r83, (lT sz172 ge17), (lT sz172 ge19), (lT (lT m1.size m2.size) ge1), (lT sz173 ge2), (lT sz174 ge14), (lT sz175 ge3), (lT sz176 ge15), ne11, (Ne.symm ne16), (Ne.symm ne31), ne18, ne33, (lG (lL (lL r2.lt sz177) ge2)), ne24, ne39, (lG (lL (lL r2.lt sz178) ge14)), ne20, ne35, (lG (lL (lL r2.lt sz179) ge3)), ne26, ne41, (lG (lL (lL r2.lt sz180) ge15)), (lE (lL (lL r7.lt (lT m8.size m9.size)) ge3)), (lE (lL (lL r7.lt sz181) ge15)), (lG (lL (lL r11.lt sz182) ge14)), (lE (lL (lL r41.lt (lT m42.size m43.size)) ge15)), (lE (lL (lL r7.lt sz183) ge14)), (lE (lL (lL r11.lt sz184) ge15)), ((((((((((((((((((((((((((Mod.refl [] w).nt m1).nt m2).nt m3).nt m4).nt m5).then m6 ((aC (.inr (lT sz1 lR)) aN))).nt m7).nt m8).then m9 ((aC (.inr (lT sz21 lR)) aN))).nt m10).nt m11).then m12 ((aC (.inr (lT sz22 lR)) aN))).nt m38).then m39 ((aC (.inr (lT sz1 lR)) aN))).then m40 ((aC (.inr (lT sz1 lR)) aN))).nt m41).nt m42).then m43 ((aC (.inr (lT (lT sz174 m41.size) lR)) aN))).nt m44).nt m45).then m46 ((aC (.inr (lT (lT sz176 m44.size) lR)) aN))).then m72 ((aC (.inr (lT sz172 ge11)) (aC (.inr (lT sz172 ge13)) aN)))).then m73 ((aC (.inr (lT sz1 lR)) aN))).then m74 ((aC (.inr (lT sz1 lR)) aN))).then m75 ((aC (.inr lR) aN)))⟩
   all_goals first | assumption | rfl

theorem c_NewPipe1 (m : Nat) (cl : Nat) (lb : Nat) (cs : Nat) (sb : Nat) (op : Bool) (kw : Nat) (lw : Nat) (h1m : 1 ≤ m) (h2m : m ≤ 1024) (lkw : kw < wid .f32) (llw : lw < wid .f32) (hk : (fGe .f32 kw 0 && fLt .f32 kw 1065353216) = true) (hl : (fGe .f32 lw 0 && fLe .f32 lw 1065353216) = true) (w : World) (rl : Rng w lb 0 [vI ((m : Nat) : Int)]) (rs : Rng w sb 0 []) : Cl Try.prog 23 #[vS lb 0 1 cl, vS sb 0 0 cs, .bool op, vF kw, vF lw] w fun v w' => ∃ (bR' : Nat) (cR' : Nat) (bL' : Nat) (cL' : Nat) (bS' : Nat) (cS' : Nat) (r_ : Nat) (d0' : Nat) (e0' : Nat), v = .tuple #[.agg #[vS bR' 0 1 cR', vS bL' 0 1 cL', vS bS' 0 0 cS', vI 1, vF r_, vF kw, vF 0, vF 0, vF 0, .bool op, vF lw, vF 1061158912, vF 3200253952], vI 0] ∧ (cn .f32 r_ = cn .f32 (fop .sub .f32 1065353216 kw)) ∧ (r_ < wid .f32) ∧ Row w' bR' 0 [vS d0' 0 m m, vI 0] ∧ Row w' bL' 0 [vS e0' 0 m m, vI 0] ∧ Row w' bS' 0 [] ∧ Row w' d0' 0 (fl (List.replicate m 0)) ∧ Row w' e0' 0 (fl (List.replicate m 0)) ∧ w.heap.size ≤ bR' ∧ w.heap.size ≤ bL' ∧ w.heap.size ≤ bS' ∧ w.heap.size ≤ d0' ∧ w.heap.size ≤ e0' ∧ bR' ≠ bL' ∧ bR' ≠ bS' ∧ bL' ≠ bS' ∧ d0' ≠ bR' ∧ d0' ≠ bL' ∧ d0' ≠ bS' ∧ e0' ≠ bR' ∧ e0' ≠ bL' ∧ e0' ≠ bS' ∧ d0' ≠ e0' ∧ Mod [] w w' := by
 refine Cl.of Try.func23 Try.ntmps23 rfl rfl (ρ := [(0, vS lb 0 1 cl), (1, vS sb 0 0 cs), (2, .bool op), (3, vF kw), (4, vF lw)]) rfl ?_
 refine CE.seq (CE.region ?_)
 refine WL.op (op_alloc (cs := [.slice none 0 0, .slice none 0 0, .slice none 0 0, vI 0, vF 0, vF 0, vF 0, vF 0, vF 0, .bool false, vF 0, vF 0, vF 0]) Try.zeroValue33 rfl) rfl rfl (ltb rfl) ?_
 rintro _ w1 ⟨rfl, r1, m1, z1⟩
 refine WL.det (op_assign rfl) rfl rfl rfl ?_
 refine WL.end (NE.code (CE.seq (CE.region ?_)))
 refine WL.det (op_move rfl) rfl rfl rfl ?_
 refine WL.call (oc_call (vs := [vS lb 0 1 cl]) (cap := []) rfl rfl rfl Try.call72 (c_lengthI 1 cl (some ⟨lb, 0, none⟩) w1)) rfl rfl (ltb rfl) ?_
 rintro _ _ ⟨rfl, rfl⟩
 refine WL.call (oc_call (vs := [vI 1, vI 1, vI 3]) (cap := []) rfl rfl rfl Try.call62 (c_within (1 : Int) (1 : Int) (3 : Int) w1)) rfl rfl (ltb rfl) ?_
 rintro _ _ ⟨rfl, rfl⟩
 refine WL.det (op_move rfl) rfl rfl rfl ?_
 refine WL.yes rfl rfl rfl (ltb rfl) rfl (by decide +kernel) ?_
 refine WL.det (op_move rfl) rfl rfl rfl ?_
 refine WL.yes rfl rfl rfl (ltb rfl) rfl (by decide +kernel) ?_
 refine WL.det (op_len rfl Try.runUnderlying26) rfl rfl rfl ?_
 refine WL.yes rfl rfl rfl (ltb rfl) rfl (by decide +kernel) ?_
 refine WL.det (op_move rfl) rfl rfl rfl ?_
 refine WL.yes rfl rfl rfl (ltb rfl) rfl (by decide +kernel) ?_
 refine WL.det (op_len rfl Try.runUnderlying36) rfl rfl rfl ?_
 refine WL.yes rfl rfl rfl (ltb rfl) rfl (by decide +kernel) ?_
 refine WL.det (op_sub (r := 0) rfl rfl (by decide)) rfl rfl rfl ?_
 refine WL.yes rfl rfl rfl (ltb rfl) rfl (by decide +kernel) ?_
 refine WL.det (op_eqi rfl rfl) rfl rfl rfl ?_
 refine WL.det (op_pick_t rfl (by decide +kernel) rfl) rfl rfl rfl ?_
 refine WL.det (op_move rfl) rfl rfl rfl ?_
 refine WL.yes rfl rfl rfl (ltb rfl) rfl rfl ?_
 refine WL.det (op_move rfl) rfl rfl rfl ?_
 refine WL.yes rfl rfl rfl (ltb rfl) rfl rfl ?_
 refine WL.call (oc_call (vs := [vF kw]) (cap := []) rfl rfl rfl Try.call73 (c_isKeepP kw w1)) rfl rfl (ltb rfl) ?_
 rintro _ w2 ⟨rfl, m2⟩
 refine WL.det (op_pick_t rfl rfl rfl) rfl rfl rfl ?_
 refine WL.det (op_move rfl) rfl rfl rfl ?_
 refine WL.yes rfl rfl rfl (ltb rfl) rfl hk ?_
 refine WL.det (op_move rfl) rfl rfl rfl ?_
 refine WL.yes rfl rfl rfl (ltb rfl) rfl hk ?_
 refine WL.call (oc_call (vs := [vF lw, vF 0, vF 1065353216]) (cap := []) rfl rfl rfl Try.call74 (c_insideP lw 0 1065353216 w2)) rfl rfl (ltb rfl) ?_
 rintro _ _ ⟨rfl, rfl⟩
 refine WL.det (op_pick_t rfl hk rfl) rfl rfl rfl ?_
 refine WL.det (op_assign rfl) rfl rfl rfl ?_
 refine WL.end (NE.code (CE.seq (CE.seq (CE.region ?_))))
 refine WL.det (op_move rfl) rfl rfl rfl ?_
 refine WL.det (op_len rfl Try.runUnderlying26) rfl rfl rfl ?_
 refine WL.det (op_move rfl) rfl rfl rfl ?_
 refine WL.end (NE.code (CE.block ?_))
 refine CE.rounds 1 ?_
 refine RN.one (CE.seq (CE.region ?_))
 refine WL.det (op_lti rfl rfl) rfl rfl rfl ?_
 refine WL.end (NE.code (CE.seq ?_))
 refine CE.cond_f rfl rfl ?_
 refine CE.exit' (XE.exit_then (XE.exit_then (XE.exit_here (NE.code (CE.seq (CE.region ?_))))))
 refine WL.det (op_move rfl) rfl rfl rfl ?_
 refine WL.call (oc_call (vs := [vS sb 0 0 cs]) (cap := []) rfl rfl rfl Try.call75 (c_Clone32_0 cs sb [] rfl w2 ((rs.ext m1).ext m2))) rfl rfl (ltb rfl) ?_
 rintro _ w3 ⟨b'1, rfl, r2, ge1, m3⟩
 refine WL.det (op_move rfl) rfl rfl rfl ?_
 refine WL.call (oc_call (vs := [vF kw]) (cap := []) rfl rfl rfl Try.call76 (c_OnePoleP kw lkw w3)) rfl rfl (ltb rfl) ?_
 rintro _ w4 ⟨r_1, rfl, h1, h2, m4⟩
 iterate 2 refine WL.det (op_move rfl) rfl rfl rfl ?_
 refine WL.det (op_build (qs := [(2, vS b'1 0 0 0), (3, .agg #[vI 1, vF r_1, vF kw, vF 0, vF 0, vF 0]), (4, .bool op), (5, vF lw), (6, vF 1061158912), (7, vF 3200253952)]) (cells := #[.slice none 0 0, .slice none 0 0, vS b'1 0 0 0, vI 1, vF r_1, vF kw, vF 0, vF 0, vF 0, .bool op, vF lw, vF 1061158912, vF 3200253952]) rfl (by kernel_rfl)) rfl rfl rfl ?_
 refine WL.op (op_alloc (cs := [.slice none 0 0, .slice none 0 0, .slice none 0 0, vI 0, vF 0, vF 0, vF 0, vF 0, vF 0, .bool false, vF 0, vF 0, vF 0]) Try.zeroValue33 rfl) rfl rfl (ltb rfl) ?_
 rintro _ w5 ⟨rfl, r3, m5, z2⟩
 refine WL.op0 (op_store (i := 0) (cs := [.slice none 0 0, .slice none 0 0, vS b'1 0 0 0, vI 1, vF r_1, vF kw, vF 0, vF 0, vF 0, .bool op, vF lw, vF 1061158912, vF 3200253952]) rfl rfl rfl Try.sizeOf33 rfl r3 rfl (lB rfl) rfl) rfl rfl ?_
 rintro _ w6 ⟨r4, m6, z3⟩
 have r5 : Row w6 w4.heap.size 0 [.slice none 0 0, .slice none 0 0, vS b'1 0 0 0, vI 1, vF r_1, vF kw, vF 0, vF 0, vF 0, .bool op, vF lw, vF 1061158912, vF 3200253952] := Row.congr r4 rfl
 refine WL.end (NE.code (CE.seq (CE.seq (CE.region ?_))))
 refine WL.det (op_move rfl) rfl rfl rfl ?_
 refine WL.det (op_len rfl Try.runUnderlying36) rfl rfl rfl ?_
 refine WL.det (op_move rfl) rfl rfl rfl ?_
 refine WL.end (NE.code (CE.block ?_))
 refine CE.rounds 2 ?_
 refine RN.one (CE.seq (CE.region ?_))
 refine WL.det (op_lti rfl rfl) rfl rfl rfl ?_
 refine WL.end (NE.code (CE.seq ?_))
 refine CE.cond_t rfl rfl ?_
 refine CE.skip' (NE.code (CE.seq (CE.block (CE.seq (CE.region ?_)))))
 refine WL.det (op_indexSl (off' := 0) rfl rfl rfl Try.runUnderlying36 Try.sizeOf2 (by omega) (by omega) rfl) rfl rfl rfl ?_
 have sz1 := (lT (lT (lT m1.size m2.size) m3.size) m4.size)
 have r6 := (Rng.youngS rl (((((rl.ext m1).ext m2).ext m3).ext m4).ext m5) m6 (allge_cons (lT sz1 lR) allge_nil))
 refine WL.det (op_load1 (i := 0) rfl Try.isAgg2 r6 rfl rfl) rfl rfl rfl ?_
 refine WL.det (op_assign rfl) rfl rfl rfl ?_
 refine WL.end (NE.code (CE.seq (CE.seq (CE.region ?_))))
 refine WL.det (op_move rfl) rfl rfl rfl ?_
 refine WL.det (op_not rfl) rfl rfl rfl ?_
 refine WL.det (op_move rfl) rfl rfl rfl ?_
 refine WL.yes rfl rfl rfl (ltb rfl) rfl (bnot_t hl) ?_
 refine WL.det (op_move rfl) rfl rfl rfl ?_
 refine WL.yes rfl rfl rfl (ltb rfl) rfl (bnot_t hl) ?_
 refine WL.call (oc_call (vs := [vI ((m : Nat) : Int), vI 1, vI 1024]) (cap := []) rfl rfl rfl Try.call62 (c_within ((m : Nat) : Int) (1 : Int) (1024 : Int) w6)) rfl rfl (ltb rfl) ?_
 rintro _ _ ⟨rfl, rfl⟩
 refine WL.yes rfl rfl rfl (ltb rfl) rfl (bnot_t hl) ?_
 refine WL.det (op_not rfl) rfl rfl rfl ?_
 refine WL.det (op_pick_f rfl (bnot_t hl) rfl) rfl rfl rfl ?_
 refine WL.end (NE.code ?_)
 refine CE.cond_f rfl (bnot_t ((vIn_t _ _ _).2 ⟨by omega, by omega⟩)) ?_
 refine CE.skip' (NE.code (CE.seq (CE.region ?_)))
 refine WL.det (op_move rfl) rfl rfl rfl ?_
 refine WL.call (oc_call (vs := [vI ((m : Nat) : Int)]) (cap := []) rfl rfl rfl Try.call77 (c_NewRingP m (by omega) (by omega) w6)) rfl rfl (ltb rfl) ?_
 rintro _ w7 ⟨b'2, rfl, r7, ge2, m7⟩
 refine WL.det (op_move rfl) rfl rfl rfl ?_
 iterate 2 refine WL.det (op_extract rfl rfl) rfl rfl rfl ?_
 refine WL.op (op_alloc (cs := [.slice none 0 0, vI 0]) Try.zeroValue60 rfl) rfl rfl (ltb rfl) ?_
 rintro _ w8 ⟨rfl, r8, m8, z4⟩
 refine WL.op0 (op_store (i := 0) (cs := [vS b'2 0 m m, vI 0]) rfl rfl rfl Try.sizeOf60 rfl r8 rfl (lB rfl) rfl) rfl rfl ?_
 rintro _ w9 ⟨r9, m9, z5⟩
 have r10 : Row w9 w7.heap.size 0 [vS b'2 0 m m, vI 0] := Row.congr r9 rfl
 refine WL.det (op_assign rfl) rfl rfl rfl ?_
 refine WL.end (NE.code (CE.seq (CE.region ?_)))
 refine WL.det (op_move rfl) rfl rfl rfl ?_
 refine WL.call (oc_call (vs := [vI ((m : Nat) : Int)]) (cap := []) rfl rfl rfl Try.call77 (c_NewRingP m (by omega) (by omega) w9)) rfl rfl (ltb rfl) ?_
 rintro _ w10 ⟨b'3, rfl, r11, ge3, m10⟩
 refine WL.det (op_move rfl) rfl rfl rfl ?_
 iterate 2 refine WL.det (op_extract rfl rfl) rfl rfl rfl ?_
 refine WL.op (op_alloc (cs := [.slice none 0 0, vI 0]) Try.zeroValue60 rfl) rfl rfl (ltb rfl) ?_
 rintro _ w11 ⟨rfl, r12, m11, z6⟩
 refine WL.op0 (op_store (i := 0) (cs := [vS b'3 0 m m, vI 0]) rfl rfl rfl Try.sizeOf60 rfl r12 rfl (lB rfl) rfl) rfl rfl ?_
 rintro _ w12 ⟨r13, m12, z7⟩
 have r14 : Row w12 w10.heap.size 0 [vS b'3 0 m m, vI 0] := Row.congr r13 rfl
 refine WL.det (op_assign rfl) rfl rfl rfl ?_
 refine WL.end (NE.code ?_)
 refine CE.drawF (fun _ => none) [0, 1, 2, 3, 4, 5, 6, 7, 8, 9, 10] [11, 12, 13] [] (fun ρ W => ∃ (e1_3_0 : Nat) (e1_4_0 : Nat) (e1_4_1 : Nat) (e1_8_0 : Nat) (e1_9_0 : Nat) (e1_9_1 : Nat), ρ = [(10, vP w.heap.size 0), (11, vI 0), (12, .bool (fGe .f32 lw 0 && fLe .f32 lw 1065353216)), (15, vP w4.heap.size 0), (17, vI ((m : Nat) : Int)), (18, vP w7.heap.size 0), (20, vP w10.heap.size 0), (60, vS lb 0 1 cl), (61, vI 1), (62, vI 0), (63, .bool true), (64, vP lb 0), (65, vI ((m : Nat) : Int)), (66, .bool (fGe .f32 lw 0 && fLe .f32 lw 1065353216)), (67, .bool (!(fGe .f32 lw 0 && fLe .f32 lw 1065353216))), (68, .bool (!(fGe .f32 lw 0 && fLe .f32 lw 1065353216))), (69, vI ((m : Nat) : Int)), (70, .bool (vIn ((m : Nat) : Int) (1 : Int) (1024 : Int))), (71, .bool (!(vIn ((m : Nat) : Int) (1 : Int) (1024 : Int)))), (72, .bool (!(vIn ((m : Nat) : Int) (1 : Int) (1024 : Int)))), (74, .tuple #[.agg #[vS b'2 0 m m, vI 0], vI 0]), (75, vI ((m : Nat) : Int)), (76, .tuple #[.agg #[vS b'2 0 m m, vI 0], vI 0]), (77, .agg #[vS b'2 0 m m, vI 0]), (78, vI 0), (79, .tuple #[.agg #[vS b'3 0 m m, vI 0], vI 0]), (80, vI ((m : Nat) : Int)), (81, .tuple #[.agg #[vS b'3 0 m m, vI 0], vI 0]), (82, .agg #[vS b'3 0 m m, vI 0]), (83, vI 0), (84, vP w4.heap.size 0), (85, .slice none 0 0), (86, .agg #[vS b'2 0 m m, vI 0]), (87, vS e1_3_0 0 1 1), (88, vS e1_4_0 0 1 e1_4_1), (89, vP w4.heap.size 1), (90, .slice none 0 0), (91, .agg #[vS b'3 0 m m, vI 0]), (92, vS e1_8_0 0 1 1), (93, vS e1_9_0 0 1 e1_9_1), (94, vP w4.heap.size 0)] ∧ Row W e1_3_0 0 [vS b'2 0 m m, vI 0] ∧ Row W e1_4_0 0 [vS b'2 0 m m, vI 0] ∧ Row W e1_8_0 0 [vS b'3 0 m m, vI 0] ∧ Row W e1_9_0 0 [vS b'3 0 m m, vI 0] ∧ w12.heap.size ≤ e1_3_0 ∧ w12.heap.size ≤ e1_4_0 ∧ w12.heap.size ≤ e1_8_0 ∧ w12.heap.size ≤ e1_9_0 ∧ e1_3_0 ≠ e1_4_0 ∧ e1_3_0 ≠ e1_8_0 ∧ e1_3_0 ≠ e1_9_0 ∧ e1_4_0 ≠ e1_8_0 ∧ e1_4_0 ≠ e1_9_0 ∧ e1_8_0 ≠ e1_9_0 ∧ Own 60 2 w12.heap.size W (some ⟨e1_4_0, 0, none⟩) 1 e1_4_1 [vS b'2 0 m m, vI 0] ∧ Own 60 2 w12.heap.size W (some ⟨e1_9_0, 0, none⟩) 1 e1_9_1 [vS b'3 0 m m, vI 0] ∧ Mod [] w12 W) (by kernel_rfl) (by kernel_rfl) ?_ ?_
 have md1 : Mod [] w12 w12.drew := (Mod.refl _ _).drew
 generalize w12.drew = w13 at md1 ⊢
 ·refine DR.det (i := 0) rfl rfl (by kernel_rfl) (.free rfl) rfl rfl (fun wD mD => op_fieldAddr (off' := 0) rfl Try.runUnderlying33 rfl rfl Try.sizeOf25 rfl) ?_
  refine DR.det (i := 1) rfl rfl (by kernel_rfl) (.free rfl) rfl rfl (fun wD mD => op_load1 (i := 0) rfl Try.isAgg25 ((((((((r5.ext m7).ext m8).mod m9 (nC (lE (lL (lL r3.lt (lT m6.size m7.size)) lR)) nN)).ext m10).ext m11).mod m12 (nC (lE (lL (lL r3.lt (lT (lT (lT (lT m6.size m7.size) m8.size) m9.size) m10.size)) lR)) nN)).ext md1).ext mD).rng rfl rfl) ?_
  refine DR.det (i := 2) rfl rfl (by kernel_rfl) (.free rfl) rfl rfl (fun wD mD => op_loadA (i := 0) (cs := [vS b'2 0 m m, vI 0]) rfl Try.isAgg60 Try.sizeOf60 (((((r10.ext m10).ext m11).mod m12 (nC (lE (lL (lL r8.lt (lT m9.size m10.size)) lR)) nN)).ext md1).ext mD).rng rfl rfl rfl) ?_
  refine DR.det (i := 5) rfl rfl (by kernel_rfl) (.free rfl) rfl rfl (fun wD mD => op_fieldAddr (off' := 1) rfl Try.runUnderlying33 rfl rfl Try.sizeOf25 rfl) ?_
  refine DR.det (i := 6) rfl rfl (by kernel_rfl) (.free rfl) rfl rfl (fun wD mD => op_load1 (i := 1) rfl Try.isAgg25 ((((((((r5.ext m7).ext m8).mod m9 (nC (lE (lL (lL r3.lt (lT m6.size m7.size)) lR)) nN)).ext m10).ext m11).mod m12 (nC (lE (lL (lL r3.lt (lT (lT (lT (lT m6.size m7.size) m8.size) m9.size) m10.size)) lR)) nN)).ext md1).ext mD).rng rfl rfl) ?_
  refine DR.det (i := 7) rfl rfl (by kernel_rfl) (.free rfl) rfl rfl (fun wD mD => op_loadA (i := 0) (cs := [vS b'3 0 m m, vI 0]) rfl Try.isAgg60 Try.sizeOf60 ((r14.ext md1).ext mD).rng rfl rfl rfl) ?_
  refine DR.fork (is := [3, 8]) (by kernel_rfl) (by decide) (all2 ?_ ?_)
  ·refine DP.op (i := 3) rfl rfl (.free rfl) rfl (ltb rfl) ?_
   intro w14 m13
   refine Op1.mono (op_buildSl (qs := [(0, .agg #[vS b'2 0 m m, vI 0])]) (cells := #[vS b'2 0 m m, vI 0]) rfl Try.runUnderlying25 Try.sizeOf60 Try.zeroValue60 (by decide) (by decide) (by kernel_rfl)) ?_
   rintro _ w15 ⟨rfl, r15, m14, z8⟩
   refine ⟨(((Mod.refl [] w13).nt m13).nt m14), ?_⟩
   refine DR.rebase ?_
   refine DR.fork (is := [4, 8]) (by kernel_rfl) (by decide) (all2 ?_ ?_)
   ·refine DP.op (i := 4) rfl rfl (.free rfl) rfl (ltb rfl) ?_
    intro w16 m15
    refine Op1.mono (op_app0 (i := Try.t60) (m := 2) (bt := 32) (news := [vS b'2 0 m m, vI 0]) (q := 0) (.inl rfl) rfl rfl Try.underlying25 rfl rfl rfl rfl rfl (by decide) (r15.ext m15).rng rfl rfl (by omega) (by decide)) ?_
    rintro _ w17 ⟨b1, c1, rfl, ow1, ge4, m16⟩
    have r16 : Row w17 b1 0 [vS b'2 0 m m, vI 0] := (Own.row1 ow1).1
    refine ⟨(((Mod.refl [] w15).nt m15).nt m16), ?_⟩
    refine DR.rebase ?_
    refine DR.det (i := 10) rfl rfl (by kernel_rfl) (.free rfl) rfl rfl (fun wD mD => op_fieldAddr (off' := 0) rfl Try.runUnderlying33 rfl rfl Try.sizeOf25 rfl) ?_
    refine DR.one1 (i := 8) rfl rfl (by kernel_rfl) (.free rfl) rfl (ltb rfl) ?_
    intro w18 m17
    refine Op1.mono (op_buildSl (qs := [(0, .agg #[vS b'3 0 m m, vI 0])]) (cells := #[vS b'3 0 m m, vI 0]) rfl Try.runUnderlying25 Try.sizeOf60 Try.zeroValue60 (by decide) (by decide) (by kernel_rfl)) ?_
    rintro _ w19 ⟨rfl, r17, m18, z9⟩
    refine ⟨(((Mod.refl [] w17).nt m17).nt m18), ?_⟩
    refine DR.rebase ?_
    refine DR.one1 (i := 9) rfl rfl (by kernel_rfl) (.free rfl) rfl (ltb rfl) ?_
    intro w20 m19
    refine Op1.mono (op_app0 (i := Try.t60) (m := 2) (bt := 32) (news := [vS b'3 0 m m, vI 0]) (q := 0) (.inl rfl) rfl rfl Try.underlying25 rfl rfl rfl rfl rfl (by decide) (r17.ext m19).rng rfl rfl (by omega) (by decide)) ?_
    rintro _ w21 ⟨b2, c2, rfl, ow2, ge5, m20⟩
    have r18 : Row w21 b2 0 [vS b'3 0 m m, vI 0] := (Own.row1 ow2).1
    refine ⟨(((Mod.refl [] w19).nt m19).nt m20), ?_⟩
    refine DR.sub [(10, vP w.heap.size 0), (11, vI 0), (12, .bool (fGe .f32 lw 0 && fLe .f32 lw 1065353216)), (15, vP w4.heap.size 0), (17, vI ((m : Nat) : Int)), (18, vP w7.heap.size 0), (20, vP w10.heap.size 0), (60, vS lb 0 1 cl), (61, vI 1), (62, vI 0), (63, .bool true), (64, vP lb 0), (65, vI ((m : Nat) : Int)), (66, .bool (fGe .f32 lw 0 && fLe .f32 lw 1065353216)), (67, .bool (!(fGe .f32 lw 0 && fLe .f32 lw 1065353216))), (68, .bool (!(fGe .f32 lw 0 && fLe .f32 lw 1065353216))), (69, vI ((m : Nat) : Int)), (70, .bool (vIn ((m : Nat) : Int) (1 : Int) (1024 : Int))), (71, .bool (!(vIn ((m : Nat) : Int) (1 : Int) (1024 : Int)))), (72, .bool (!(vIn ((m : Nat) : Int) (1 : Int) (1024 : Int)))), (74, .tuple #[.agg #[vS b'2 0 m m, vI 0], vI 0]), (75, vI ((m : Nat) : Int)), (76, .tuple #[.agg #[vS b'2 0 m m, vI 0], vI 0]), (77, .agg #[vS b'2 0 m m, vI 0]), (78, vI 0), (79, .tuple #[.agg #[vS b'3 0 m m, vI 0], vI 0]), (80, vI ((m : Nat) : Int)), (81, .tuple #[.agg #[vS b'3 0 m m, vI 0], vI 0]), (82, .agg #[vS b'3 0 m m, vI 0]), (83, vI 0), (84, vP w4.heap.size 0), (85, .slice none 0 0), (86, .agg #[vS b'2 0 m m, vI 0]), (87, vS w14.heap.size 0 1 1), (88, vS b1 0 1 c1), (89, vP w4.heap.size 1), (90, .slice none 0 0), (91, .agg #[vS b'3 0 m m, vI 0]), (92, vS w18.heap.size 0 1 1), (93, vS b2 0 1 c2), (94, vP w4.heap.size 0)] ⟨rfl, rfl, rfl, rfl, rfl, rfl, rfl, rfl, rfl, rfl, rfl, rfl, rfl, rfl, rfl, rfl, rfl, rfl, rfl, rfl, rfl, rfl, rfl, rfl, rfl, rfl, rfl, rfl, rfl, rfl, rfl, rfl, rfl, rfl, rfl, rfl, rfl, rfl, rfl, rfl, rfl, trivial⟩ ?_
    refine DR.meet rfl ?_
    intro w22 m21
    have r19 := (((((((r15.ext m15).ext m16).ext m17).ext m18).ext m19).ext m20).ext m21)
    have r20 := (((((r16.ext m17).ext m18).ext m19).ext m20).ext m21)
    have r21 := (((r17.ext m19).ext m20).ext m21)
    have sz2 := (lT (lT (lT md1.size m13.size) m14.size) m15.size)
    have sz3 := (lT (lT sz2 m16.size) m17.size)
    have sz4 := (lT (lT sz3 m18.size) m19.size)
    have sz5 := (lT (lT m15.size m16.size) m17.size)
    have sz6 := (lT (lT sz5 m18.size) m19.size)
    have sz7 := (lT (lT m17.size m18.size) m19.size)
    exact ⟨w14.heap.size, b1, c1, w18.heap.size, b2, c2, rfl, r19, r20, r21, (r18.ext m21), (lT (lT md1.size m13.size) lR), (lT sz2 ge4), (lT sz3 lR), (lT sz4 ge5), (lE (lL (lL r15.lt m15.size) ge4)), (lE (lL (lL r15.lt sz5) lR)), (lE (lL (lL r15.lt sz6) ge5)), (lE (lL (lL r16.lt m17.size) lR)), (lE (lL (lL r16.lt sz7) ge5)), (lE (lL (lL r17.lt m19.size) ge5)), (Own.low (Own.modb (Own.modb (Own.modb (Own.modb (Own.modb ow1 m17 nN) m18 nN) m19 nN) m20 nN) m21 nN) sz2), (Own.low (Own.modb ow2 m21 nN) sz4), (((((((((((Mod.refl [] w12).nt md1).nt m13).nt m14).nt m15).nt m16).nt m17).nt m18).nt m19).nt m20).nt m21)⟩
   ·refine DP.op (i := 8) rfl rfl (.free rfl) rfl (ltb rfl) ?_
    intro w23 m22
    refine Op1.mono (op_buildSl (qs := [(0, .agg #[vS b'3 0 m m, vI 0])]) (cells := #[vS b'3 0 m m, vI 0]) rfl Try.runUnderlying25 Try.sizeOf60 Try.zeroValue60 (by decide) (by decide) (by kernel_rfl)) ?_
    rintro _ w24 ⟨rfl, r22, m23, z10⟩
    refine ⟨(((Mod.refl [] w15).nt m22).nt m23), ?_⟩
    refine DR.rebase ?_
    refine DR.one1 (i := 4) rfl rfl (by kernel_rfl) (.free rfl) rfl (ltb rfl) ?_
    intro w25 m24
    refine Op1.mono (op_app0 (i := Try.t60) (m := 2) (bt := 32) (news := [vS b'2 0 m m, vI 0]) (q := 0) (.inl rfl) rfl rfl Try.underlying25 rfl rfl rfl rfl rfl (by decide) (((r15.ext m22).ext m23).ext m24).rng rfl rfl (by omega) (by decide)) ?_
    rintro _ w26 ⟨b3, c3, rfl, ow3, ge6, m25⟩
    have r23 : Row w26 b3 0 [vS b'2 0 m m, vI 0] := (Own.row1 ow3).1
    refine ⟨(((Mod.refl [] w24).nt m24).nt m25), ?_⟩
    refine DR.rebase ?_
    refine DR.det (i := 10) rfl rfl (by kernel_rfl) (.free rfl) rfl rfl (fun wD mD => op_fieldAddr (off' := 0) rfl Try.runUnderlying33 rfl rfl Try.sizeOf25 rfl) ?_
    refine DR.one1 (i := 9) rfl rfl (by kernel_rfl) (.free rfl) rfl (ltb rfl) ?_
    intro w27 m26
    refine Op1.mono (op_app0 (i := Try.t60) (m := 2) (bt := 32) (news := [vS b'3 0 m m, vI 0]) (q := 0) (.inl rfl) rfl rfl Try.underlying25 rfl rfl rfl rfl rfl (by decide) (((r22.ext m24).ext m25).ext m26).rng rfl rfl (by omega) (by decide)) ?_
    rintro _ w28 ⟨b4, c4, rfl, ow4, ge7, m27⟩
    have r24 : Row w28 b4 0 [vS b'3 0 m m, vI 0] := (Own.row1 ow4).1
    refine ⟨(((Mod.refl [] w26).nt m26).nt m27), ?_⟩
    refine DR.sub [(10, vP w.heap.size 0), (11, vI 0), (12, .bool (fGe .f32 lw 0 && fLe .f32 lw 1065353216)), (15, vP w4.heap.size 0), (17, vI ((m : Nat) : Int)), (18, vP w7.heap.size 0), (20, vP w10.heap.size 0), (60, vS lb 0 1 cl), (61, vI 1), (62, vI 0), (63, .bool true), (64, vP lb 0), (65, vI ((m : Nat) : Int)), (66, .bool (fGe .f32 lw 0 && fLe .f32 lw 1065353216)), (67, .bool (!(fGe .f32 lw 0 && fLe .f32 lw 1065353216))), (68, .bool (!(fGe .f32 lw 0 && fLe .f32 lw 1065353216))), (69, vI ((m : Nat) : Int)), (70, .bool (vIn ((m : Nat) : Int) (1 : Int) (1024 : Int))), (71, .bool (!(vIn ((m : Nat) : Int) (1 : Int) (1024 : Int)))), (72, .bool (!(vIn ((m : Nat) : Int) (1 : Int) (1024 : Int)))), (74, .tuple #[.agg #[vS b'2 0 m m, vI 0], vI 0]), (75, vI ((m : Nat) : Int)), (76, .tuple #[.agg #[vS b'2 0 m m, vI 0], vI 0]), (77, .agg #[vS b'2 0 m m, vI 0]), (78, vI 0), (79, .tuple #[.agg #[vS b'3 0 m m, vI 0], vI 0]), (80, vI ((m : Nat) : Int)), (81, .tuple #[.agg #[vS b'3 0 m m, vI 0], vI 0]), (82, .agg #[vS b'3 0 m m, vI 0]), (83, vI 0), (84, vP w4.heap.size 0), (85, .slice none 0 0), (86, .agg #[vS b'2 0 m m, vI 0]), (87, vS w14.heap.size 0 1 1), (88, vS b3 0 1 c3), (89, vP w4.heap.size 1), (90, .slice none 0 0), (91, .agg #[vS b'3 0 m m, vI 0]), (92, vS w23.heap.size 0 1 1), (93, vS b4 0 1 c4), (94, vP w4.heap.size 0)] ⟨rfl, rfl, rfl, rfl, rfl, rfl, rfl, rfl, rfl, rfl, rfl, rfl, rfl, rfl, rfl, rfl, rfl, rfl, rfl, rfl, rfl, rfl, rfl, rfl, rfl, rfl, rfl, rfl, rfl, rfl, rfl, rfl, rfl, rfl, rfl, rfl, rfl, rfl, rfl, rfl, rfl, trivial⟩ ?_
    refine DR.meet rfl ?_
    intro w29 m28
    have r25 := (((((((r15.ext m22).ext m23).ext m24).ext m25).ext m26).ext m27).ext m28)
    have r26 := (((r23.ext m26).ext m27).ext m28)
    have r27 := (((((r22.ext m24).ext m25).ext m26).ext m27).ext m28)
    have sz8 := (lT (lT (lT (lT (lT md1.size m13.size) m14.size) m22.size) m23.size) m24.size)
    have sz9 := (lT (lT (lT md1.size m13.size) m14.size) m22.size)
    have sz10 := (lT (lT sz8 m25.size) m26.size)
    have sz11 := (lT (lT m22.size m23.size) m24.size)
    have sz12 := (lT (lT sz11 m25.size) m26.size)
    have sz13 := (lT (lT m24.size m25.size) m26.size)
    exact ⟨w14.heap.size, b3, c3, w23.heap.size, b4, c4, rfl, r25, r26, r27, (r24.ext m28), (lT (lT md1.size m13.size) lR), (lT sz8 ge6), (lT sz9 lR), (lT sz10 ge7), (lE (lL (lL r15.lt sz11) ge6)), (lE (lL (lL r15.lt m22.size) lR)), (lE (lL (lL r15.lt sz12) ge7)), (lG (lL (lL r22.lt m24.size) ge6)), (lE (lL (lL r23.lt m26.size) ge7)), (lE (lL (lL r22.lt sz13) ge7)), (Own.low (Own.modb (Own.modb (Own.modb ow3 m26 nN) m27 nN) m28 nN) sz8), (Own.low (Own.modb ow4 m28 nN) sz10), (((((((((((Mod.refl [] w12).nt md1).nt m13).nt m14).nt m22).nt m23).nt m24).nt m25).nt m26).nt m27).nt m28)⟩
  ·refine DP.op (i := 8) rfl rfl (.free rfl) rfl (ltb rfl) ?_
   intro w30 m29
   refine Op1.mono (op_buildSl (qs := [(0, .agg #[vS b'3 0 m m, vI 0])]) (cells := #[vS b'3 0 m m, vI 0]) rfl Try.runUnderlying25 Try.sizeOf60 Try.zeroValue60 (by decide) (by decide) (by kernel_rfl)) ?_
   rintro _ w31 ⟨rfl, r28, m30, z11⟩
   refine ⟨(((Mod.refl [] w13).nt m29).nt m30), ?_⟩
   refine DR.rebase ?_
   refine DR.one1 (i := 3) rfl rfl (by kernel_rfl) (.free rfl) rfl (ltb rfl) ?_
   intro w32 m31
   refine Op1.mono (op_buildSl (qs := [(0, .agg #[vS b'2 0 m m, vI 0])]) (cells := #[vS b'2 0 m m, vI 0]) rfl Try.runUnderlying25 Try.sizeOf60 Try.zeroValue60 (by decide) (by decide) (by kernel_rfl)) ?_
   rintro _ w33 ⟨rfl, r29, m32, z12⟩
   refine ⟨(((Mod.refl [] w31).nt m31).nt m32), ?_⟩
   refine DR.rebase ?_
   refine DR.one1 (i := 4) rfl rfl (by kernel_rfl) (.free rfl) rfl (ltb rfl) ?_
   intro w34 m33
   refine Op1.mono (op_app0 (i := Try.t60) (m := 2) (bt := 32) (news := [vS b'2 0 m m, vI 0]) (q := 0) (.inl rfl) rfl rfl Try.underlying25 rfl rfl rfl rfl rfl (by decide) (r29.ext m33).rng rfl rfl (by omega) (by decide)) ?_
   rintro _ w35 ⟨b5, c5, rfl, ow5, ge8, m34⟩
   have r30 : Row w35 b5 0 [vS b'2 0 m m, vI 0] := (Own.row1 ow5).1
   refine ⟨(((Mod.refl [] w33).nt m33).nt m34), ?_⟩
   refine DR.rebase ?_
   refine DR.det (i := 10) rfl rfl (by kernel_rfl) (.free rfl) rfl rfl (fun wD mD => op_fieldAddr (off' := 0) rfl Try.runUnderlying33 rfl rfl Try.sizeOf25 rfl) ?_
   refine DR.one1 (i := 9) rfl rfl (by kernel_rfl) (.free rfl) rfl (ltb rfl) ?_
   intro w36 m35
   refine Op1.mono (op_app0 (i := Try.t60) (m := 2) (bt := 32) (news := [vS b'3 0 m m, vI 0]) (q := 0) (.inl rfl) rfl rfl Try.underlying25 rfl rfl rfl rfl rfl (by decide) (((((r28.ext m31).ext m32).ext m33).ext m34).ext m35).rng rfl rfl (by omega) (by decide)) ?_
   rintro _ w37 ⟨b6, c6, rfl, ow6, ge9, m36⟩
   have r31 : Row w37 b6 0 [vS b'3 0 m m, vI 0] := (Own.row1 ow6).1
   refine ⟨(((Mod.refl [] w35).nt m35).nt m36), ?_⟩
   refine DR.sub [(10, vP w.heap.size 0), (11, vI 0), (12, .bool (fGe .f32 lw 0 && fLe .f32 lw 1065353216)), (15, vP w4.heap.size 0), (17, vI ((m : Nat) : Int)), (18, vP w7.heap.size 0), (20, vP w10.heap.size 0), (60, vS lb 0 1 cl), (61, vI 1), (62, vI 0), (63, .bool true), (64, vP lb 0), (65, vI ((m : Nat) : Int)), (66, .bool (fGe .f32 lw 0 && fLe .f32 lw 1065353216)), (67, .bool (!(fGe .f32 lw 0 && fLe .f32 lw 1065353216))), (68, .bool (!(fGe .f32 lw 0 && fLe .f32 lw 1065353216))), (69, vI ((m : Nat) : Int)), (70, .bool (vIn ((m : Nat) : Int) (1 : Int) (1024 : Int))), (71, .bool (!(vIn ((m : Nat) : Int) (1 : Int) (1024 : Int)))), (72, .bool (!(vIn ((m : Nat) : Int) (1 : Int) (1024 : Int)))), (74, .tuple #[.agg #[vS b'2 0 m m, vI 0], vI 0]), (75, vI ((m : Nat) : Int)), (76, .tuple #[.agg #[vS b'2 0 m m, vI 0], vI 0]), (77, .agg #[vS b'2 0 m m, vI 0]), (78, vI 0), (79, .tuple #[.agg #[vS b'3 0 m m, vI 0], vI 0]), (80, vI ((m : Nat) : Int)), (81, .tuple #[.agg #[vS b'3 0 m m, vI 0], vI 0]), (82, .agg #[vS b'3 0 m m, vI 0]), (83, vI 0), (84, vP w4.heap.size 0), (85, .slice none 0 0), (86, .agg #[vS b'2 0 m m, vI 0]), (87, vS w32.heap.size 0 1 1), (88, vS b5 0 1 c5), (89, vP w4.heap.size 1), (90, .slice none 0 0), (91, .agg #[vS b'3 0 m m, vI 0]), (92, vS w30.heap.size 0 1 1), (93, vS b6 0 1 c6), (94, vP w4.heap.size 0)] ⟨rfl, rfl, rfl, rfl, rfl, rfl, rfl, rfl, rfl, rfl, rfl, rfl, rfl, rfl, rfl, rfl, rfl, rfl, rfl, rfl, rfl, rfl, rfl, rfl, rfl, rfl, rfl, rfl, rfl, rfl, rfl, rfl, rfl, rfl, rfl, rfl, rfl, rfl, rfl, rfl, rfl, trivial⟩ ?_
   refine DR.meet rfl ?_
   intro w38 m37
   have r32 := (((((r29.ext m33).ext m34).ext m35).ext m36).ext m37)
   have r33 := (((r30.ext m35).ext m36).ext m37)
   have r34 := (((((((r28.ext m31).ext m32).ext m33).ext m34).ext m35).ext m36).ext m37)
   have sz14 := (lT (lT (lT md1.size m29.size) m30.size) m31.size)
   have sz15 := (lT (lT sz14 m32.size) m33.size)
   have sz16 := (lT (lT sz15 m34.size) m35.size)
   have sz17 := (lT (lT m33.size m34.size) m35.size)
   have sz18 := (lT (lT m31.size m32.size) m33.size)
   have sz19 := (lT (lT sz18 m34.size) m35.size)
   exact ⟨w32.heap.size, b5, c5, w30.heap.size, b6, c6, rfl, r32, r33, r34, (r31.ext m37), (lT sz14 lR), (lT sz15 ge8), (lT (lT md1.size m29.size) lR), (lT sz16 ge9), (lE (lL (lL r29.lt m33.size) ge8)), (lG (lL (lL r28.lt m31.size) lR)), (lE (lL (lL r29.lt sz17) ge9)), (lG (lL (lL r28.lt sz18) ge8)), (lE (lL (lL r30.lt m35.size) ge9)), (lE (lL (lL r28.lt sz19) ge9)), (Own.low (Own.modb (Own.modb (Own.modb ow5 m35 nN) m36 nN) m37 nN) sz15), (Own.low (Own.modb ow6 m37 nN) sz16), (((((((((((Mod.refl [] w12).nt md1).nt m29).nt m30).nt m31).nt m32).nt m33).nt m34).nt m35).nt m36).nt m37)⟩
 ·rintro _ w39 ⟨e1_3_0, e1_4_0, e1_4_1, e1_8_0, e1_9_0, e1_9_1, rfl, rr1_0, rr1_1, rr1_2, rr1_3, ge10, ge11, ge12, ge13, ne1, ne2, ne3, ne4, ne5, ne6, ro1_0, ro1_1, m38⟩
  have sz20 := (lT (lT (lT (lT m6.size m7.size) m8.size) m9.size) m10.size)
  have r35 := (((((((r5.ext m7).ext m8).mod m9 (nC (lE (lL (lL r3.lt (lT m6.size m7.size)) lR)) nN)).ext m10).ext m11).mod m12 (nC (lE (lL (lL r3.lt sz20) lR)) nN)).ext m38)
  refine WO.op0 rfl (.free rfl) rfl (op_store (i := 0) (cs := [vS e1_4_0 0 1 e1_4_1]) rfl rfl rfl Try.sizeOf25 rfl r35 rfl (lB rfl) rfl) ?_
  rintro _ w40 ⟨r36, m39, z13⟩
  have r37 : Row w40 w4.heap.size 0 [vS e1_4_0 0 1 e1_4_1, .slice none 0 0, vS b'1 0 0 0, vI 1, vF r_1, vF kw, vF 0, vF 0, vF 0, .bool op, vF lw, vF 1061158912, vF 3200253952] := Row.congr r36 rfl
  refine WO.det (op_fieldAddr (off' := 1) rfl Try.runUnderlying33 rfl rfl Try.sizeOf25 rfl) rfl (.free rfl) rfl rfl ?_
  refine WO.op0 rfl (.free rfl) rfl (op_store (i := 1) (cs := [vS e1_9_0 0 1 e1_9_1]) rfl rfl rfl Try.sizeOf25 rfl r37 rfl (lB rfl) rfl) ?_
  rintro _ w41 ⟨r38, m40, z14⟩
  have r39 : Row w41 w4.heap.size 0 [vS e1_4_0 0 1 e1_4_1, vS e1_9_0 0 1 e1_9_1, vS b'1 0 0 0, vI 1, vF r_1, vF kw, vF 0, vF 0, vF 0, .bool op, vF lw, vF 1061158912, vF 3200253952] := Row.congr r38 rfl
  refine WO.end (NE.blk (NE.code (CE.region ?_)))
  refine WL.det (op_add (r := 1) rfl rfl (by decide)) rfl rfl rfl ?_
  refine WL.det (op_move rfl) rfl rfl rfl ?_
  refine WL.end (NE.round (RN.one (CE.seq (CE.region ?_))))
  refine WL.det (op_lti rfl rfl) rfl rfl rfl ?_
  refine WL.end (NE.code (CE.seq ?_))
  refine CE.cond_f rfl rfl ?_
  refine CE.exit' (XE.exit_then (XE.exit_then (XE.exit_here (NE.code (CE.seq (CE.seq (CE.region ?_)))))))
  refine WL.det (op_move rfl) rfl rfl rfl ?_
  refine WL.det (op_not rfl) rfl rfl rfl ?_
  refine WL.end (NE.code ?_)
  refine CE.cond_f rfl (bnot_t hl) ?_
  refine CE.skip' (NE.code (CE.seq (CE.region ?_)))
  refine WL.det (op_loadA (i := 0) (cs := [vS e1_4_0 0 1 e1_4_1, vS e1_9_0 0 1 e1_9_1, vS b'1 0 0 0, vI 1, vF r_1, vF kw, vF 0, vF 0, vF 0, .bool op, vF lw, vF 1061158912, vF 3200253952]) rfl Try.isAgg33 Try.sizeOf33 r39.rng rfl rfl rfl) rfl rfl rfl ?_
  have sz21 := (lT (lT m2.size m3.size) m4.size)
  have sz22 := (lT (lT (lT sz21 m5.size) m6.size) m7.size)
  have sz23 := (lT (lT (lT sz22 m8.size) m9.size) m10.size)
  have r40 := ((((((((((((((r1.ext m2).ext m3).ext m4).ext m5).mod m6 (nC (lE (lL (lL r1.lt sz21) lR)) nN)).ext m7).ext m8).mod m9 (nC (lE (lL (lL r1.lt sz22) lR)) nN)).ext m10).ext m11).mod m12 (nC (lE (lL (lL r1.lt sz23) lR)) nN)).ext m38).mod m39 (nC (lE (lL (lL r1.lt sz21) lR)) nN)).mod m40 (nC (lE (lL (lL r1.lt sz21) lR)) nN))
  refine WL.op0 (op_store (i := 0) (cs := [vS e1_4_0 0 1 e1_4_1, vS e1_9_0 0 1 e1_9_1, vS b'1 0 0 0, vI 1, vF r_1, vF kw, vF 0, vF 0, vF 0, .bool op, vF lw, vF 1061158912, vF 3200253952]) rfl rfl rfl Try.sizeOf33 rfl r40 rfl (lB rfl) rfl) rfl rfl ?_
  rintro _ w42 ⟨r41, m41, z15⟩
  have r42 : Row w42 w.heap.size 0 [vS e1_4_0 0 1 e1_4_1, vS e1_9_0 0 1 e1_9_1, vS b'1 0 0 0, vI 1, vF r_1, vF kw, vF 0, vF 0, vF 0, .bool op, vF lw, vF 1061158912, vF 3200253952] := Row.congr r41 rfl
  refine WL.det (op_assign rfl) rfl rfl rfl ?_
  refine WL.end (NE.code (CE.ret' ?_))
  refine XE.leaveT Try.results23 (res_agg (cs := [vS e1_4_0 0 1 e1_4_1, vS e1_9_0 0 1 e1_9_1, vS b'1 0 0 0, vI 1, vF r_1, vF kw, vF 0, vF 0, vF 0, .bool op, vF lw, vF 1061158912, vF 3200253952]) rfl Try.isAgg33 Try.sizeOf33 r42.rng rfl (res_tmp rfl res_nil)) ?_
  have sz24 := (lT (lT sz20 m11.size) m12.size)
  have sz25 := (lT (lT sz23 m11.size) m12.size)
  have r43 := (((rr1_1.mod m39 (nC (lG (lL (lL r3.lt sz24) ge11)) nN)).mod m40 (nC (lG (lL (lL r3.lt sz24) ge11)) nN)).mod m41 (nC (lG (lL (lL r1.lt sz25) ge11)) nN))
  have r44 := (((rr1_3.mod m39 (nC (lG (lL (lL r3.lt sz24) ge13)) nN)).mod m40 (nC (lG (lL (lL r3.lt sz24) ge13)) nN)).mod m41 (nC (lG (lL (lL r1.lt sz25) ge13)) nN))
  have sz26 := (lT (lT (lT m4.size m5.size) m6.size) m7.size)
  have sz27 := (lT (lT (lT sz26 m8.size) m9.size) m10.size)
  have r45 := (((((((((((((r2.ext m4).ext m5).mod m6 (nC (lE (lL (lL r2.lt m4.size) lR)) nN)).ext m7).ext m8).mod m9 (nC (lE (lL (lL r2.lt sz26) lR)) nN)).ext m10).ext m11).mod m12 (nC (lE (lL (lL r2.lt sz27) lR)) nN)).ext m38).mod m39 (nC (lE (lL (lL r2.lt m4.size) lR)) nN)).mod m40 (nC (lE (lL (lL r2.lt m4.size) lR)) nN)).mod m41 (nC (lG (lL (lL r1.lt m2.size) ge1)) nN))
  have sz28 := (lT (lT m8.size m9.size) m10.size)
  have sz29 := (lT (lT sz21 m5.size) m6.size)
  have r46 := (((((((((r7.ext m8).mod m9 (nC (lE (lL r7.lt lR)) nN)).ext m10).ext m11).mod m12 (nC (lE (lL (lL r7.lt sz28) lR)) nN)).ext m38).mod m39 (nC (lG (lL (lL r3.lt m6.size) ge2)) nN)).mod m40 (nC (lG (lL (lL r3.lt m6.size) ge2)) nN)).mod m41 (nC (lG (lL (lL r1.lt sz29) ge2)) nN))
  have sz30 := (lT (lT (lT m6.size m7.size) m8.size) m9.size)
  have sz31 := (lT (lT sz22 m8.size) m9.size)
  have r47 := ((((((r11.ext m11).mod m12 (nC (lE (lL r11.lt lR)) nN)).ext m38).mod m39 (nC (lG (lL (lL r3.lt sz30) ge3)) nN)).mod m40 (nC (lG (lL (lL r3.lt sz30) ge3)) nN)).mod m41 (nC (lG (lL (lL r1.lt sz31) ge3)) nN))
  have sz32 := (lT (lT (lT (lT (lT (lT (lT (lT sz1 m5.size) m6.size) m7.size) m8.size) m9.size) m10.size) m11.size) m12.size)
  have sz33 := (lT (lT sz1 m5.size) m6.size)
  have sz34 := (lT (lT (lT sz33 m7.size) m8.size) m9.size)
  have sz35 := (lT (lT sz27 m11.size) m12.size)
  have sz36 := (lT (lT sz28 m11.size) m12.size)
  have sz37 := (lT (lT m4.size m5.size) m6.size)
  have sz38 := (lT (lT sz26 m8.size) m9.size)
  refine ⟨e1_4_0, e1_4_1, e1_9_0, e1_9_1, b'1, 0, r_1, b'2, b'3, rfl, ?_, h2, r43, r44, (Row.congr r45 ?_), r46, r47, (lT sz32 ge11), (lT sz32 ge13), (lT (lT m1.size m2.size) ge1), (lT sz33 ge2), (lT sz34 ge3), ne5, (lG (lL (lL r2.lt sz35) ge11)), (lG (lL (lL r2.lt sz35) ge13)), (lE (lL (lL r7.lt sz36) ge11)), (lE (lL (lL r7.lt sz36) ge13)), (lG (lL (lL r2.lt sz37) ge2)), (lE (lL (lL r11.lt (lT m11.size m12.size)) ge11)), (lE (lL (lL r11.lt (lT m11.size m12.size)) ge13)), (lG (lL (lL r2.lt sz38) ge3)), (lE (lL (lL r7.lt (lT m8.size m9.size)) ge3)), (((((((((((((((((Mod.refl [] w).nt m1).nt m2).nt m3).nt m4).nt m5).then m6 ((aC (.inr (lT sz1 lR)) aN))).nt m7).nt m8).then m9 ((aC (.inr (lT (lT sz33 m7.size) lR)) aN))).nt m10).nt m11).then m12 ((aC (.inr (lT (lT sz34 m10.size) lR)) aN))).nt m38).then m39 ((aC (.inr (lT sz1 lR)) aN))).then m40 ((aC (.inr (lT sz1 lR)) aN))).then m41 ((aC (.inr lR) aN)))⟩
  all_goals first | assumption | rfl

end Go.Proofs.Ytnahhdnkbbdceaa
