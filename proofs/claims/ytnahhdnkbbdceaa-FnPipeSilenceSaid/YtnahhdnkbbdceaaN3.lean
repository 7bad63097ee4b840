/- The pipes of the law on silence. -/
import Derived.Test.YtnahhdnkbbdceaaN2
import Derived.Test.YtnahhdnkbbdceaaS6
set_option linter.unusedVariables false
set_option linter.unusedSimpArgs false
set_option maxRecDepth 100000
set_option maxHeartbeats 8000000
namespace Go.Proofs.Ytnahhdnkbbdceaa

theorem c_sOnePoleP (x : Nat) (lx : x < wid .f32) (w : World) : Cl Try.prog 56 #[vF x] w fun v w' => ∃ (r_ : Nat), v = .agg #[vI 1, vF r_, vF x, vF 0, vF 0, vF 0] ∧ (cn .f32 r_ = cn .f32 (fop .sub .f32 1065353216 x)) ∧ (r_ < wid .f32) ∧ Mod [] w w' := by
 refine Cl.of Try.func56 Try.ntmps56 rfl rfl (ρ := [(0, vF x)]) rfl ?_
 refine CE.seq (CE.region ?_)
 refine WL.op (op_alloc (cs := [vI 0, vF 0, vF 0, vF 0, vF 0, vF 0]) Try.zeroValue31 rfl) rfl rfl (ltb rfl) ?_
 rintro _ w1 ⟨rfl, r1, m1, z1⟩
 refine WL.end (NE.code (CE.seq (CE.region ?_)))
 refine WL.det (op_move rfl) rfl rfl rfl ?_
 refine WL.op (op_farith (e := (fop .sub .f32 1065353216 x)) (.inr (.inl rfl)) rfl rfl rfl rfl rfl) rfl rfl (ltb rfl) ?_
 rintro _ w2 ⟨⟨f1, rfl, hf1, lf1⟩, m2⟩
 refine WL.det (op_move rfl) rfl rfl rfl ?_
 refine WL.det (op_build (qs := [(0, vF f1), (1, vF x), (2, vF 0)]) (cells := #[vF f1, vF x, vF 0]) rfl (by kernel_rfl)) rfl rfl rfl ?_
 refine WL.det (op_build (qs := [(0, vI 1), (1, .agg #[vF f1, vF x, vF 0])]) (cells := #[vI 1, vF f1, vF x, vF 0, vF 0, vF 0]) rfl (by kernel_rfl)) rfl rfl rfl ?_
 refine WL.op0 (op_store (i := 0) (cs := [vI 1, vF f1, vF x, vF 0, vF 0, vF 0]) rfl rfl rfl Try.sizeOf31 rfl (r1.ext m2) rfl (lB rfl) rfl) rfl rfl ?_
 rintro _ w3 ⟨r2, m3, z2⟩
 have r3 : Row w3 w.heap.size 0 [vI 1, vF f1, vF x, vF 0, vF 0, vF 0] := Row.congr r2 rfl
 refine WL.end (NE.code (CE.ret' ?_))
 refine XE.leaveC Try.results56 (res_agg (cs := [vI 1, vF f1, vF x, vF 0, vF 0, vF 0]) rfl Try.isAgg31 Try.sizeOf31 r3.rng rfl res_nil) ?_
 refine ⟨f1, rfl, ?_, lf1, ((((Mod.refl [] w).nt m1).nt m2).then m3 ((aC (.inr lR) aN)))⟩
 all_goals simp_all

theorem c_sNewP1 (m : Nat) (cl : Nat) (lb : Nat) (cs : Nat) (sb : Nat) (op : Bool) (kw : Nat) (h1 : 1 ≤ m) (h2 : m ≤ 1024) (lkw : kw < wid .f32) (hk : (fGe .f32 kw 0 && fLt .f32 kw 1065353216) = true) (w : World) (rl : Rng w lb 0 [vI ((m : Nat) : Int)]) (rs : Rng w sb 0 []) : Cl Try.prog 15 #[vS lb 0 1 cl, vS sb 0 0 cs, .bool op, vF kw, vF 1061158912] w fun v w' => ∃ (bR' : Nat) (cR' : Nat) (bL' : Nat) (cL' : Nat) (bS' : Nat) (cS' : Nat) (r_ : Nat) (d' : Nat) (e' : Nat), v = .tuple #[.agg #[vS bR' 0 1 cR', vS bL' 0 1 cL', vS bS' 0 0 cS', vI 1, vF r_, vF kw, vF 0, vF 0, vF 0, .bool op, vF 1061158912, vF 1061158912, vF 3200253952], vI 0] ∧ (cn .f32 r_ = cn .f32 (fop .sub .f32 1065353216 kw)) ∧ (r_ < wid .f32) ∧ Row w' bR' 0 [vS d' 0 m m, vI 0] ∧ Row w' bL' 0 [vS e' 0 m m, vI 0] ∧ Row w' bS' 0 [] ∧ Row w' d' 0 (fl (List.replicate m 0)) ∧ Row w' e' 0 (fl (List.replicate m 0)) ∧ w.heap.size ≤ bR' ∧ w.heap.size ≤ bL' ∧ w.heap.size ≤ bS' ∧ w.heap.size ≤ d' ∧ w.heap.size ≤ e' ∧ bR' ≠ bL' ∧ bR' ≠ bS' ∧ bL' ≠ bS' ∧ d' ≠ bR' ∧ d' ≠ bL' ∧ d' ≠ bS' ∧ d' ≠ e' ∧ e' ≠ bR' ∧ e' ≠ bL' ∧ e' ≠ bS' ∧ Mod [] w w' := by
 refine Cl.of Try.func15 Try.ntmps15 rfl rfl (ρ := [(0, vS lb 0 1 cl), (1, vS sb 0 0 cs), (2, .bool op), (3, vF kw), (4, vF 1061158912)]) rfl ?_
 refine CE.seq (CE.region ?_)
 refine WL.op (op_alloc (cs := [.slice none 0 0, .slice none 0 0, .slice none 0 0, vI 0, vF 0, vF 0, vF 0, vF 0, vF 0, .bool false, vF 0, vF 0, vF 0]) Try.zeroValue33 rfl) rfl rfl (ltb rfl) ?_
 rintro _ w1 ⟨rfl, r1, m1, z1⟩
 refine WL.det (op_assign rfl) rfl rfl rfl ?_
 refine WL.end (NE.code (CE.seq (CE.region ?_)))
 refine WL.det (op_move rfl) rfl rfl rfl ?_
 refine WL.det (op_len rfl Try.runUnderlying36) rfl rfl rfl ?_
 refine WL.call (oc_call (vs := [vI 1, vI 1, vI 3]) (cap := []) rfl rfl rfl Try.call55 (c_l00In (1 : Int) (1 : Int) (3 : Int) w1)) rfl rfl (ltb rfl) ?_
 rintro _ _ ⟨rfl, rfl⟩
 refine WL.det (op_move rfl) rfl rfl rfl ?_
 refine WL.yes rfl rfl rfl (ltb rfl) rfl (by decide +kernel) ?_
 refine WL.det (op_move rfl) rfl rfl rfl ?_
 refine WL.yes rfl rfl rfl (ltb rfl) rfl (by decide +kernel) ?_
 refine WL.det (op_len rfl Try.runUnderlying26) rfl rfl rfl ?_
 refine WL.yes rfl rfl rfl (ltb rfl) rfl (by decide +kernel) ?_
 refine WL.det (op_move rfl) rfl rfl rfl ?_
 refine WL.yes rfl rfl rfl (ltb rfl) rfl (by decide +kernel) ?_
 refine WL.det (op_len rfl Try.runUnderlying36) rfl rfl rfl ?_
 refine WL.yes rfl rfl rfl (ltb rfl) rfl (by decide +kernel) ?_
 refine WL.det (op_sub (r := 0) rfl rfl (by decide)) rfl rfl rfl ?_
 refine WL.yes rfl rfl rfl (ltb rfl) rfl (by decide +kernel) ?_
 refine WL.det (op_eqi rfl rfl) rfl rfl rfl ?_
 refine WL.det (op_pick_t rfl (by decide +kernel) rfl) rfl rfl rfl ?_
 refine WL.det (op_move rfl) rfl rfl rfl ?_
 refine WL.yes rfl rfl rfl (ltb rfl) rfl rfl ?_
 refine WL.det (op_move rfl) rfl rfl rfl ?_
 refine WL.yes rfl rfl rfl (ltb rfl) rfl rfl ?_
 refine WL.det (op_fge (c := fGe .f32 kw 0) rfl rfl rfl rfl rfl) rfl rfl rfl ?_
 refine WL.det (op_pick_t rfl rfl rfl) rfl rfl rfl ?_
 refine WL.det (op_move rfl) rfl rfl rfl ?_
 refine WL.yes rfl rfl rfl (ltb rfl) rfl (and_l9 hk) ?_
 refine WL.det (op_move rfl) rfl rfl rfl ?_
 refine WL.yes rfl rfl rfl (ltb rfl) rfl (and_l9 hk) ?_
 refine WL.det (op_flt (c := fLt .f32 kw 1065353216) rfl rfl rfl rfl rfl) rfl rfl rfl ?_
 refine WL.det (op_pick_t rfl (and_l9 hk) rfl) rfl rfl rfl ?_
 refine WL.det (op_move rfl) rfl rfl rfl ?_
 refine WL.yes rfl rfl rfl (ltb rfl) rfl (and_r9 hk) ?_
 refine WL.det (op_move rfl) rfl rfl rfl ?_
 refine WL.yes rfl rfl rfl (ltb rfl) rfl (and_r9 hk) ?_
 refine WL.det (op_fge (c := fGe .f32 1061158912 0) rfl rfl rfl rfl rfl) rfl rfl rfl ?_
 refine WL.det (op_pick_t rfl (and_r9 hk) rfl) rfl rfl rfl ?_
 refine WL.det (op_move rfl) rfl rfl rfl ?_
 refine WL.yes rfl rfl rfl (ltb rfl) rfl (by decide +kernel) ?_
 refine WL.det (op_move rfl) rfl rfl rfl ?_
 refine WL.yes rfl rfl rfl (ltb rfl) rfl (by decide +kernel) ?_
 refine WL.det (op_fle (c := fLe .f32 1061158912 1065353216) rfl rfl rfl rfl rfl) rfl rfl rfl ?_
 refine WL.det (op_pick_t rfl (by decide +kernel) rfl) rfl rfl rfl ?_
 refine WL.det (op_assign rfl) rfl rfl rfl ?_
 refine WL.end (NE.code (CE.seq (CE.seq (CE.region ?_))))
 refine WL.det (op_assign rfl) rfl rfl rfl ?_
 refine WL.end (NE.code (CE.block ?_))
 refine CE.rounds 2 ?_
 refine RN.one (CE.seq (CE.seq (CE.region ?_)))
 iterate 2 refine WL.det (op_move rfl) rfl rfl rfl ?_
 refine WL.det (op_len rfl Try.runUnderlying36) rfl rfl rfl ?_
 refine WL.det (op_lti rfl rfl) rfl rfl rfl ?_
 refine WL.det (op_move rfl) rfl rfl rfl ?_
 refine WL.yes rfl rfl rfl (ltb rfl) rfl rfl ?_
 refine WL.det (op_move rfl) rfl rfl rfl ?_
 refine WL.det (op_pick_t rfl rfl rfl) rfl rfl rfl ?_
 refine WL.end (NE.code ?_)
 refine CE.cond_t rfl (by decide +kernel) ?_
 refine CE.skip' (NE.code (CE.seq (CE.block (CE.region ?_))))
 iterate 2 refine WL.det (op_move rfl) rfl rfl rfl ?_
 refine WL.det (op_indexSl (off' := 0) rfl rfl rfl Try.runUnderlying36 Try.sizeOf2 (by omega) (by omega) rfl) rfl rfl rfl ?_
 refine WL.det (op_load1 (i := 0) rfl Try.isAgg2 (rl.ext m1) rfl rfl) rfl rfl rfl ?_
 refine WL.call (oc_call (vs := [vI ((m : Nat) : Int), vI 1, vI 1024]) (cap := []) rfl rfl rfl Try.call55 (c_l00In ((m : Nat) : Int) (1 : Int) (1024 : Int) w1)) rfl rfl (ltb rfl) ?_
 rintro _ _ ⟨rfl, rfl⟩
 refine WL.det (op_assign rfl) rfl rfl rfl ?_
 refine WL.end (NE.blk (NE.code (CE.region ?_)))
 refine WL.det (op_move rfl) rfl rfl rfl ?_
 refine WL.det (op_add (r := 1) rfl rfl (by decide)) rfl rfl rfl ?_
 refine WL.det (op_assign rfl) rfl rfl rfl ?_
 refine WL.end (NE.round (RN.one (CE.seq (CE.seq (CE.region ?_)))))
 iterate 2 refine WL.det (op_move rfl) rfl rfl rfl ?_
 refine WL.det (op_len rfl Try.runUnderlying36) rfl rfl rfl ?_
 refine WL.det (op_lti rfl rfl) rfl rfl rfl ?_
 refine WL.det (op_move rfl) rfl rfl rfl ?_
 refine WL.no rfl rfl rfl (ltb rfl) rfl rfl rfl (ltb rfl) ?_
 refine WL.det (op_pick_f rfl rfl rfl) rfl rfl rfl ?_
 refine WL.end (NE.code ?_)
 refine CE.cond_f rfl rfl ?_
 refine CE.exit' (XE.exit_then (XE.exit_then (XE.exit_here (NE.code (CE.seq (CE.seq (CE.region ?_)))))))
 refine WL.det (op_assign rfl) rfl rfl rfl ?_
 refine WL.end (NE.code (CE.block ?_))
 refine CE.rounds 1 ?_
 refine RN.one (CE.seq (CE.seq (CE.region ?_)))
 iterate 2 refine WL.det (op_move rfl) rfl rfl rfl ?_
 refine WL.det (op_len rfl Try.runUnderlying26) rfl rfl rfl ?_
 refine WL.det (op_lti rfl rfl) rfl rfl rfl ?_
 refine WL.det (op_move rfl) rfl rfl rfl ?_
 refine WL.no rfl rfl rfl (ltb rfl) rfl rfl rfl (ltb rfl) ?_
 refine WL.det (op_pick_f rfl rfl rfl) rfl rfl rfl ?_
 refine WL.end (NE.code ?_)
 refine CE.cond_f rfl rfl ?_
 refine CE.exit' (XE.exit_then (XE.exit_then (XE.exit_here (NE.code (CE.seq (CE.seq (CE.region ?_)))))))
 refine WL.det (op_move rfl) rfl rfl rfl ?_
 refine WL.det (op_not rfl) rfl rfl rfl ?_
 refine WL.end (NE.code ?_)
 refine CE.cond_f rfl (bnot_t ((vIn_t _ _ _).2 ⟨by omega, by omega⟩)) ?_
 refine CE.skip' (NE.code (CE.seq (CE.region ?_)))
 refine WL.op (op_emptySl rfl Try.runUnderlying26 Try.sizeOf27) rfl rfl (ltb rfl) ?_
 rintro _ w2 ⟨rfl, r2, m2, z2⟩
 refine WL.det (op_move rfl) rfl rfl rfl ?_
 refine WL.det (op_appN (i := Try.t27) rfl rfl (by decide) Try.underlying26 rfl) rfl rfl rfl ?_
 refine WL.det (op_move rfl) rfl rfl rfl ?_
 refine WL.call (oc_call (vs := [vF kw]) (cap := []) rfl rfl rfl Try.call56 (c_sOnePoleP kw lkw w2)) rfl rfl (ltb rfl) ?_
 rintro _ w3 ⟨r_1, rfl, h1, h2, m3⟩
 iterate 2 refine WL.det (op_move rfl) rfl rfl rfl ?_
 refine WL.det (op_build (qs := [(2, vS w1.heap.size 0 0 0), (3, .agg #[vI 1, vF r_1, vF kw, vF 0, vF 0, vF 0]), (4, .bool op), (5, vF 1061158912), (6, vF 1061158912), (7, vF 3200253952)]) (cells := #[.slice none 0 0, .slice none 0 0, vS w1.heap.size 0 0 0, vI 1, vF r_1, vF kw, vF 0, vF 0, vF 0, .bool op, vF 1061158912, vF 1061158912, vF 3200253952]) rfl (by kernel_rfl)) rfl rfl rfl ?_
 refine WL.op (op_alloc (cs := [.slice none 0 0, .slice none 0 0, .slice none 0 0, vI 0, vF 0, vF 0, vF 0, vF 0, vF 0, .bool false, vF 0, vF 0, vF 0]) Try.zeroValue33 rfl) rfl rfl (ltb rfl) ?_
 rintro _ w4 ⟨rfl, r3, m4, z3⟩
 refine WL.op0 (op_store (i := 0) (cs := [.slice none 0 0, .slice none 0 0, vS w1.heap.size 0 0 0, vI 1, vF r_1, vF kw, vF 0, vF 0, vF 0, .bool op, vF 1061158912, vF 1061158912, vF 3200253952]) rfl rfl rfl Try.sizeOf33 rfl r3 rfl (lB rfl) rfl) rfl rfl ?_
 rintro _ w5 ⟨r4, m5, z4⟩
 have r5 : Row w5 w3.heap.size 0 [.slice none 0 0, .slice none 0 0, vS w1.heap.size 0 0 0, vI 1, vF r_1, vF kw, vF 0, vF 0, vF 0, .bool op, vF 1061158912, vF 1061158912, vF 3200253952] := Row.congr r4 rfl
 refine WL.end (NE.code (CE.seq (CE.seq (CE.region ?_))))
 refine WL.det (op_assign rfl) rfl rfl rfl ?_
 refine WL.end (NE.code (CE.block ?_))
 refine CE.rounds 2 ?_
 refine RN.one (CE.seq (CE.seq (CE.region ?_)))
 iterate 2 refine WL.det (op_move rfl) rfl rfl rfl ?_
 refine WL.det (op_len rfl Try.runUnderlying36) rfl rfl rfl ?_
 refine WL.det (op_lti rfl rfl) rfl rfl rfl ?_
 refine WL.end (NE.code ?_)
 refine CE.cond_t rfl rfl ?_
 refine CE.skip' (NE.code (CE.seq (CE.block (CE.seq ?_))))
 refine CE.draw (fun _ => none) [0, 1, 2, 3, 4, 5, 6, 7, 8] [9, 10, 11] [] (by kernel_rfl) (by kernel_rfl) ?_
 have md1 : Mod [] w5 w5.drew := (Mod.refl _ _).drew
 generalize w5.drew = w6 at md1 ⊢
 refine DR.det (i := 0) rfl rfl (by kernel_rfl) (.free rfl) rfl rfl (fun wD mD => op_fieldAddr (off' := 0) rfl Try.runUnderlying33 rfl rfl Try.sizeOf25 rfl) ?_
 refine DR.det (i := 1) rfl rfl (by kernel_rfl) (.free rfl) rfl rfl (fun wD mD => op_load1 (i := 0) rfl Try.isAgg25 ((r5.ext md1).ext mD).rng rfl rfl) ?_
 refine DR.det (i := 2) rfl rfl (by kernel_rfl) (.free rfl) rfl rfl (fun wD mD => op_move rfl) ?_
 refine DR.det (i := 3) rfl rfl (by kernel_rfl) (.free rfl) rfl rfl (fun wD mD => op_move rfl) ?_
 refine DR.det (i := 4) rfl rfl (by kernel_rfl) (.free rfl) rfl rfl (fun wD mD => op_indexSl (off' := 0) rfl rfl rfl Try.runUnderlying36 Try.sizeOf2 (by omega) (by omega) rfl) ?_
 refine DR.det (i := 5) rfl rfl (by kernel_rfl) (.free rfl) rfl rfl (fun wD mD => op_load1 (i := 0) rfl Try.isAgg2 (((Rng.youngS rl ((((rl.ext m1).ext m2).ext m3).ext m4) m5 (allge_cons (lT (lT (lT m1.size m2.size) m3.size) lR) allge_nil)).ext md1).ext mD) rfl rfl) ?_
 refine DR.one1 (i := 6) rfl rfl (by kernel_rfl) (.free rfl) rfl (ltb rfl) ?_
 intro w7 m6
 refine Op1.mono (op_makeF (i := Try.t27) rfl rfl rfl rfl Try.underlying26 rfl rfl rfl rfl (by first | omega | decide)) ?_
 rintro _ w8 ⟨rfl, r6, m7, z5⟩
 refine ⟨(((Mod.refl [] w6).nt m6).nt m7), ?_⟩
 refine DR.rebase ?_
 refine DR.det (i := 7) rfl rfl (by kernel_rfl) (.free rfl) rfl rfl (fun wD mD => op_build (qs := [(0, vS w7.heap.size 0 m m)]) (cells := #[vS w7.heap.size 0 m m, vI 0]) rfl (by kernel_rfl)) ?_
 refine DR.one1 (i := 8) rfl rfl (by kernel_rfl) (.free rfl) rfl (ltb rfl) ?_
 intro w9 m8
 refine Op1.mono (op_buildSl (qs := [(0, .agg #[vS w7.heap.size 0 m m, vI 0])]) (cells := #[vS w7.heap.size 0 m m, vI 0]) rfl Try.runUnderlying25 Try.sizeOf60 Try.zeroValue60 (by decide) (by decide) (by kernel_rfl)) ?_
 rintro _ w10 ⟨rfl, r7, m9, z6⟩
 refine ⟨(((Mod.refl [] w8).nt m8).nt m9), ?_⟩
 refine DR.done rfl ?_
 intro w11 m10
 refine WO.op rfl (.free rfl) rfl (ltb rfl) (op_app0 (i := Try.t60) (m := 2) (bt := 32) (news := [vS w7.heap.size 0 m m, vI 0]) (q := 0) (.inl rfl) rfl rfl Try.underlying25 rfl rfl rfl rfl rfl (by decide) (r7.ext m10).rng rfl rfl (by omega) (by decide)) ?_
 rintro _ w12 ⟨b1, c1, rfl, ow1, ge1, m11⟩
 have r8 : Row w12 b1 0 [vS w7.heap.size 0 m m, vI 0] := (Own.row1 ow1).1
 refine WO.det (op_fieldAddr (off' := 0) rfl Try.runUnderlying33 rfl rfl Try.sizeOf25 rfl) rfl (.free rfl) rfl rfl ?_
 refine WO.op0 rfl (.free rfl) rfl (op_store (i := 0) (cs := [vS b1 0 1 c1]) rfl rfl rfl Try.sizeOf25 rfl (((((((r5.ext md1).ext m6).ext m7).ext m8).ext m9).ext m10).ext m11) rfl (lB rfl) rfl) ?_
 rintro _ w13 ⟨r9, m12, z7⟩
 have r10 : Row w13 w3.heap.size 0 [vS b1 0 1 c1, .slice none 0 0, vS w1.heap.size 0 0 0, vI 1, vF r_1, vF kw, vF 0, vF 0, vF 0, .bool op, vF 1061158912, vF 1061158912, vF 3200253952] := Row.congr r9 rfl
 refine WO.end (NE.code ?_)
 refine CE.draw (fun _ => none) [0, 1, 2, 3, 4, 5, 6, 7, 8] [9, 10, 11] [] (by kernel_rfl) (by kernel_rfl) ?_
 have md2 : Mod [] w13 w13.drew := (Mod.refl _ _).drew
 generalize w13.drew = w14 at md2 ⊢
 refine DR.det (i := 0) rfl rfl (by kernel_rfl) (.free rfl) rfl rfl (fun wD mD => op_fieldAddr (off' := 1) rfl Try.runUnderlying33 rfl rfl Try.sizeOf25 rfl) ?_
 refine DR.det (i := 1) rfl rfl (by kernel_rfl) (.free rfl) rfl rfl (fun wD mD => op_load1 (i := 1) rfl Try.isAgg25 ((r10.ext md2).ext mD).rng rfl rfl) ?_
 refine DR.det (i := 2) rfl rfl (by kernel_rfl) (.free rfl) rfl rfl (fun wD mD => op_move rfl) ?_
 refine DR.det (i := 3) rfl rfl (by kernel_rfl) (.free rfl) rfl rfl (fun wD mD => op_move rfl) ?_
 refine DR.det (i := 4) rfl rfl (by kernel_rfl) (.free rfl) rfl rfl (fun wD mD => op_indexSl (off' := 0) rfl rfl rfl Try.runUnderlying36 Try.sizeOf2 (by omega) (by omega) rfl) ?_
 refine DR.det (i := 5) rfl rfl (by kernel_rfl) (.free rfl) rfl rfl (fun wD mD => op_load1 (i := 0) rfl Try.isAgg2 (((Rng.youngS rl ((((((((Rng.youngS rl ((((rl.ext m1).ext m2).ext m3).ext m4) m5 (allge_cons (lT (lT (lT m1.size m2.size) m3.size) lR) allge_nil)).ext md1).ext m6).ext m7).ext m8).ext m9).ext m10).ext m11) m12 (allge_cons (lT (lT (lT m1.size m2.size) m3.size) lR) allge_nil)).ext md2).ext mD) rfl rfl) ?_
 refine DR.one1 (i := 6) rfl rfl (by kernel_rfl) (.free rfl) rfl (ltb rfl) ?_
 intro w15 m13
 refine Op1.mono (op_makeF (i := Try.t27) rfl rfl rfl rfl Try.underlying26 rfl rfl rfl rfl (by first | omega | decide)) ?_
 rintro _ w16 ⟨rfl, r11, m14, z8⟩
 refine ⟨(((Mod.refl [] w14).nt m13).nt m14), ?_⟩
 refine DR.rebase ?_
 refine DR.det (i := 7) rfl rfl (by kernel_rfl) (.free rfl) rfl rfl (fun wD mD => op_build (qs := [(0, vS w15.heap.size 0 m m)]) (cells := #[vS w15.heap.size 0 m m, vI 0]) rfl (by kernel_rfl)) ?_
 refine DR.one1 (i := 8) rfl rfl (by kernel_rfl) (.free rfl) rfl (ltb rfl) ?_
 intro w17 m15
 refine Op1.mono (op_buildSl (qs := [(0, .agg #[vS w15.heap.size 0 m m, vI 0])]) (cells := #[vS w15.heap.size 0 m m, vI 0]) rfl Try.runUnderlying25 Try.sizeOf60 Try.zeroValue60 (by decide) (by decide) (by kernel_rfl)) ?_
 rintro _ w18 ⟨rfl, r12, m16, z9⟩
 refine ⟨(((Mod.refl [] w16).nt m15).nt m16), ?_⟩
 refine DR.done rfl ?_
 intro w19 m17
 refine WO.op rfl (.free rfl) rfl (ltb rfl) (op_app0 (i := Try.t60) (m := 2) (bt := 32) (news := [vS w15.heap.size 0 m m, vI 0]) (q := 0) (.inl rfl) rfl rfl Try.underlying25 rfl rfl rfl rfl rfl (by decide) (r12.ext m17).rng rfl rfl (by omega) (by decide)) ?_
 rintro _ w20 ⟨b2, c2, rfl, ow2, ge2, m18⟩
 have r13 : Row w20 b2 0 [vS w15.heap.size 0 m m, vI 0] := (Own.row1 ow2).1
 refine WO.det (op_fieldAddr (off' := 1) rfl Try.runUnderlying33 rfl rfl Try.sizeOf25 rfl) rfl (.free rfl) rfl rfl ?_
 refine WO.op0 rfl (.free rfl) rfl (op_store (i := 1) (cs := [vS b2 0 1 c2]) rfl rfl rfl Try.sizeOf25 rfl (((((((r10.ext md2).ext m13).ext m14).ext m15).ext m16).ext m17).ext m18) rfl (lB rfl) rfl) ?_
 rintro _ w21 ⟨r14, m19, z10⟩
 have r15 : Row w21 w3.heap.size 0 [vS b1 0 1 c1, vS b2 0 1 c2, vS w1.heap.size 0 0 0, vI 1, vF r_1, vF kw, vF 0, vF 0, vF 0, .bool op, vF 1061158912, vF 1061158912, vF 3200253952] := Row.congr r14 rfl
 refine WO.end (NE.blk (NE.code (CE.region ?_)))
 refine WL.det (op_move rfl) rfl rfl rfl ?_
 refine WL.det (op_add (r := 1) rfl rfl (by decide)) rfl rfl rfl ?_
 refine WL.det (op_assign rfl) rfl rfl rfl ?_
 refine WL.end (NE.round (RN.one (CE.seq (CE.seq (CE.region ?_)))))
 iterate 2 refine WL.det (op_move rfl) rfl rfl rfl ?_
 refine WL.det (op_len rfl Try.runUnderlying36) rfl rfl rfl ?_
 refine WL.det (op_lti rfl rfl) rfl rfl rfl ?_
 refine WL.end (NE.code ?_)
 refine CE.cond_f rfl rfl ?_
 refine CE.exit' (XE.exit_then (XE.exit_then (XE.exit_here (NE.code (CE.seq (CE.region ?_))))))
 refine WL.det (op_loadA (i := 0) (cs := [vS b1 0 1 c1, vS b2 0 1 c2, vS w1.heap.size 0 0 0, vI 1, vF r_1, vF kw, vF 0, vF 0, vF 0, .bool op, vF 1061158912, vF 1061158912, vF 3200253952]) rfl Try.isAgg33 Try.sizeOf33 r15.rng rfl rfl rfl) rfl rfl rfl ?_
 refine WL.op0 (op_store (i := 0) (cs := [vS b1 0 1 c1, vS b2 0 1 c2, vS w1.heap.size 0 0 0, vI 1, vF r_1, vF kw, vF 0, vF 0, vF 0, .bool op, vF 1061158912, vF 1061158912, vF 3200253952]) rfl rfl rfl Try.sizeOf33 rfl ((((((((((((((((((((r1.ext m2).ext m3).ext m4).mod m5 (nC (lE (lL (lL r1.lt (lT m2.size m3.size)) lR)) nN)).ext md1).ext m6).ext m7).ext m8).ext m9).ext m10).ext m11).mod m12 (nC (lE (lL (lL r1.lt (lT m2.size m3.size)) lR)) nN)).ext md2).ext m13).ext m14).ext m15).ext m16).ext m17).ext m18).mod m19 (nC (lE (lL (lL r1.lt (lT m2.size m3.size)) lR)) nN)) rfl (lB rfl) rfl) rfl rfl ?_
 rintro _ w22 ⟨r16, m20, z11⟩
 have r17 : Row w22 w.heap.size 0 [vS b1 0 1 c1, vS b2 0 1 c2, vS w1.heap.size 0 0 0, vI 1, vF r_1, vF kw, vF 0, vF 0, vF 0, .bool op, vF 1061158912, vF 1061158912, vF 3200253952] := Row.congr r16 rfl
 refine WL.det (op_assign rfl) rfl rfl rfl ?_
 refine WL.end (NE.code (CE.ret' ?_))
 refine XE.leaveT Try.results15 (res_agg (cs := [vS b1 0 1 c1, vS b2 0 1 c2, vS w1.heap.size 0 0 0, vI 1, vF r_1, vF kw, vF 0, vF 0, vF 0, .bool op, vF 1061158912, vF 1061158912, vF 3200253952]) rfl Try.isAgg33 Try.sizeOf33 r17.rng rfl (res_tmp rfl res_nil)) ?_
 refine ⟨b1, c1, b2, c2, w1.heap.size, 0, r_1, w7.heap.size, w15.heap.size, rfl, ?_, h2, ((((((((((r8.mod m12 (nC (lG (lL (lL r3.lt (lT (lT (lT (lT (lT (lT m5.size md1.size) m6.size) m7.size) m8.size) m9.size) m10.size)) ge1)) nN)).ext md2).ext m13).ext m14).ext m15).ext m16).ext m17).ext m18).mod m19 (nC (lG (lL (lL r3.lt (lT (lT (lT (lT (lT (lT m5.size md1.size) m6.size) m7.size) m8.size) m9.size) m10.size)) ge1)) nN)).mod m20 (nC (lG (lL (lL r1.lt (lT (lT (lT (lT (lT (lT (lT (lT (lT m2.size m3.size) m4.size) m5.size) md1.size) m6.size) m7.size) m8.size) m9.size) m10.size)) ge1)) nN)), ((r13.mod m19 (nC (lG (lL (lL r3.lt (lT (lT (lT (lT (lT (lT (lT (lT (lT (lT (lT (lT (lT (lT m5.size md1.size) m6.size) m7.size) m8.size) m9.size) m10.size) m11.size) m12.size) md2.size) m13.size) m14.size) m15.size) m16.size) m17.size)) ge2)) nN)).mod m20 (nC (lG (lL (lL r1.lt (lT (lT (lT (lT (lT (lT (lT (lT (lT (lT (lT (lT (lT (lT (lT (lT (lT m2.size m3.size) m4.size) m5.size) md1.size) m6.size) m7.size) m8.size) m9.size) m10.size) m11.size) m12.size) md2.size) m13.size) m14.size) m15.size) m16.size) m17.size)) ge2)) nN)), ((((((((((((((((((((r2.ext m3).ext m4).mod m5 (nC (lE (lL (lL r2.lt m3.size) lR)) nN)).ext md1).ext m6).ext m7).ext m8).ext m9).ext m10).ext m11).mod m12 (nC (lE (lL (lL r2.lt m3.size) lR)) nN)).ext md2).ext m13).ext m14).ext m15).ext m16).ext m17).ext m18).mod m19 (nC (lE (lL (lL r2.lt m3.size) lR)) nN)).mod m20 (nC (lG (lL r1.lt lR)) nN)), ((((((((((((((r6.ext m8).ext m9).ext m10).ext m11).mod m12 (nC (lG (lL (lL r3.lt (lT (lT m5.size md1.size) m6.size)) lR)) nN)).ext md2).ext m13).ext m14).ext m15).ext m16).ext m17).ext m18).mod m19 (nC (lG (lL (lL r3.lt (lT (lT m5.size md1.size) m6.size)) lR)) nN)).mod m20 (nC (lG (lL (lL r1.lt (lT (lT (lT (lT (lT m2.size m3.size) m4.size) m5.size) md1.size) m6.size)) lR)) nN)), ((((((r11.ext m15).ext m16).ext m17).ext m18).mod m19 (nC (lG (lL (lL r3.lt (lT (lT (lT (lT (lT (lT (lT (lT (lT (lT m5.size md1.size) m6.size) m7.size) m8.size) m9.size) m10.size) m11.size) m12.size) md2.size) m13.size)) lR)) nN)).mod m20 (nC (lG (lL (lL r1.lt (lT (lT (lT (lT (lT (lT (lT (lT (lT (lT (lT (lT (lT m2.size m3.size) m4.size) m5.size) md1.size) m6.size) m7.size) m8.size) m9.size) m10.size) m11.size) m12.size) md2.size) m13.size)) lR)) nN)), (lT (lT (lT (lT (lT (lT (lT (lT (lT (lT (lT m1.size m2.size) m3.size) m4.size) m5.size) md1.size) m6.size) m7.size) m8.size) m9.size) m10.size) ge1), (lT (lT (lT (lT (lT (lT (lT (lT (lT (lT (lT (lT (lT (lT (lT (lT (lT (lT (lT m1.size m2.size) m3.size) m4.size) m5.size) md1.size) m6.size) m7.size) m8.size) m9.size) m10.size) m11.size) m12.size) md2.size) m13.size) m14.size) m15.size) m16.size) m17.size) ge2), (lT m1.size lR), (lT (lT (lT (lT (lT (lT (lT m1.size m2.size) m3.size) m4.size) m5.size) md1.size) m6.size) lR), (lT (lT (lT (lT (lT (lT (lT (lT (lT (lT (lT (lT (lT (lT (lT m1.size m2.size) m3.size) m4.size) m5.size) md1.size) m6.size) m7.size) m8.size) m9.size) m10.size) m11.size) m12.size) md2.size) m13.size) lR), (lE (lL (lL r8.lt (lT (lT (lT (lT (lT (lT m12.size md2.size) m13.size) m14.size) m15.size) m16.size) m17.size)) ge2)), (lG (lL (lL r2.lt (lT (lT (lT (lT (lT (lT (lT (lT m3.size m4.size) m5.size) md1.size) m6.size) m7.size) m8.size) m9.size) m10.size)) ge1)), (lG (lL (lL r2.lt (lT (lT (lT (lT (lT (lT (lT (lT (lT (lT (lT (lT (lT (lT (lT (lT m3.size m4.size) m5.size) md1.size) m6.size) m7.size) m8.size) m9.size) m10.size) m11.size) m12.size) md2.size) m13.size) m14.size) m15.size) m16.size) m17.size)) ge2)), (lE (lL (lL r6.lt (lT (lT m8.size m9.size) m10.size)) ge1)), (lE (lL (lL r6.lt (lT (lT (lT (lT (lT (lT (lT (lT (lT (lT m8.size m9.size) m10.size) m11.size) m12.size) md2.size) m13.size) m14.size) m15.size) m16.size) m17.size)) ge2)), (lG (lL (lL r2.lt (lT (lT (lT (lT m3.size m4.size) m5.size) md1.size) m6.size)) lR)), (lE (lL (lL r6.lt (lT (lT (lT (lT (lT (lT m8.size m9.size) m10.size) m11.size) m12.size) md2.size) m13.size)) lR)), (lG (lL (lL r8.lt (lT (lT m12.size md2.size) m13.size)) lR)), (lE (lL (lL r11.lt (lT (lT m15.size m16.size) m17.size)) ge2)), (lG (lL (lL r2.lt (lT (lT (lT (lT (lT (lT (lT (lT (lT (lT (lT (lT m3.size m4.size) m5.size) md1.size) m6.size) m7.size) m8.size) m9.size) m10.size) m11.size) m12.size) md2.size) m13.size)) lR)), (((((((((((((((((((((((Mod.refl [] w).nt m1).nt m2).nt m3).nt m4).then m5 ((aC (.inr (lT (lT (lT m1.size m2.size) m3.size) lR)) aN))).nt md1).nt m6).nt m7).nt m8).nt m9).nt m10).nt m11).then m12 ((aC (.inr (lT (lT (lT m1.size m2.size) m3.size) lR)) aN))).nt md2).nt m13).nt m14).nt m15).nt m16).nt m17).nt m18).then m19 ((aC (.inr (lT (lT (lT m1.size m2.size) m3.size) lR)) aN))).then m20 ((aC (.inr lR) aN)))⟩
 all_goals first | assumption | rfl

theorem c_sNewN (m : Nat) (cl : Nat) (lb : Nat) (cs : Nat) (sb : Nat) (op : Bool) (kw : Nat) (h1 : 1 ≤ m) (h2 : m ≤ 6) (lkw : kw < wid .f32) (hd : ∃ d, d < 7 ∧ cn .f32 kw = cn .f32 (fop .quo .f32 (FloatKind.f32.nearest ((d : Nat) : Int)) 1090519040)) (w : World) (rl : Rng w lb 0 [vI ((m : Nat) : Int)]) (rs : Rng w sb 0 []) : Cl Try.prog 15 #[vS lb 0 1 cl, vS sb 0 0 cs, .bool op, vF kw, vF 1061158912] w fun v w' => ∃ (bR' : Nat) (cR' : Nat) (PR' : List BC) (bL' : Nat) (cL' : Nat) (PL' : List BC) (bS' : Nat) (cS' : Nat) (r_ : Nat) (zz : PipeSt), v = .tuple #[.agg #[vS bR' 0 1 cR', vS bL' 0 1 cL', vS bS' 0 0 cS', vI 1, vF r_, vF kw, vF 0, vF (zz.s0), vF (zz.s1), .bool op, vF 1061158912, vF 1061158912, vF 3200253952], vI 0] ∧ (PR'.length = 1) ∧ (PL'.length = 1) ∧ (LX r_ kw zz) ∧ (PB zz 3) ∧ (zz.R.length = 1) ∧ (zz.L.length = 1) ∧ Row w' bR' 0 (olc zz.R PR') ∧ Row w' bL' 0 (olc zz.L PL') ∧ Row w' bS' 0 (fl []) ∧ w.heap.size ≤ bR' ∧ w.heap.size ≤ bL' ∧ w.heap.size ≤ bS' ∧ bR' ≠ bL' ∧ bR' ≠ bS' ∧ bL' ≠ bS' ∧ OF w.heap.size w' zz.R PR' ∧ (∀ i, i < 1 → (PR'.getD i BC.d).b ≠ bR') ∧ (∀ i, i < 1 → (PR'.getD i BC.d).b ≠ bL') ∧ (∀ i, i < 1 → (PR'.getD i BC.d).b ≠ bS') ∧ (∀ i j, i < 1 → j < 1 → (PR'.getD i BC.d).b ≠ (PL'.getD j BC.d).b) ∧ OF w.heap.size w' zz.L PL' ∧ (∀ i, i < 1 → (PL'.getD i BC.d).b ≠ bR') ∧ (∀ i, i < 1 → (PL'.getD i BC.d).b ≠ bL') ∧ (∀ i, i < 1 → (PL'.getD i BC.d).b ≠ bS') ∧ Mod [] w w' := by
  obtain ⟨d, hd, hc⟩ := hd
  refine (c_sNewP1 m cl lb cs sb op kw h1 (by omega) lkw (keep_of hd hc) w rl rs).mono ?_
  rintro v w' ⟨bR', cR', bL', cL', bS', cS', r_, d', e', hv, p1, p2, rR, rL, rS, rd, re, g1, g2, g3, g4, g5, n1, n2, n3, n4, n5, n6, n7, n8, n9, n10, md⟩
  have fm : ∀ (b : Nat), w.heap.size ≤ b → Row w' b 0 (fl (List.replicate m 0)) → OF w.heap.size w' [⟨List.replicate m 0, 0⟩] [⟨b, m⟩] := fun b hb hr => ⟨fun i hi => by
      obtain rfl : i = 0 := by simpa using hi
      exact hb, fun i hi => by
      obtain rfl : i = 0 := by simpa using hi
      exact hr, fun i j hi hj hij => by simp at hi hj; omega⟩
  have ol : ∀ b, olc [⟨List.replicate m 0, 0⟩] [⟨b, m⟩] = [vS b 0 m m, vI 0] := fun b => by
    show [vS b 0 (List.replicate m 0).length m, vI 0] = _
    rw [List.length_replicate]
  have one : ∀ (b c : Nat), b ≠ c → ∀ i, i < 1 → (([⟨b, m⟩] : List BC).getD i BC.d).b ≠ c := fun b c h i hi => by
    obtain rfl : i = 0 := by omega
    exact h
  have two : ∀ (b c : Nat), b ≠ c → ∀ i j, i < 1 → j < 1 → (([⟨b, m⟩] : List BC).getD i BC.d).b ≠ (([⟨c, m⟩] : List BC).getD j BC.d).b := fun b c h i j hi hj => by
    obtain rfl : i = 0 := by omega
    obtain rfl : j = 0 := by omega
    exact h
  rw [← ol d'] at rR
  rw [← ol e'] at rL
  exact ⟨bR', cR', [⟨d', m⟩], bL', cL', [⟨e', m⟩], bS', cS', r_, zNew m, hv, rfl, rfl, ⟨m, lawP_of h1 h2 hd hc p1, PW.new h1⟩, PB.new m, rfl, rfl, rR, rL, rS, g1, g2, g3, n1, n2, n3, fm d' g4 rd, one _ _ n4, one _ _ n5, one _ _ n6, two _ _ n7, fm e' g5 re, one _ _ n8, one _ _ n9, one _ _ n10, md⟩

theorem c_sReedN (z : PipeSt) (c0 : Nat) (c1 : Nat) (op : Bool) (re : Nat) (sl : Nat) (cR : Nat) (bR : Nat) (PR : List BC) (loR : Nat) (cL : Nat) (bL : Nat) (PL : List BC) (loL : Nat) (cS : Nat) (bS : Nat) (xS : List Nat) (hx : LX c0 c1 z) (lPR : PR.length = 1) (lPL : PL.length = 1) (lnS : xS.length = 0) (hre : finF re = true) (hsl : finF sl = true) (w : World) (rR : Rng w bR 0 (olc z.R PR)) (rL : Rng w bL 0 (olc z.L PL)) (rS : Rng w bS 0 (fl xS))  (FR : OF loR w z.R PR) (FL : OF loL w z.L PL) : Cl Try.prog 16 #[.agg #[vS bR 0 1 cR, vS bL 0 1 cL, vS bS 0 0 cS, vI 1, vF c0, vF c1, vF 0, vF (z.s0), vF (z.s1), .bool op, vF 1061158912, vF re, vF sl], vF 0, vF 0] w fun v w' => ∃ (bR' : Nat) (cR' : Nat) (PR' : List BC) (bL' : Nat) (cL' : Nat) (PL' : List BC) (bS' : Nat) (cS' : Nat), v = .tuple #[.agg #[vS bR' 0 1 cR', vS bL' 0 1 cL', vS bS' 0 0 cS', vI 1, vF c0, vF c1, vF 0, vF (z.s0), vF (z.s1), .bool op, vF 1061158912, vF 0, vF 0], vI 0] ∧ (PR'.length = 1) ∧ (PL'.length = 1) ∧ (z.R.length = 1) ∧ (z.L.length = 1) ∧ Row w' bR' 0 (olc z.R PR') ∧ Row w' bL' 0 (olc z.L PL') ∧ Row w' bS' 0 (fl xS) ∧ w.heap.size ≤ bR' ∧ w.heap.size ≤ bL' ∧ w.heap.size ≤ bS' ∧ bR' ≠ bL' ∧ bR' ≠ bS' ∧ bL' ≠ bS' ∧ OF w.heap.size w' z.R PR' ∧ (∀ i, i < 1 → (PR'.getD i BC.d).b ≠ bR') ∧ (∀ i, i < 1 → (PR'.getD i BC.d).b ≠ bL') ∧ (∀ i, i < 1 → (PR'.getD i BC.d).b ≠ bS') ∧ (∀ i j, i < 1 → j < 1 → (PR'.getD i BC.d).b ≠ (PL'.getD j BC.d).b) ∧ OF w.heap.size w' z.L PL' ∧ (∀ i, i < 1 → (PL'.getD i BC.d).b ≠ bR') ∧ (∀ i, i < 1 → (PL'.getD i BC.d).b ≠ bL') ∧ (∀ i, i < 1 → (PL'.getD i BC.d).b ≠ bS') ∧ Mod [] w w' := by
  obtain ⟨n, hp, hw⟩ := hx
  obtain rfl : xS = [] := List.eq_nil_of_length_eq_zero lnS
  refine (c_sReedS0 1 z.R 1 z.L [] cR bR PR loR cL bL PL loL cS bS 1 c0 c1 0 z.s0 z.s1 op 1061158912 re sl 0 0 hw.lR hw.lL rfl (hw.small hp.n2).1 (hw.small hp.n2).2 lPR lPL (by omega) (by omega) (by omega) (by omega) (hw.pos hp.n1).1 (hw.pos hp.n1).2 (by omega) (hw.valid hp hre hsl) fz0 fz0 w rR rL rS FR FL).mono ?_
  rintro v w' ⟨bR', cR', PR', bL', cL', PL', bS', cS', hv, p0, p1, rest⟩
  exact ⟨bR', cR', PR', bL', cL', PL', bS', cS', hv, p0, p1, hw.lR, hw.lL, rest⟩

theorem c_sPlayN (z : PipeSt) (c0 : Nat) (c1 : Nat) (op : Bool) (cR : Nat) (bR : Nat) (PR : List BC) (loR : Nat) (cL : Nat) (bL : Nat) (PL : List BC) (loL : Nat) (cS : Nat) (bS : Nat) (xS : List Nat) (cl : Nat) (Al : Option Addr) (bl : Nat) (ol : Nat) (ss : List Nat) (hx : LX c0 c1 z) (lPR : PR.length = 1) (lPL : PL.length = 1) (lnS : xS.length = 0) (ls : ss.length = 12) (hAl : 0 < 12 → Al = some ⟨bl, ol, none⟩) (wl : W32 ss) (hb3 : PB z 3) (hb2 : ∀ j, Bd (ss.getD j 0) 2) (w : World) (rR : Rng w bR 0 (olc z.R PR)) (rL : Rng w bL 0 (olc z.L PL)) (rS : Rng w bS 0 (fl xS)) (rl : Rng w bl ol (fl ss))  (FR : OF loR w z.R PR) (FL : OF loL w z.L PL) : Cl Try.prog 17 #[.agg #[vS bR 0 1 cR, vS bL 0 1 cL, vS bS 0 0 cS, vI 1, vF c0, vF c1, vF 0, vF (z.s0), vF (z.s1), .bool op, vF 1061158912, vF 0, vF 0], .slice Al 12 cl] w fun v w' => ∃ (bR' : Nat) (cR' : Nat) (PR' : List BC) (bL' : Nat) (cL' : Nat) (PL' : List BC) (bS' : Nat) (cS' : Nat) (e' : Nat) (c3' : Nat) (A' : Option Addr) (ys : List Nat) (zz : PipeSt), v = .tuple #[.agg #[vS bR' 0 1 cR', vS bL' 0 1 cL', vS bS' 0 0 cS', vI 1, vF c0, vF c1, vF 0, vF (zz.s0), vF (zz.s1), .bool op, vF 1061158912, vF 0, vF 0], .slice A' 12 c3', vI 0] ∧ (PR'.length = 1) ∧ (PL'.length = 1) ∧ (0 < 12 → A' = some ⟨e', 0, none⟩) ∧ (ys.length = 12) ∧ (W32 ys) ∧ (LX c0 c1 zz) ∧ (zz.R.length = 1) ∧ (zz.L.length = 1) ∧ (PB zz 15) ∧ Row w' bR' 0 (olc zz.R PR') ∧ Row w' bL' 0 (olc zz.L PL') ∧ Row w' bS' 0 (fl xS) ∧ Row w' e' 0 (fl ys) ∧ w.heap.size ≤ bR' ∧ w.heap.size ≤ bL' ∧ w.heap.size ≤ bS' ∧ w.heap.size ≤ e' ∧ bR' ≠ bL' ∧ bR' ≠ bS' ∧ bL' ≠ bS' ∧ bR' ≠ e' ∧ bL' ≠ e' ∧ bS' ≠ e' ∧ OF w.heap.size w' zz.R PR' ∧ (∀ i, i < 1 → (PR'.getD i BC.d).b ≠ bR') ∧ (∀ i, i < 1 → (PR'.getD i BC.d).b ≠ bL') ∧ (∀ i, i < 1 → (PR'.getD i BC.d).b ≠ bS') ∧ (∀ i j, i < 1 → j < 1 → (PR'.getD i BC.d).b ≠ (PL'.getD j BC.d).b) ∧ (∀ i, i < 1 → (PR'.getD i BC.d).b ≠ e') ∧ OF w.heap.size w' zz.L PL' ∧ (∀ i, i < 1 → (PL'.getD i BC.d).b ≠ bR') ∧ (∀ i, i < 1 → (PL'.getD i BC.d).b ≠ bL') ∧ (∀ i, i < 1 → (PL'.getD i BC.d).b ≠ bS') ∧ (∀ i, i < 1 → (PL'.getD i BC.d).b ≠ e') ∧ Mod [] w w' := by
  obtain ⟨n, hp, hw⟩ := hx
  obtain rfl : xS = [] := List.eq_nil_of_length_eq_zero lnS
  refine (c_sPlayP0 1 z.R 1 z.L [] cR bR PR loR cL bL PL loL cS bS 1 c0 c1 0 z.s0 z.s1 op 1061158912 0 0 12 cl Al bl ol ss (zAt c0 c1 op z (fun j => ss.getD j 0) 12) (outs (zOut c0 c1 op z (fun j => ss.getD j 0)) 12) hw.lR hw.lL rfl (hw.small hp.n2).1 (hw.small hp.n2).2 lPR lPL (by omega) (by omega) (by omega) (by omega) (hw.pos hp.n1).1 (hw.pos hp.n1).2 (by omega) hw.gR hw.gL hw.s0.lt' (by rw [hw.s1, wid32]; omega) ls hAl wl (by omega) (hw.valid hp fz0 fz0) rfl rfl (hw.at _).lR (hw.at _).lL w rR rL rS rl FR FL).mono ?_
  rintro v w' ⟨bR', cR', PR', bL', cL', PL', bS', cS', e', c3', A', ys, hv, p0, p1, p2, p3, p4, p5, rest⟩
  exact ⟨bR', cR', PR', bL', cL', PL', bS', cS', e', c3', A', ys, zAt c0 c1 op z (fun j => ss.getD j 0) 12, hv, p0, p1, p2, p3, p4, ⟨n, hp, hw.at _⟩, (hw.at _).lR, (hw.at _).lL, PB.at hw hp hb3 hb2 (by omega) 12 (by omega), rest⟩

theorem c_iPlayN (z : PipeSt) (c0 : Nat) (c1 : Nat) (op : Bool) (cR : Nat) (bR : Nat) (PR : List BC) (loR : Nat) (cL : Nat) (bL : Nat) (PL : List BC) (loL : Nat) (cS : Nat) (bS : Nat) (xS : List Nat) (l : Nat) (cl : Nat) (Al : Option Addr) (bl : Nat) (ol : Nat) (ss : List Nat) (hx : LX c0 c1 z) (lPR : PR.length = 1) (lPL : PL.length = 1) (lnS : xS.length = 0) (ls : ss.length = l) (hAl : 0 < l → Al = some ⟨bl, ol, none⟩) (hss : ss = List.replicate l 0) (hll : l ≤ 4096) (w : World) (rR : Rng w bR 0 (olc z.R PR)) (rL : Rng w bL 0 (olc z.L PL)) (rS : Rng w bS 0 (fl xS)) (rl : Rng w bl ol (fl ss))  (FR : OF loR w z.R PR) (FL : OF loL w z.L PL) : Cl Try.prog 21 #[.agg #[vS bR 0 1 cR, vS bL 0 1 cL, vS bS 0 0 cS, vI 1, vF c0, vF c1, vF 0, vF (z.s0), vF (z.s1), .bool op, vF 1061158912, vF 0, vF 0], .slice Al l cl] w fun v w' => ∃ (bR' : Nat) (cR' : Nat) (PR' : List BC) (bL' : Nat) (cL' : Nat) (PL' : List BC) (bS' : Nat) (cS' : Nat) (e' : Nat) (c3' : Nat) (A' : Option Addr) (ys : List Nat) (zz : PipeSt), v = .tuple #[.agg #[vS bR' 0 1 cR', vS bL' 0 1 cL', vS bS' 0 0 cS', vI 1, vF c0, vF c1, vF 0, vF (zz.s0), vF (zz.s1), .bool op, vF 1061158912, vF 0, vF 0], .slice A' l c3', vI 0] ∧ (PR'.length = 1) ∧ (PL'.length = 1) ∧ (0 < l → A' = some ⟨e', 0, none⟩) ∧ (ys.length = l) ∧ (W32 ys) ∧ (Cn ys (outs (zOut c0 c1 op z (fun _ => 0)) l)) ∧ (LX c0 c1 zz) ∧ (zz.R.length = 1) ∧ (zz.L.length = 1) ∧ (zz = zAt c0 c1 op z (fun _ => 0) l) ∧ Row w' bR' 0 (olc zz.R PR') ∧ Row w' bL' 0 (olc zz.L PL') ∧ Row w' bS' 0 (fl xS) ∧ Row w' e' 0 (fl ys) ∧ w.heap.size ≤ bR' ∧ w.heap.size ≤ bL' ∧ w.heap.size ≤ bS' ∧ w.heap.size ≤ e' ∧ bR' ≠ bL' ∧ bR' ≠ bS' ∧ bL' ≠ bS' ∧ bR' ≠ e' ∧ bL' ≠ e' ∧ bS' ≠ e' ∧ OF w.heap.size w' zz.R PR' ∧ (∀ i, i < 1 → (PR'.getD i BC.d).b ≠ bR') ∧ (∀ i, i < 1 → (PR'.getD i BC.d).b ≠ bL') ∧ (∀ i, i < 1 → (PR'.getD i BC.d).b ≠ bS') ∧ (∀ i j, i < 1 → j < 1 → (PR'.getD i BC.d).b ≠ (PL'.getD j BC.d).b) ∧ (∀ i, i < 1 → (PR'.getD i BC.d).b ≠ e') ∧ OF w.heap.size w' zz.L PL' ∧ (∀ i, i < 1 → (PL'.getD i BC.d).b ≠ bR') ∧ (∀ i, i < 1 → (PL'.getD i BC.d).b ≠ bL') ∧ (∀ i, i < 1 → (PL'.getD i BC.d).b ≠ bS') ∧ (∀ i, i < 1 → (PL'.getD i BC.d).b ≠ e') ∧ Mod [] w w' := by
  obtain ⟨n, hp, hw⟩ := hx
  obtain rfl : xS = [] := List.eq_nil_of_length_eq_zero lnS
  have hf9 : (fun j => ss.getD j 0) = fun _ => 0 := by rw [hss]; exact funext fun j => rep_get l j
  refine (c_iPlayP0 1 z.R 1 z.L [] cR bR PR loR cL bL PL loL cS bS 1 c0 c1 0 z.s0 z.s1 op 1061158912 0 0 l cl Al bl ol ss (zAt c0 c1 op z (fun _ => 0) l) (outs (zOut c0 c1 op z (fun _ => 0)) l) hw.lR hw.lL rfl (hw.small hp.n2).1 (hw.small hp.n2).2 lPR lPL (by omega) (by omega) (by omega) (by omega) (hw.pos hp.n1).1 (hw.pos hp.n1).2 (by omega) hw.gR hw.gL hw.s0.lt' (by rw [hw.s1, wid32]; omega) ls hAl (by rw [hss]; exact W32.zeros _) (by omega) (hw.valid hp fz0 fz0) (by rw [hf9]; rfl) (by rw [hf9]; rfl) (hw.at _).lR (hw.at _).lL w rR rL rS rl FR FL).mono ?_
  rintro v w' ⟨bR', cR', PR', bL', cL', PL', bS', cS', e', c3', A', ys, hv, p0, p1, p2, p3, p4, p5, rest⟩
  exact ⟨bR', cR', PR', bL', cL', PL', bS', cS', e', c3', A', ys, zAt c0 c1 op z (fun _ => 0) l, hv, p0, p1, p2, p3, p4, p5, ⟨n, hp, hw.at _⟩, (hw.at _).lR, (hw.at _).lL, rfl, rest⟩

theorem c_iSilN (z : PipeSt) (c0 : Nat) (c1 : Nat) (op : Bool) (cR : Nat) (bR : Nat) (PR : List BC) (loR : Nat) (cL : Nat) (bL : Nat) (PL : List BC) (loL : Nat) (cS : Nat) (bS : Nat) (xS : List Nat) (hx : LX c0 c1 z) (lPR : PR.length = 1) (lPL : PL.length = 1) (lnS : xS.length = 0) (hb : PB z 15) (w : World) (rR : Rng w bR 0 (olc z.R PR)) (rL : Rng w bL 0 (olc z.L PL)) (rS : Rng w bS 0 (fl xS))  (FR : OF loR w z.R PR) (FL : OF loL w z.L PL) : Cl Try.prog 19 #[.agg #[vS bR 0 1 cR, vS bL 0 1 cL, vS bS 0 0 cS, vI 1, vF c0, vF c1, vF 0, vF (z.s0), vF (z.s1), .bool op, vF 1061158912, vF 0, vF 0], vI 2000] w fun v w' => ∃ (mq : Nat), v = .tuple #[vI ((mq : Nat) : Int), vI 0] ∧ (mq = silN c0 c1 op z) ∧ (mq ≤ 2000) ∧ Mod [] w w' := by
  obtain ⟨n, hp, hw⟩ := hx
  obtain rfl : xS = [] := List.eq_nil_of_length_eq_zero lnS
  refine (c_iSilP0 1 z.R 1 z.L [] cR bR PR loR cL bL PL loL cS bS 1 c0 c1 0 z.s0 z.s1 op 1061158912 0 0 2000 _ hw.lR hw.lL rfl (hw.small hp.n2).1 (hw.small hp.n2).2 lPR lPL (by omega) (by omega) (by omega) (by omega) (hw.pos hp.n1).1 (hw.pos hp.n1).2 (by omega) hw.gR hw.gL hw.s0.lt' (by rw [hw.s1, wid32]; omega) (by omega) (hw.valid hp fz0 fz0) rfl w rR rL rS FR FL).mono ?_
  rintro v w' ⟨hv, md⟩
  have e := silN_all (op := op) hw hp hb
  have e1 := e.1
  unfold zAt at e1
  rw [e1] at hv
  exact ⟨_, hv, rfl, e.2.1, md⟩

theorem c_sSilN (z : PipeSt) (c0 : Nat) (c1 : Nat) (op : Bool) (cR : Nat) (bR : Nat) (PR : List BC) (loR : Nat) (cL : Nat) (bL : Nat) (PL : List BC) (loL : Nat) (cS : Nat) (bS : Nat) (xS : List Nat) (hx : LX c0 c1 z) (lPR : PR.length = 1) (lPL : PL.length = 1) (lnS : xS.length = 0) (hb : PB z 15) (w : World) (rR : Rng w bR 0 (olc z.R PR)) (rL : Rng w bL 0 (olc z.L PL)) (rS : Rng w bS 0 (fl xS))  (FR : OF loR w z.R PR) (FL : OF loL w z.L PL) : Cl Try.prog 20 #[.agg #[vS bR 0 1 cR, vS bL 0 1 cL, vS bS 0 0 cS, vI 1, vF c0, vF c1, vF 0, vF (z.s0), vF (z.s1), .bool op, vF 1061158912, vF 0, vF 0], vI 2000] w fun v w' => ∃ (mq : Nat), v = .tuple #[vI ((mq : Nat) : Int), vI 0] ∧ (mq = silN c0 c1 op z) ∧ (mq ≤ 2000) ∧ Mod [] w w' := by
  obtain ⟨n, hp, hw⟩ := hx
  obtain rfl : xS = [] := List.eq_nil_of_length_eq_zero lnS
  refine (c_sSilP0 1 z.R 1 z.L [] cR bR PR loR cL bL PL loL cS bS 1 c0 c1 0 z.s0 z.s1 op 1061158912 0 0 2000 _ hw.lR hw.lL rfl (hw.small hp.n2).1 (hw.small hp.n2).2 lPR lPL (by omega) (by omega) (by omega) (by omega) (hw.pos hp.n1).1 (hw.pos hp.n1).2 (by omega) hw.gR hw.gL hw.s0.lt' (by rw [hw.s1, wid32]; omega) (by omega) (hw.valid hp fz0 fz0) rfl w rR rL rS FR FL).mono ?_
  rintro v w' ⟨hv, md⟩
  have e := silN_all (op := op) hw hp hb
  have e1 := e.1
  unfold zAt at e1
  rw [e1] at hv
  exact ⟨_, hv, rfl, e.2.1, md⟩

theorem c_IsSilN (z : PipeSt) (c0 : Nat) (c1 : Nat) (op : Bool) (cR : Nat) (bR : Nat) (PR : List BC) (loR : Nat) (cL : Nat) (bL : Nat) (PL : List BC) (loL : Nat) (cS : Nat) (bS : Nat) (xS : List Nat) (hx : LX c0 c1 z) (lPR : PR.length = 1) (lPL : PL.length = 1) (lnS : xS.length = 0) (w : World) (rR : Rng w bR 0 (olc z.R PR)) (rL : Rng w bL 0 (olc z.L PL)) (rS : Rng w bS 0 (fl xS))  (FR : OF loR w z.R PR) (FL : OF loL w z.L PL) : Cl Try.prog 22 #[.agg #[vS bR 0 1 cR, vS bL 0 1 cL, vS bS 0 0 cS, vI 1, vF c0, vF c1, vF 0, vF (z.s0), vF (z.s1), .bool op, vF 1061158912, vF 0, vF 0]] w fun v w' => v = .tuple #[.bool (pipeSil 1 1 z), vI 0] ∧ Mod [] w w' := by
  obtain ⟨n, hp, hw⟩ := hx
  obtain rfl : xS = [] := List.eq_nil_of_length_eq_zero lnS
  exact c_IsSilP1 z.R z.L [] cR bR PR loR cL bL PL loL cS bS 1 c0 c1 0 z.s0 z.s1 op 1061158912 0 0 hw.lR hw.lL rfl (hw.small hp.n2).1 (hw.small hp.n2).2 lPR lPL hw.gR hw.gL (hw.pos hp.n1).1 (hw.pos hp.n1).2 (hw.valid hp fz0 fz0) w rR rL rS FR FL

end Go.Proofs.Ytnahhdnkbbdceaa
