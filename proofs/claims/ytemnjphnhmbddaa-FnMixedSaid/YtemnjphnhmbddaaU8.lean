/- Gains of loops; rooms that are made. -/
import Derived.Test.YtemnjphnhmbddaaU6
import Derived.Test.YtemnjphnhmbddaaU7
set_option linter.unusedVariables false
set_option linter.unusedSimpArgs false
namespace Go.Proofs.Ytemnjphnhmbddaa

theorem gF_hi {n t : Nat} (h : fGt .f64 (gE n t) 4607182418800017408 = true) : gF n t = 0 := by unfold gF; rw [if_pos h]
theorem gF_lo {n t : Nat} (h : fGt .f64 (gE n t) 4607182418800017408 = false) : gF n t = gN (gE n t) := by unfold gF; rw [if_neg (by rw [h]; simp)]

set_option maxRecDepth 100000 in
set_option maxHeartbeats 2000000 in
theorem c_insideI (a : Nat) (lo : Nat) (hi : Nat) (w : World) : Cl Try.prog 32 #[vF a, vF lo, vF hi] w fun v w' => v = .bool (fGe .f32 a lo && fLe .f32 a hi) ∧ w = w' := by
  refine Cl.of Try.func32 Try.ntmps32 rfl rfl (ρ := [(0, vF a), (1, vF lo), (2, vF hi)]) rfl ?_
  refine CE.seq ?_
  refine CE.region ?_
  refine WL.det (op_assign rfl) rfl rfl rfl ?_
  refine WL.end ?_
  refine NE.code ?_
  refine CE.seq ?_
  refine CE.region ?_
  iterate 2 refine WL.det (op_move rfl) rfl rfl rfl ?_
  refine WL.det (op_fge (c := fGe .f32 a lo) rfl rfl rfl rfl rfl) rfl rfl rfl ?_
  refine WL.det (op_move rfl) rfl rfl rfl ?_
  rcases Bool.eq_false_or_eq_true (fGe .f32 a lo) with hb1 | hb1
  · refine WL.yes rfl rfl rfl (ltb rfl) rfl hb1 ?_
    refine WL.det (op_move rfl) rfl rfl rfl ?_
    refine WL.yes rfl rfl rfl (ltb rfl) rfl hb1 ?_
    refine WL.det (op_move rfl) rfl rfl rfl ?_
    refine WL.yes rfl rfl rfl (ltb rfl) rfl hb1 ?_
    refine WL.det (op_fle (c := fLe .f32 a hi) rfl rfl rfl rfl rfl) rfl rfl rfl ?_
    refine WL.det (op_pick_t rfl hb1 rfl) rfl rfl rfl ?_
    refine WL.det (op_assign rfl) rfl rfl rfl ?_
    refine WL.end ?_
    refine NE.code ?_
    refine CE.ret' ?_
    refine XE.leave1 Try.results32 rfl ?_
    refine ⟨?_, rfl⟩
    all_goals simp_all
  · refine WL.no rfl rfl rfl (ltb rfl) rfl hb1 rfl (ltb rfl) ?_
    iterate 2 refine WL.no rfl rfl rfl (ltb rfl) rfl hb1 rfl (ltb rfl) ?_
    refine WL.det (op_pick_f rfl hb1 rfl) rfl rfl rfl ?_
    refine WL.det (op_assign rfl) rfl rfl rfl ?_
    refine WL.end ?_
    refine NE.code ?_
    refine CE.ret' ?_
    refine XE.leave1 Try.results32 rfl ?_
    refine ⟨?_, rfl⟩
    all_goals simp_all

set_option maxRecDepth 100000 in
set_option maxHeartbeats 2000000 in
theorem c_isTail (t : Nat) (w : World) : Cl Try.prog 18 #[vF t] w fun v w' => v = .bool (tailOk t) ∧ Mod [] w w' := by
  refine Cl.of Try.func18 Try.ntmps18 rfl rfl (ρ := [(0, vF t)]) rfl ?_
  refine CE.seq ?_
  refine CE.region ?_
  refine WL.det (op_assign rfl) rfl rfl rfl ?_
  refine WL.end ?_
  refine NE.code ?_
  refine CE.seq ?_
  refine CE.region ?_
  refine WL.det (op_move rfl) rfl rfl rfl ?_
  refine WL.call (oc_call (vs := [vF t, vF 1065353216, vF 1232348160]) (cap := []) rfl rfl rfl Try.call32 (c_insideI t 1065353216 1232348160 w)) rfl rfl (ltb rfl) ?_
  rintro _ _ ⟨rfl, rfl⟩
  refine WL.det (op_assign rfl) rfl rfl rfl ?_
  refine WL.end ?_
  refine NE.code ?_
  refine CE.ret' ?_
  refine XE.leave1 Try.results18 rfl ?_
  refine ⟨?_, (Mod.refl [] w)⟩
  all_goals simp_all [tailOk]

set_option maxRecDepth 100000 in
set_option maxHeartbeats 2000000 in
theorem c_l06Tail (t : Nat) (w : World) : Cl Try.prog 30 #[vF t] w fun v w' => v = .bool (tailOk t) ∧ Mod [] w w' := by
  refine Cl.of Try.func30 Try.ntmps30 rfl rfl (ρ := [(0, vF t)]) rfl ?_
  refine CE.seq ?_
  refine CE.region ?_
  refine WL.det (op_assign rfl) rfl rfl rfl ?_
  refine WL.end ?_
  refine NE.code ?_
  refine CE.seq ?_
  refine CE.region ?_
  refine WL.det (op_move rfl) rfl rfl rfl ?_
  refine WL.det (op_fge (c := fGe .f32 t 1065353216) rfl rfl rfl rfl rfl) rfl rfl rfl ?_
  refine WL.det (op_move rfl) rfl rfl rfl ?_
  rcases Bool.eq_false_or_eq_true (fGe .f32 t 1065353216) with hb1 | hb1
  · refine WL.yes rfl rfl rfl (ltb rfl) rfl hb1 ?_
    refine WL.det (op_move rfl) rfl rfl rfl ?_
    refine WL.yes rfl rfl rfl (ltb rfl) rfl hb1 ?_
    refine WL.det (op_fle (c := fLe .f32 t 1232348160) rfl rfl rfl rfl rfl) rfl rfl rfl ?_
    refine WL.det (op_pick_t rfl hb1 rfl) rfl rfl rfl ?_
    refine WL.det (op_assign rfl) rfl rfl rfl ?_
    refine WL.end ?_
    refine NE.code ?_
    refine CE.ret' ?_
    refine XE.leave1 Try.results30 rfl ?_
    refine ⟨?_, (Mod.refl [] w)⟩
    all_goals simp_all [tailOk]
  · refine WL.no rfl rfl rfl (ltb rfl) rfl hb1 rfl (ltb rfl) ?_
    refine WL.no rfl rfl rfl (ltb rfl) rfl hb1 rfl (ltb rfl) ?_
    refine WL.det (op_pick_f rfl hb1 rfl) rfl rfl rfl ?_
    refine WL.det (op_assign rfl) rfl rfl rfl ?_
    refine WL.end ?_
    refine NE.code ?_
    refine CE.ret' ?_
    refine XE.leave1 Try.results30 rfl ?_
    refine ⟨?_, (Mod.refl [] w)⟩
    all_goals simp_all [tailOk]

set_option maxRecDepth 100000 in
set_option maxHeartbeats 2000000 in
theorem c_l06Gain (n : Nat) (t : Nat) (h1 : 1 ≤ n) (h2 : n ≤ 1024) (ht : tailOk t = true) (hnar : fGt .f64 (gE n t) 4607182418800017408 = false → Narrows (gS (gE n t)) (gN (gE n t))) (w : World) : Cl Try.prog 31 #[vI ((n : Nat) : Int), vF t] w fun v w' => ∃ (y : Nat), v = vF y ∧ (cn .f32 y = cn .f32 (gF n t)) ∧ (y < wid .f32) ∧ Mod [] w w' := by
  refine Cl.of Try.func31 Try.ntmps31 rfl rfl (ρ := [(0, vI ((n : Nat) : Int)), (1, vF t)]) rfl ?_
  refine CE.seq ?_
  refine CE.region ?_
  refine WL.det (op_assign rfl) rfl rfl rfl ?_
  refine WL.end ?_
  refine NE.code ?_
  refine CE.seq ?_
  refine CE.region ?_
  refine WL.det (op_move rfl) rfl rfl rfl ?_
  refine WL.det (op_cvt_if rfl Try.runUnderlying2 Try.runUnderlying68) rfl rfl rfl ?_
  refine WL.op (op_farith (e := (fop .mul .f64 4619463459138379574 (FloatKind.f64.nearest ((n : Nat) : Int)))) (.inr (.inr (.inl rfl))) rfl rfl rfl rfl rfl) rfl rfl (ltb rfl) ?_
  rintro _ w1 ⟨⟨f1, rfl, hf1, lf1⟩, m1⟩
  refine WL.det (op_move rfl) rfl rfl rfl ?_
  refine WL.op (op_widen (e := (wide t)) rfl rfl Try.runUnderlying24 Try.runUnderlying68 rfl) rfl rfl (ltb rfl) ?_
  rintro _ w2 ⟨⟨f2, rfl, hf2, lf2⟩, m2⟩
  refine WL.op (op_farith (e := (fop .quo .f64 (fop .mul .f64 4619463459138379574 (FloatKind.f64.nearest ((n : Nat) : Int))) (wide t))) (.inr (.inr (.inr rfl))) rfl rfl hf1 hf2 rfl) rfl rfl (ltb rfl) ?_
  rintro _ w3 ⟨⟨f3, rfl, hf3, lf3⟩, m3⟩
  refine WL.det (op_assign rfl) rfl rfl rfl ?_
  refine WL.end ?_
  refine NE.code ?_
  iterate 2 refine CE.seq ?_
  refine CE.region ?_
  refine WL.det (op_move rfl) rfl rfl rfl ?_
  refine WL.det (op_fgt (c := fGt .f64 (fop .quo .f64 (fop .mul .f64 4619463459138379574 (FloatKind.f64.nearest ((n : Nat) : Int))) (wide t)) 4607182418800017408) rfl rfl hf3 rfl rfl) rfl rfl rfl ?_
  refine WL.end ?_
  refine NE.code ?_
  rcases Bool.eq_false_or_eq_true (fGt .f64 (fop .quo .f64 (fop .mul .f64 4619463459138379574 (FloatKind.f64.nearest ((n : Nat) : Int))) (wide t)) 4607182418800017408) with hb1 | hb1
  · refine CE.cond_t rfl hb1 ?_
    refine CE.seq ?_
    refine CE.region ?_
    refine WL.det (op_assign rfl) rfl rfl rfl ?_
    refine WL.end ?_
    refine NE.code ?_
    refine CE.ret' ?_
    refine XE.ret_then ?_
    refine XE.leave1 Try.results31 rfl ?_
    refine ⟨0, rfl, ?_, ?_, ((((Mod.refl [] w).nt m1).nt m2).nt m3)⟩
    all_goals first | exact hf8.trans (congrArg (cn .f32) (gF_lo hb1).symm) | exact lf8 | exact congrArg (cn .f32) (gF_hi hb1).symm | (rw [wid32]; omega)
  · refine CE.cond_f rfl hb1 ?_
    refine CE.skip' ?_
    refine NE.code ?_
    refine CE.seq ?_
    refine CE.region ?_
    refine WL.det (op_move rfl) rfl rfl rfl ?_
    refine WL.op (op_farith (e := (fop .sub .f64 4607182418800017408 (fop .quo .f64 (fop .mul .f64 4619463459138379574 (FloatKind.f64.nearest ((n : Nat) : Int))) (wide t)))) (.inr (.inl rfl)) rfl rfl rfl hf3 rfl) rfl rfl (ltb rfl) ?_
    rintro _ w4 ⟨⟨f4, rfl, hf4, lf4⟩, m4⟩
    iterate 2 refine WL.det (op_move rfl) rfl rfl rfl ?_
    refine WL.op (op_farith (e := (fop .mul .f64 (fop .quo .f64 (fop .mul .f64 4619463459138379574 (FloatKind.f64.nearest ((n : Nat) : Int))) (wide t)) (fop .quo .f64 (fop .mul .f64 4619463459138379574 (FloatKind.f64.nearest ((n : Nat) : Int))) (wide t)))) (.inr (.inr (.inl rfl))) rfl rfl hf3 hf3 rfl) rfl rfl (ltb rfl) ?_
    rintro _ w5 ⟨⟨f5, rfl, hf5, lf5⟩, m5⟩
    refine WL.op (op_farith (e := (fop .quo .f64 (fop .mul .f64 (fop .quo .f64 (fop .mul .f64 4619463459138379574 (FloatKind.f64.nearest ((n : Nat) : Int))) (wide t)) (fop .quo .f64 (fop .mul .f64 4619463459138379574 (FloatKind.f64.nearest ((n : Nat) : Int))) (wide t))) 4611686018427387904)) (.inr (.inr (.inr rfl))) rfl rfl hf5 rfl rfl) rfl rfl (ltb rfl) ?_
    rintro _ w6 ⟨⟨f6, rfl, hf6, lf6⟩, m6⟩
    refine WL.op (op_farith (e := (fop .add .f64 (fop .sub .f64 4607182418800017408 (fop .quo .f64 (fop .mul .f64 4619463459138379574 (FloatKind.f64.nearest ((n : Nat) : Int))) (wide t))) (fop .quo .f64 (fop .mul .f64 (fop .quo .f64 (fop .mul .f64 4619463459138379574 (FloatKind.f64.nearest ((n : Nat) : Int))) (wide t)) (fop .quo .f64 (fop .mul .f64 4619463459138379574 (FloatKind.f64.nearest ((n : Nat) : Int))) (wide t))) 4611686018427387904))) (.inl rfl) rfl rfl hf4 hf6 rfl) rfl rfl (ltb rfl) ?_
    rintro _ w7 ⟨⟨f7, rfl, hf7, lf7⟩, m7⟩
    refine WL.op (op_narrow (e := (gN (gE n t))) rfl hf7 Try.runUnderlying68 Try.runUnderlying24 (hnar hb1)) rfl rfl (ltb rfl) ?_
    rintro _ w8 ⟨⟨f8, rfl, hf8, lf8⟩, m8⟩
    refine WL.det (op_assign rfl) rfl rfl rfl ?_
    refine WL.end ?_
    refine NE.code ?_
    refine CE.ret' ?_
    refine XE.leave1 Try.results31 rfl ?_
    refine ⟨f8, rfl, ?_, ?_, (((((((((Mod.refl [] w).nt m1).nt m2).nt m3).nt m4).nt m5).nt m6).nt m7).nt m8)⟩
    all_goals first | exact hf8.trans (congrArg (cn .f32) (gF_lo hb1).symm) | exact lf8 | exact congrArg (cn .f32) (gF_hi hb1).symm | (rw [wid32]; omega)

set_option maxRecDepth 100000 in
set_option maxHeartbeats 2000000 in
theorem c_sGainFor (n : Nat) (t : Nat) (h1 : 1 ≤ n) (h2 : n ≤ 1024) (ht : tailOk t = true) (hnar : fGt .f64 (gE n t) 4607182418800017408 = false → Narrows (gS (gE n t)) (gN (gE n t))) (w : World) : Cl Try.prog 15 #[vI ((n : Nat) : Int), vF t] w fun v w' => ∃ (y : Nat), v = .tuple #[vF y, vI 0] ∧ (cn .f32 y = cn .f32 (gF n t)) ∧ (y < wid .f32) ∧ Mod [] w w' := by
  refine Cl.of Try.func15 Try.ntmps15 rfl rfl (ρ := [(0, vI ((n : Nat) : Int)), (1, vF t)]) rfl ?_
  refine CE.seq ?_
  refine CE.region ?_
  iterate 2 refine WL.det (op_assign rfl) rfl rfl rfl ?_
  refine WL.end ?_
  refine NE.code ?_
  iterate 2 refine CE.seq ?_
  refine CE.region ?_
  refine WL.det (op_move rfl) rfl rfl rfl ?_
  refine WL.call (oc_call (vs := [vI ((n : Nat) : Int), vI 1, vI 1024]) (cap := []) rfl rfl rfl Try.call29 (c_l00In ((n : Nat) : Int) (1 : Int) (1024 : Int) w)) rfl rfl (ltb rfl) ?_
  rintro _ _ ⟨rfl, rfl⟩
  refine WL.det (op_not rfl) rfl rfl rfl ?_
  refine WL.det (op_move rfl) rfl rfl rfl ?_
  refine WL.yes rfl rfl rfl (ltb rfl) rfl (bnot_t ((vIn_t _ _ _).2 ⟨by omega, by omega⟩)) ?_
  refine WL.det (op_move rfl) rfl rfl rfl ?_
  refine WL.yes rfl rfl rfl (ltb rfl) rfl (bnot_t ((vIn_t _ _ _).2 ⟨by omega, by omega⟩)) ?_
  refine WL.call (oc_call (vs := [vF t]) (cap := []) rfl rfl rfl Try.call30 (c_l06Tail t w)) rfl rfl (ltb rfl) ?_
  rintro _ w1 ⟨rfl, m1⟩
  refine WL.yes rfl rfl rfl (ltb rfl) rfl (bnot_t ((vIn_t _ _ _).2 ⟨by omega, by omega⟩)) ?_
  refine WL.det (op_not rfl) rfl rfl rfl ?_
  refine WL.det (op_pick_f rfl (bnot_t ((vIn_t _ _ _).2 ⟨by omega, by omega⟩)) rfl) rfl rfl rfl ?_
  refine WL.end ?_
  refine NE.code ?_
  refine CE.cond_f rfl (bnot_t ht) ?_
  refine CE.skip' ?_
  refine NE.code ?_
  refine CE.seq ?_
  refine CE.region ?_
  iterate 2 refine WL.det (op_move rfl) rfl rfl rfl ?_
  refine WL.call (oc_call (vs := [vI ((n : Nat) : Int), vF t]) (cap := []) rfl rfl rfl Try.call31 (c_l06Gain n t (by omega) (by omega) (by assumption) (by assumption) w1)) rfl rfl (ltb rfl) ?_
  rintro _ w2 ⟨y1, rfl, h1, h2, m2⟩
  iterate 2 refine WL.det (op_assign rfl) rfl rfl rfl ?_
  refine WL.end ?_
  refine NE.code ?_
  refine CE.ret' ?_
  refine XE.leaveT Try.results15 (res_tmp rfl (res_tmp rfl res_nil)) ?_
  refine ⟨y1, rfl, ?_, ?_, (((Mod.refl [] w).nt m1).nt m2)⟩
  all_goals first | assumption | rfl

set_option maxRecDepth 100000 in
set_option maxHeartbeats 2000000 in
theorem c_iGainFor (n : Nat) (t : Nat) (h1 : 1 ≤ n) (h2 : n ≤ 1024) (ht : tailOk t = true) (hnar : fGt .f64 (gE n t) 4607182418800017408 = false → Narrows (gS (gE n t)) (gN (gE n t))) (w : World) : Cl Try.prog 14 #[vI ((n : Nat) : Int), vF t] w fun v w' => ∃ (y : Nat), v = .tuple #[vF y, vI 0] ∧ (cn .f32 y = cn .f32 (gF n t)) ∧ (y < wid .f32) ∧ Mod [] w w' := by
  refine Cl.of Try.func14 Try.ntmps14 rfl rfl (ρ := [(0, vI ((n : Nat) : Int)), (1, vF t)]) rfl ?_
  refine CE.seq ?_
  refine CE.region ?_
  iterate 2 refine WL.det (op_assign rfl) rfl rfl rfl ?_
  refine WL.end ?_
  refine NE.code ?_
  iterate 2 refine CE.seq ?_
  refine CE.region ?_
  refine WL.det (op_move rfl) rfl rfl rfl ?_
  refine WL.call (oc_call (vs := [vI ((n : Nat) : Int), vI 1, vI 1024]) (cap := []) rfl rfl rfl Try.call23 (c_within ((n : Nat) : Int) (1 : Int) (1024 : Int) w)) rfl rfl (ltb rfl) ?_
  rintro _ _ ⟨rfl, rfl⟩
  refine WL.det (op_not rfl) rfl rfl rfl ?_
  refine WL.det (op_move rfl) rfl rfl rfl ?_
  refine WL.yes rfl rfl rfl (ltb rfl) rfl (bnot_t ((vIn_t _ _ _).2 ⟨by omega, by omega⟩)) ?_
  refine WL.det (op_move rfl) rfl rfl rfl ?_
  refine WL.yes rfl rfl rfl (ltb rfl) rfl (bnot_t ((vIn_t _ _ _).2 ⟨by omega, by omega⟩)) ?_
  refine WL.call (oc_call (vs := [vF t]) (cap := []) rfl rfl rfl Try.call18 (c_isTail t w)) rfl rfl (ltb rfl) ?_
  rintro _ w1 ⟨rfl, m1⟩
  refine WL.yes rfl rfl rfl (ltb rfl) rfl (bnot_t ((vIn_t _ _ _).2 ⟨by omega, by omega⟩)) ?_
  refine WL.det (op_not rfl) rfl rfl rfl ?_
  refine WL.det (op_pick_f rfl (bnot_t ((vIn_t _ _ _).2 ⟨by omega, by omega⟩)) rfl) rfl rfl rfl ?_
  refine WL.end ?_
  refine NE.code ?_
  refine CE.cond_f rfl (bnot_t ht) ?_
  refine CE.skip' ?_
  refine NE.code ?_
  refine CE.seq ?_
  refine CE.region ?_
  refine WL.det (op_move rfl) rfl rfl rfl ?_
  refine WL.det (op_cvt_if rfl Try.runUnderlying2 Try.runUnderlying68) rfl rfl rfl ?_
  refine WL.op (op_farith (e := (fop .mul .f64 4619463459138379574 (FloatKind.f64.nearest ((n : Nat) : Int)))) (.inr (.inr (.inl rfl))) rfl rfl rfl rfl rfl) rfl rfl (ltb rfl) ?_
  rintro _ w2 ⟨⟨f1, rfl, hf1, lf1⟩, m2⟩
  refine WL.det (op_move rfl) rfl rfl rfl ?_
  refine WL.op (op_widen (e := (wide t)) rfl rfl Try.runUnderlying24 Try.runUnderlying68 rfl) rfl rfl (ltb rfl) ?_
  rintro _ w3 ⟨⟨f2, rfl, hf2, lf2⟩, m3⟩
  refine WL.op (op_farith (e := (fop .quo .f64 (fop .mul .f64 4619463459138379574 (FloatKind.f64.nearest ((n : Nat) : Int))) (wide t))) (.inr (.inr (.inr rfl))) rfl rfl hf1 hf2 rfl) rfl rfl (ltb rfl) ?_
  rintro _ w4 ⟨⟨f3, rfl, hf3, lf3⟩, m4⟩
  refine WL.det (op_assign rfl) rfl rfl rfl ?_
  refine WL.end ?_
  refine NE.code ?_
  iterate 2 refine CE.seq ?_
  refine CE.region ?_
  refine WL.det (op_move rfl) rfl rfl rfl ?_
  refine WL.det (op_fgt (c := fGt .f64 (fop .quo .f64 (fop .mul .f64 4619463459138379574 (FloatKind.f64.nearest ((n : Nat) : Int))) (wide t)) 4607182418800017408) rfl rfl hf3 rfl rfl) rfl rfl rfl ?_
  refine WL.end ?_
  refine NE.code ?_
  rcases Bool.eq_false_or_eq_true (fGt .f64 (fop .quo .f64 (fop .mul .f64 4619463459138379574 (FloatKind.f64.nearest ((n : Nat) : Int))) (wide t)) 4607182418800017408) with hb1 | hb1
  · refine CE.cond_t rfl hb1 ?_
    refine CE.seq ?_
    refine CE.region ?_
    iterate 2 refine WL.det (op_assign rfl) rfl rfl rfl ?_
    refine WL.end ?_
    refine NE.code ?_
    refine CE.ret' ?_
    refine XE.ret_then ?_
    refine XE.leaveT Try.results14 (res_tmp rfl (res_tmp rfl res_nil)) ?_
    refine ⟨0, rfl, ?_, ?_, (((((Mod.refl [] w).nt m1).nt m2).nt m3).nt m4)⟩
    all_goals first | exact hf8.trans (congrArg (cn .f32) (gF_lo hb1).symm) | exact lf8 | exact congrArg (cn .f32) (gF_hi hb1).symm | (rw [wid32]; omega)
  · refine CE.cond_f rfl hb1 ?_
    refine CE.skip' ?_
    refine NE.code ?_
    refine CE.seq ?_
    refine CE.region ?_
    refine WL.det (op_move rfl) rfl rfl rfl ?_
    refine WL.op (op_farith (e := (fop .sub .f64 4607182418800017408 (fop .quo .f64 (fop .mul .f64 4619463459138379574 (FloatKind.f64.nearest ((n : Nat) : Int))) (wide t)))) (.inr (.inl rfl)) rfl rfl rfl hf3 rfl) rfl rfl (ltb rfl) ?_
    rintro _ w5 ⟨⟨f4, rfl, hf4, lf4⟩, m5⟩
    iterate 2 refine WL.det (op_move rfl) rfl rfl rfl ?_
    refine WL.op (op_farith (e := (fop .mul .f64 (fop .quo .f64 (fop .mul .f64 4619463459138379574 (FloatKind.f64.nearest ((n : Nat) : Int))) (wide t)) (fop .quo .f64 (fop .mul .f64 4619463459138379574 (FloatKind.f64.nearest ((n : Nat) : Int))) (wide t)))) (.inr (.inr (.inl rfl))) rfl rfl hf3 hf3 rfl) rfl rfl (ltb rfl) ?_
    rintro _ w6 ⟨⟨f5, rfl, hf5, lf5⟩, m6⟩
    refine WL.op (op_farith (e := (fop .quo .f64 (fop .mul .f64 (fop .quo .f64 (fop .mul .f64 4619463459138379574 (FloatKind.f64.nearest ((n : Nat) : Int))) (wide t)) (fop .quo .f64 (fop .mul .f64 4619463459138379574 (FloatKind.f64.nearest ((n : Nat) : Int))) (wide t))) 4611686018427387904)) (.inr (.inr (.inr rfl))) rfl rfl hf5 rfl rfl) rfl rfl (ltb rfl) ?_
    rintro _ w7 ⟨⟨f6, rfl, hf6, lf6⟩, m7⟩
    refine WL.op (op_farith (e := (fop .add .f64 (fop .sub .f64 4607182418800017408 (fop .quo .f64 (fop .mul .f64 4619463459138379574 (FloatKind.f64.nearest ((n : Nat) : Int))) (wide t))) (fop .quo .f64 (fop .mul .f64 (fop .quo .f64 (fop .mul .f64 4619463459138379574 (FloatKind.f64.nearest ((n : Nat) : Int))) (wide t)) (fop .quo .f64 (fop .mul .f64 4619463459138379574 (FloatKind.f64.nearest ((n : Nat) : Int))) (wide t))) 4611686018427387904))) (.inl rfl) rfl rfl hf4 hf6 rfl) rfl rfl (ltb rfl) ?_
    rintro _ w8 ⟨⟨f7, rfl, hf7, lf7⟩, m8⟩
    refine WL.op (op_narrow (e := (gN (gE n t))) rfl hf7 Try.runUnderlying68 Try.runUnderlying24 (hnar hb1)) rfl rfl (ltb rfl) ?_
    rintro _ w9 ⟨⟨f8, rfl, hf8, lf8⟩, m9⟩
    iterate 2 refine WL.det (op_assign rfl) rfl rfl rfl ?_
    refine WL.end ?_
    refine NE.code ?_
    refine CE.ret' ?_
    refine XE.leaveT Try.results14 (res_tmp rfl (res_tmp rfl res_nil)) ?_
    refine ⟨f8, rfl, ?_, ?_, ((((((((((Mod.refl [] w).nt m1).nt m2).nt m3).nt m4).nt m5).nt m6).nt m7).nt m8).nt m9)⟩
    all_goals first | exact hf8.trans (congrArg (cn .f32) (gF_lo hb1).symm) | exact lf8 | exact congrArg (cn .f32) (gF_hi hb1).symm | (rw [wid32]; omega)

theorem c_gain100 (n : Nat) (h1 : 1 ≤ n) (h2 : n ≤ 200) (w : World) : Cl Try.prog 14 #[vI ((n : Nat) : Int), vF 1120403456] w fun v w' => ∃ (g : Nat), v = .tuple #[vF g, vI 0] ∧ (Bw g 0) ∧ Mod [] w w' := by
  obtain ⟨hg, hn⟩ := gain100 h1 h2
  refine Cl.mono (c_iGainFor n 1120403456 h1 (by omega) (by decide +kernel) hn w) ?_
  rintro v w' ⟨y, rfl, h, hl, m⟩
  rw [Bw.of_cn h hg.2 hg.1 (by omega)]
  exact ⟨_, rfl, hg, m⟩
set_option maxRecDepth 100000 in
set_option maxHeartbeats 2000000 in
theorem c_isKeep (k : Nat) (w : World) : Cl Try.prog 19 #[vF k] w fun v w' => v = .bool (fGe .f32 k 0 && fLt .f32 k 1065353216) ∧ Mod [] w w' := by
  refine Cl.of Try.func19 Try.ntmps19 rfl rfl (ρ := [(0, vF k)]) rfl ?_
  refine CE.seq ?_
  refine CE.region ?_
  refine WL.det (op_assign rfl) rfl rfl rfl ?_
  refine WL.end ?_
  refine NE.code ?_
  refine CE.seq ?_
  refine CE.region ?_
  refine WL.det (op_move rfl) rfl rfl rfl ?_
  refine WL.det (op_fge (c := fGe .f32 k 0) rfl rfl rfl rfl rfl) rfl rfl rfl ?_
  refine WL.det (op_move rfl) rfl rfl rfl ?_
  rcases Bool.eq_false_or_eq_true (fGe .f32 k 0) with hb1 | hb1
  · refine WL.yes rfl rfl rfl (ltb rfl) rfl hb1 ?_
    refine WL.det (op_move rfl) rfl rfl rfl ?_
    refine WL.yes rfl rfl rfl (ltb rfl) rfl hb1 ?_
    refine WL.det (op_flt (c := fLt .f32 k 1065353216) rfl rfl rfl rfl rfl) rfl rfl rfl ?_
    refine WL.det (op_pick_t rfl hb1 rfl) rfl rfl rfl ?_
    refine WL.det (op_assign rfl) rfl rfl rfl ?_
    refine WL.end ?_
    refine NE.code ?_
    refine CE.ret' ?_
    refine XE.leave1 Try.results19 rfl ?_
    refine ⟨?_, (Mod.refl [] w)⟩
    all_goals simp_all
  · refine WL.no rfl rfl rfl (ltb rfl) rfl hb1 rfl (ltb rfl) ?_
    refine WL.no rfl rfl rfl (ltb rfl) rfl hb1 rfl (ltb rfl) ?_
    refine WL.det (op_pick_f rfl hb1 rfl) rfl rfl rfl ?_
    refine WL.det (op_assign rfl) rfl rfl rfl ?_
    refine WL.end ?_
    refine NE.code ?_
    refine CE.ret' ?_
    refine XE.leave1 Try.results19 rfl ?_
    refine ⟨?_, (Mod.refl [] w)⟩
    all_goals simp_all

set_option maxRecDepth 100000 in
set_option maxHeartbeats 2000000 in
theorem c_NewComb (n : Nat) (g : Nat) (h1 : 1 ≤ n) (h2 : n ≤ 1024) (hg1 : fGt .f32 g 3212836864 = true) (hg2 : fLt .f32 g 1065353216 = true) (w : World) : Cl Try.prog 22 #[vI ((n : Nat) : Int), vF g] w fun v w' => ∃ (b' : Nat), v = .tuple #[.agg #[vS b' 0 n n, vI 0, vF g], vI 0] ∧ Row w' b' 0 (fl (List.replicate n 0)) ∧ w.heap.size ≤ b' ∧ Mod [] w w' := by
  refine Cl.of Try.func22 Try.ntmps22 rfl rfl (ρ := [(0, vI ((n : Nat) : Int)), (1, vF g)]) rfl ?_
  refine CE.seq ?_
  refine CE.region ?_
  refine WL.op (op_alloc (cs := [.slice none 0 0, vI 0, vF 0]) Try.zeroValue34 rfl) rfl rfl (ltb rfl) ?_
  rintro _ w1 ⟨rfl, r1, m1, z1⟩
  refine WL.det (op_assign rfl) rfl rfl rfl ?_
  refine WL.end ?_
  refine NE.code ?_
  iterate 2 refine CE.seq ?_
  refine CE.region ?_
  refine WL.det (op_move rfl) rfl rfl rfl ?_
  refine WL.call (oc_call (vs := [vI ((n : Nat) : Int), vI 1, vI 1024]) (cap := []) rfl rfl rfl Try.call23 (c_within ((n : Nat) : Int) (1 : Int) (1024 : Int) w1)) rfl rfl (ltb rfl) ?_
  rintro _ _ ⟨rfl, rfl⟩
  refine WL.det (op_not rfl) rfl rfl rfl ?_
  refine WL.det (op_move rfl) rfl rfl rfl ?_
  refine WL.yes rfl rfl rfl (ltb rfl) rfl (bnot_t ((vIn_t _ _ _).2 ⟨by omega, by omega⟩)) ?_
  refine WL.det (op_move rfl) rfl rfl rfl ?_
  refine WL.yes rfl rfl rfl (ltb rfl) rfl (bnot_t ((vIn_t _ _ _).2 ⟨by omega, by omega⟩)) ?_
  refine WL.det (op_fgt (c := fGt .f32 g 3212836864) rfl rfl rfl rfl rfl) rfl rfl rfl ?_
  refine WL.yes rfl rfl rfl (ltb rfl) rfl (bnot_t ((vIn_t _ _ _).2 ⟨by omega, by omega⟩)) ?_
  refine WL.det (op_move rfl) rfl rfl rfl ?_
  refine WL.yes rfl rfl rfl (ltb rfl) rfl hg1 ?_
  refine WL.det (op_move rfl) rfl rfl rfl ?_
  refine WL.yes rfl rfl rfl (ltb rfl) rfl hg1 ?_
  refine WL.det (op_flt (c := fLt .f32 g 1065353216) rfl rfl rfl rfl rfl) rfl rfl rfl ?_
  refine WL.yes rfl rfl rfl (ltb rfl) rfl (bnot_t ((vIn_t _ _ _).2 ⟨by omega, by omega⟩)) ?_
  refine WL.det (op_pick_t rfl hg1 rfl) rfl rfl rfl ?_
  refine WL.yes rfl rfl rfl (ltb rfl) rfl (bnot_t ((vIn_t _ _ _).2 ⟨by omega, by omega⟩)) ?_
  refine WL.det (op_not rfl) rfl rfl rfl ?_
  refine WL.det (op_pick_f rfl (bnot_t ((vIn_t _ _ _).2 ⟨by omega, by omega⟩)) rfl) rfl rfl rfl ?_
  refine WL.end ?_
  refine NE.code ?_
  refine CE.cond_f rfl (bnot_t hg2) ?_
  refine CE.skip' ?_
  refine NE.code ?_
  refine CE.seq ?_
  refine CE.region ?_
  refine WL.det (op_move rfl) rfl rfl rfl ?_
  refine WL.call (oc_call (vs := [vI ((n : Nat) : Int)]) (cap := []) rfl rfl rfl Try.call21 (c_NewRing n (by omega) (by omega) w1)) rfl rfl (ltb rfl) ?_
  rintro _ w2 ⟨b'1, rfl, r2, ge1, m2⟩
  refine WL.det (op_move rfl) rfl rfl rfl ?_
  iterate 2 refine WL.det (op_extract rfl rfl) rfl rfl rfl ?_
  refine WL.op (op_alloc (cs := [.slice none 0 0, vI 0]) Try.zeroValue31 rfl) rfl rfl (ltb rfl) ?_
  rintro _ w3 ⟨rfl, r3, m3, z2⟩
  refine WL.op0 (op_store (i := 0) (cs := [vS b'1 0 n n, vI 0]) rfl rfl rfl Try.sizeOf31 rfl r3 rfl (lB rfl) rfl) rfl rfl ?_
  rintro _ w4 ⟨r4, m4, z3⟩
  have r5 : Row w4 w2.heap.size 0 [vS b'1 0 n n, vI 0] := Row.congr r4 rfl
  refine WL.det (op_assign rfl) rfl rfl rfl ?_
  refine WL.end ?_
  refine NE.code ?_
  refine CE.seq ?_
  refine CE.region ?_
  refine WL.det (op_loadA (i := 0) (cs := [vS b'1 0 n n, vI 0]) rfl Try.isAgg31 Try.sizeOf31 r5.rng rfl rfl rfl) rfl rfl rfl ?_
  refine WL.det (op_move rfl) rfl rfl rfl ?_
  refine WL.det (op_build (qs := [(0, .agg #[vS b'1 0 n n, vI 0]), (1, vF g)]) (cells := #[vS b'1 0 n n, vI 0, vF g]) rfl (by kernel_rfl)) rfl rfl rfl ?_
  have r6 := (((r1.ext m2).ext m3).mod m4 (nC (lE (lL (lL r1.lt m2.size) lR)) nN))
  refine WL.op0 (op_store (i := 0) (cs := [vS b'1 0 n n, vI 0, vF g]) rfl rfl rfl Try.sizeOf34 rfl r6 rfl (lB rfl) rfl) rfl rfl ?_
  rintro _ w5 ⟨r7, m5, z4⟩
  have r8 : Row w5 w.heap.size 0 [vS b'1 0 n n, vI 0, vF g] := Row.congr r7 rfl
  refine WL.det (op_assign rfl) rfl rfl rfl ?_
  refine WL.end ?_
  refine NE.code ?_
  refine CE.ret' ?_
  refine XE.leaveT Try.results22 (res_agg (cs := [vS b'1 0 n n, vI 0, vF g]) rfl Try.isAgg34 Try.sizeOf34 r8.rng rfl (res_tmp rfl res_nil)) ?_
  have r9 := (((r2.ext m3).mod m4 (nC (lE (lL r2.lt lR)) nN)).mod m5 (nC (lG (lL r1.lt ge1)) nN))
  refine ⟨b'1, rfl, r9, (lT m1.size ge1), ((((((Mod.refl [] w).nt m1).nt m2).nt m3).then m4 ((aC (.inr (lT (lT m1.size m2.size) lR)) aN))).then m5 ((aC (.inr lR) aN)))⟩

set_option maxRecDepth 100000 in
set_option maxHeartbeats 2000000 in
theorem c_onePoleB (k : Nat) (w : World) : Cl Try.prog 24 #[vF k] w fun v w' => ∃ (y : Nat), v = .agg #[vI 1, vF y, vF k, vF 0, vF 0, vF 0] ∧ (cn .f32 y = cn .f32 (fop .sub .f32 1065353216 k)) ∧ (y < wid .f32) ∧ Mod [] w w' := by
  refine Cl.of Try.func24 Try.ntmps24 rfl rfl (ρ := [(0, vF k)]) rfl ?_
  refine CE.seq ?_
  refine CE.region ?_
  refine WL.op (op_alloc (cs := [vI 0, vF 0, vF 0, vF 0, vF 0, vF 0]) Try.zeroValue40 rfl) rfl rfl (ltb rfl) ?_
  rintro _ w1 ⟨rfl, r1, m1, z1⟩
  refine WL.end ?_
  refine NE.code ?_
  refine CE.seq ?_
  refine CE.region ?_
  refine WL.det (op_move rfl) rfl rfl rfl ?_
  refine WL.op (op_farith (e := (fop .sub .f32 1065353216 k)) (.inr (.inl rfl)) rfl rfl rfl rfl rfl) rfl rfl (ltb rfl) ?_
  rintro _ w2 ⟨⟨f1, rfl, hf1, lf1⟩, m2⟩
  refine WL.det (op_move rfl) rfl rfl rfl ?_
  refine WL.det (op_build (qs := [(0, vF f1), (1, vF k)]) (cells := #[vF f1, vF k, vF 0]) rfl (by kernel_rfl)) rfl rfl rfl ?_
  refine WL.det (op_build (qs := [(0, vI 1), (1, .agg #[vF f1, vF k, vF 0])]) (cells := #[vI 1, vF f1, vF k, vF 0, vF 0, vF 0]) rfl (by kernel_rfl)) rfl rfl rfl ?_
  refine WL.op0 (op_store (i := 0) (cs := [vI 1, vF f1, vF k, vF 0, vF 0, vF 0]) rfl rfl rfl Try.sizeOf40 rfl (r1.ext m2) rfl (lB rfl) rfl) rfl rfl ?_
  rintro _ w3 ⟨r2, m3, z2⟩
  have r3 : Row w3 w.heap.size 0 [vI 1, vF f1, vF k, vF 0, vF 0, vF 0] := Row.congr r2 rfl
  refine WL.end ?_
  refine NE.code ?_
  refine CE.ret' ?_
  refine XE.leaveC Try.results24 (res_agg (cs := [vI 1, vF f1, vF k, vF 0, vF 0, vF 0]) rfl Try.isAgg40 Try.sizeOf40 r3.rng rfl res_nil) ?_
  refine ⟨f1, rfl, ?_, ?_, ((((Mod.refl [] w).nt m1).nt m2).then m3 ((aC (.inr lR) aN)))⟩
  all_goals first | assumption | rfl

theorem c_onePole (w : World) : Cl Try.prog 24 #[vF 1056964608] w fun v w' => v = .agg #[vI 1, vF 1056964608, vF 1056964608, vF 0, vF 0, vF 0] ∧ Mod [] w w' := by
  refine Cl.mono (c_onePoleB 1056964608 w) ?_
  rintro v w' ⟨y, rfl, h, hl, m⟩
  have e : fop .sub .f32 1065353216 1056964608 = 1056964608 := by decide +kernel
  have hb : Bw 1056964608 0 := ⟨by decide +kernel, by unfold Bd; omega⟩
  rw [e] at h
  rw [Bw.of_cn h hb.2 hb.1 (by omega)]
  exact ⟨rfl, m⟩
set_option maxRecDepth 100000 in
set_option maxHeartbeats 2000000 in
theorem c_newRoom (n0 : Nat) (n3 : Nat) (h01 : 1 ≤ n0) (h02 : n0 ≤ 200) (h31 : 1 ≤ n3) (h32 : n3 ≤ 200) (w : World) : Cl Try.prog 10 #[.agg #[vI ((n0 : Nat) : Int), vI 2, vI 3, vI ((n3 : Nat) : Int)], vF 1120403456, vF 1056964608, vF 0] w fun v w' => ∃ (bE' : Nat) (bC0' : Nat) (bC1' : Nat) (bL0' : Nat) (bL1' : Nat) (bL2' : Nat) (bL3' : Nat) (g0 : Nat) (g1 : Nat) (g2 : Nat) (g3 : Nat), v = .tuple #[.agg #[vS bE' 0 1 1, vI 0, .slice none 0 0, vS bC0' 0 3 3, vI 0, vF 1056964608, vS bC1' 0 5 5, vI 0, vF 1056964608, vS bL0' 0 n0 n0, vI 0, vS bL1' 0 2 2, vI 0, vS bL2' 0 3 3, vI 0, vS bL3' 0 n3 n3, vI 0, vI 1, vF 1056964608, vF 1056964608, vF 0, vF 0, vF 0, vI 1, vF 1056964608, vF 1056964608, vF 0, vF 0, vF 0, vI 1, vF 1056964608, vF 1056964608, vF 0, vF 0, vF 0, vI 1, vF 1056964608, vF 1056964608, vF 0, vF 0, vF 0, vF g0, vF g1, vF g2, vF g3, vF 1065353216, vF 0], vI 0] ∧ (Bw g0 0) ∧ (Bw g1 0) ∧ (Bw g2 0) ∧ (Bw g3 0) ∧ Row w' bE' 0 (fl (List.replicate 1 0)) ∧ Row w' bC0' 0 (fl (List.replicate 3 0)) ∧ Row w' bC1' 0 (fl (List.replicate 5 0)) ∧ Row w' bL0' 0 (fl (List.replicate n0 0)) ∧ Row w' bL1' 0 (fl (List.replicate 2 0)) ∧ Row w' bL2' 0 (fl (List.replicate 3 0)) ∧ Row w' bL3' 0 (fl (List.replicate n3 0)) ∧ w.heap.size ≤ bE' ∧ w.heap.size ≤ bC0' ∧ w.heap.size ≤ bC1' ∧ w.heap.size ≤ bL0' ∧ w.heap.size ≤ bL1' ∧ w.heap.size ≤ bL2' ∧ w.heap.size ≤ bL3' ∧ bE' ≠ bC0' ∧ bE' ≠ bC1' ∧ bE' ≠ bL0' ∧ bE' ≠ bL1' ∧ bE' ≠ bL2' ∧ bE' ≠ bL3' ∧ bC0' ≠ bC1' ∧ bC0' ≠ bL0' ∧ bC0' ≠ bL1' ∧ bC0' ≠ bL2' ∧ bC0' ≠ bL3' ∧ bC1' ≠ bL0' ∧ bC1' ≠ bL1' ∧ bC1' ≠ bL2' ∧ bC1' ≠ bL3' ∧ bL0' ≠ bL1' ∧ bL0' ≠ bL2' ∧ bL0' ≠ bL3' ∧ bL1' ≠ bL2' ∧ bL1' ≠ bL3' ∧ bL2' ≠ bL3' ∧ Mod [] w w' := by
  refine Cl.of Try.func10 Try.ntmps10 rfl rfl (ρ := [(0, .agg #[vI ((n0 : Nat) : Int), vI 2, vI 3, vI ((n3 : Nat) : Int)]), (1, vF 1120403456), (2, vF 1056964608), (3, vF 0)]) rfl ?_
  refine CE.seq ?_
  refine CE.region ?_
  refine WL.op (op_box (cs := [vI ((n0 : Nat) : Int), vI 2, vI 3, vI ((n3 : Nat) : Int)]) rfl rfl) rfl rfl (ltb rfl) ?_
  rintro _ w1 ⟨rfl, r1, m1, z1⟩
  refine WL.op (op_alloc (cs := [.slice none 0 0, vI 0, .slice none 0 0, .slice none 0 0, vI 0, vF 0, .slice none 0 0, vI 0, vF 0, .slice none 0 0, vI 0, .slice none 0 0, vI 0, .slice none 0 0, vI 0, .slice none 0 0, vI 0, vI 0, vF 0, vF 0, vF 0, vF 0, vF 0, vI 0, vF 0, vF 0, vF 0, vF 0, vF 0, vI 0, vF 0, vF 0, vF 0, vF 0, vF 0, vI 0, vF 0, vF 0, vF 0, vF 0, vF 0, vF 0, vF 0, vF 0, vF 0, vF 0, vF 0]) Try.zeroValue43 rfl) rfl rfl (ltb rfl) ?_
  rintro _ w2 ⟨rfl, r2, m2, z2⟩
  refine WL.det (op_assign rfl) rfl rfl rfl ?_
  refine WL.end ?_
  refine NE.code ?_
  iterate 2 refine CE.seq ?_
  refine CE.region ?_
  refine WL.det (op_move rfl) rfl rfl rfl ?_
  refine WL.call (oc_call (vs := [vF 1120403456]) (cap := []) rfl rfl rfl Try.call18 (c_isTail 1120403456 w2)) rfl rfl (ltb rfl) ?_
  rintro _ w3 ⟨rfl, m3⟩
  refine WL.det (op_not rfl) rfl rfl rfl ?_
  refine WL.det (op_move rfl) rfl rfl rfl ?_
  refine WL.yes rfl rfl rfl (ltb rfl) rfl (bnot_t (by decide +kernel)) ?_
  refine WL.det (op_move rfl) rfl rfl rfl ?_
  refine WL.yes rfl rfl rfl (ltb rfl) rfl (bnot_t (by decide +kernel)) ?_
  refine WL.call (oc_call (vs := [vF 1056964608]) (cap := []) rfl rfl rfl Try.call19 (c_isKeep 1056964608 w3)) rfl rfl (ltb rfl) ?_
  rintro _ w4 ⟨rfl, m4⟩
  refine WL.yes rfl rfl rfl (ltb rfl) rfl (bnot_t (by decide +kernel)) ?_
  refine WL.det (op_not rfl) rfl rfl rfl ?_
  refine WL.det (op_pick_f rfl (bnot_t (by decide +kernel)) rfl) rfl rfl rfl ?_
  refine WL.det (op_move rfl) rfl rfl rfl ?_
  refine WL.yes rfl rfl rfl (ltb rfl) rfl (bnot_t (by decide +kernel)) ?_
  refine WL.det (op_move rfl) rfl rfl rfl ?_
  refine WL.yes rfl rfl rfl (ltb rfl) rfl (bnot_t (by decide +kernel)) ?_
  refine WL.call (oc_call (vs := [vF 0]) (cap := []) rfl rfl rfl Try.call20 (c_isFinite 0 0 rfl w4)) rfl rfl (ltb rfl) ?_
  rintro _ w5 ⟨rfl, m5⟩
  refine WL.yes rfl rfl rfl (ltb rfl) rfl (bnot_t (by decide +kernel)) ?_
  refine WL.det (op_not rfl) rfl rfl rfl ?_
  refine WL.det (op_pick_f rfl (bnot_t (by decide +kernel)) rfl) rfl rfl rfl ?_
  refine WL.end ?_
  refine NE.code ?_
  refine CE.cond_f rfl (bnot_t (by decide +kernel)) ?_
  refine CE.skip' ?_
  refine NE.code ?_
  refine CE.seq ?_
  refine CE.region ?_
  refine WL.det (op_move rfl) rfl rfl rfl ?_
  refine WL.det (op_build (qs := [(6, vF 1065353216), (7, vF 0)]) (cells := #[.slice none 0 0, vI 0, .slice none 0 0, .slice none 0 0, vI 0, vF 0, .slice none 0 0, vI 0, vF 0, .slice none 0 0, vI 0, .slice none 0 0, vI 0, .slice none 0 0, vI 0, .slice none 0 0, vI 0, vI 0, vF 0, vF 0, vF 0, vF 0, vF 0, vI 0, vF 0, vF 0, vF 0, vF 0, vF 0, vI 0, vF 0, vF 0, vF 0, vF 0, vF 0, vI 0, vF 0, vF 0, vF 0, vF 0, vF 0, vF 0, vF 0, vF 0, vF 0, vF 1065353216, vF 0]) rfl (by kernel_rfl)) rfl rfl rfl ?_
  refine WL.op (op_alloc (cs := [.slice none 0 0, vI 0, .slice none 0 0, .slice none 0 0, vI 0, vF 0, .slice none 0 0, vI 0, vF 0, .slice none 0 0, vI 0, .slice none 0 0, vI 0, .slice none 0 0, vI 0, .slice none 0 0, vI 0, vI 0, vF 0, vF 0, vF 0, vF 0, vF 0, vI 0, vF 0, vF 0, vF 0, vF 0, vF 0, vI 0, vF 0, vF 0, vF 0, vF 0, vF 0, vI 0, vF 0, vF 0, vF 0, vF 0, vF 0, vF 0, vF 0, vF 0, vF 0, vF 0, vF 0]) Try.zeroValue43 rfl) rfl rfl (ltb rfl) ?_
  rintro _ w6 ⟨rfl, r3, m6, z3⟩
  refine WL.op0 (op_store (i := 0) (cs := [.slice none 0 0, vI 0, .slice none 0 0, .slice none 0 0, vI 0, vF 0, .slice none 0 0, vI 0, vF 0, .slice none 0 0, vI 0, .slice none 0 0, vI 0, .slice none 0 0, vI 0, .slice none 0 0, vI 0, vI 0, vF 0, vF 0, vF 0, vF 0, vF 0, vI 0, vF 0, vF 0, vF 0, vF 0, vF 0, vI 0, vF 0, vF 0, vF 0, vF 0, vF 0, vI 0, vF 0, vF 0, vF 0, vF 0, vF 0, vF 0, vF 0, vF 0, vF 0, vF 1065353216, vF 0]) rfl rfl rfl Try.sizeOf43 rfl r3 rfl (lB rfl) rfl) rfl rfl ?_
  rintro _ w7 ⟨r4, m7, z4⟩
  have r5 : Row w7 w5.heap.size 0 [.slice none 0 0, vI 0, .slice none 0 0, .slice none 0 0, vI 0, vF 0, .slice none 0 0, vI 0, vF 0, .slice none 0 0, vI 0, .slice none 0 0, vI 0, .slice none 0 0, vI 0, .slice none 0 0, vI 0, vI 0, vF 0, vF 0, vF 0, vF 0, vF 0, vI 0, vF 0, vF 0, vF 0, vF 0, vF 0, vI 0, vF 0, vF 0, vF 0, vF 0, vF 0, vI 0, vF 0, vF 0, vF 0, vF 0, vF 0, vF 0, vF 0, vF 0, vF 0, vF 1065353216, vF 0] := Row.congr r4 rfl
  refine WL.end ?_
  refine NE.code ?_
  refine CE.seq ?_
  refine CE.region ?_
  refine WL.call (oc_call (vs := [vI 1]) (cap := []) rfl rfl rfl Try.call21 (c_NewRing 1 (by omega) (by omega) w7)) rfl rfl (ltb rfl) ?_
  rintro _ w8 ⟨b'1, rfl, r6, ge1, m8⟩
  refine WL.det (op_move rfl) rfl rfl rfl ?_
  iterate 2 refine WL.det (op_extract rfl rfl) rfl rfl rfl ?_
  refine WL.det (op_fieldAddr (off' := 0) rfl Try.runUnderlying43 rfl rfl Try.sizeOf31 rfl) rfl rfl rfl ?_
  refine WL.op0 (op_store (i := 0) (cs := [vS b'1 0 1 1, vI 0]) rfl rfl rfl Try.sizeOf31 rfl (r5.ext m8) rfl (lB rfl) rfl) rfl rfl ?_
  rintro _ w9 ⟨r7, m9, z5⟩
  have r8 : Row w9 w5.heap.size 0 [vS b'1 0 1 1, vI 0, .slice none 0 0, .slice none 0 0, vI 0, vF 0, .slice none 0 0, vI 0, vF 0, .slice none 0 0, vI 0, .slice none 0 0, vI 0, .slice none 0 0, vI 0, .slice none 0 0, vI 0, vI 0, vF 0, vF 0, vF 0, vF 0, vF 0, vI 0, vF 0, vF 0, vF 0, vF 0, vF 0, vI 0, vF 0, vF 0, vF 0, vF 0, vF 0, vI 0, vF 0, vF 0, vF 0, vF 0, vF 0, vF 0, vF 0, vF 0, vF 0, vF 1065353216, vF 0] := Row.congr r7 rfl
  refine WL.end ?_
  refine NE.code ?_
  refine CE.seq ?_
  refine CE.region ?_
  refine WL.call (oc_call (vs := [vI 3, vF 1056964608]) (cap := []) rfl rfl rfl Try.call22 (c_NewComb 3 1056964608 (by omega) (by omega) (by decide +kernel) (by decide +kernel) w9)) rfl rfl (ltb rfl) ?_
  rintro _ w10 ⟨b'2, rfl, r9, ge2, m10⟩
  refine WL.det (op_move rfl) rfl rfl rfl ?_
  iterate 2 refine WL.det (op_extract rfl rfl) rfl rfl rfl ?_
  refine WL.det (op_fieldAddr (off' := 3) rfl Try.runUnderlying43 rfl rfl Try.sizeOf35 rfl) rfl rfl rfl ?_
  refine WL.det (op_indexArr (off' := 3) rfl rfl Try.runUnderlying35 Try.sizeOf34 (by decide) (by decide) rfl) rfl rfl rfl ?_
  refine WL.op0 (op_store (i := 3) (cs := [vS b'2 0 3 3, vI 0, vF 1056964608]) rfl rfl rfl Try.sizeOf34 rfl (r8.ext m10) rfl (lB rfl) rfl) rfl rfl ?_
  rintro _ w11 ⟨r10, m11, z6⟩
  have r11 : Row w11 w5.heap.size 0 [vS b'1 0 1 1, vI 0, .slice none 0 0, vS b'2 0 3 3, vI 0, vF 1056964608, .slice none 0 0, vI 0, vF 0, .slice none 0 0, vI 0, .slice none 0 0, vI 0, .slice none 0 0, vI 0, .slice none 0 0, vI 0, vI 0, vF 0, vF 0, vF 0, vF 0, vF 0, vI 0, vF 0, vF 0, vF 0, vF 0, vF 0, vI 0, vF 0, vF 0, vF 0, vF 0, vF 0, vI 0, vF 0, vF 0, vF 0, vF 0, vF 0, vF 0, vF 0, vF 0, vF 0, vF 1065353216, vF 0] := Row.congr r10 rfl
  refine WL.end ?_
  refine NE.code ?_
  refine CE.seq ?_
  refine CE.region ?_
  refine WL.call (oc_call (vs := [vI 5, vF 1056964608]) (cap := []) rfl rfl rfl Try.call22 (c_NewComb 5 1056964608 (by omega) (by omega) (by decide +kernel) (by decide +kernel) w11)) rfl rfl (ltb rfl) ?_
  rintro _ w12 ⟨b'3, rfl, r12, ge3, m12⟩
  refine WL.det (op_move rfl) rfl rfl rfl ?_
  iterate 2 refine WL.det (op_extract rfl rfl) rfl rfl rfl ?_
  refine WL.det (op_fieldAddr (off' := 3) rfl Try.runUnderlying43 rfl rfl Try.sizeOf35 rfl) rfl rfl rfl ?_
  refine WL.det (op_indexArr (off' := 6) rfl rfl Try.runUnderlying35 Try.sizeOf34 (by decide) (by decide) rfl) rfl rfl rfl ?_
  refine WL.op0 (op_store (i := 6) (cs := [vS b'3 0 5 5, vI 0, vF 1056964608]) rfl rfl rfl Try.sizeOf34 rfl (r11.ext m12) rfl (lB rfl) rfl) rfl rfl ?_
  rintro _ w13 ⟨r13, m13, z7⟩
  have r14 : Row w13 w5.heap.size 0 [vS b'1 0 1 1, vI 0, .slice none 0 0, vS b'2 0 3 3, vI 0, vF 1056964608, vS b'3 0 5 5, vI 0, vF 1056964608, .slice none 0 0, vI 0, .slice none 0 0, vI 0, .slice none 0 0, vI 0, .slice none 0 0, vI 0, vI 0, vF 0, vF 0, vF 0, vF 0, vF 0, vI 0, vF 0, vF 0, vF 0, vF 0, vF 0, vI 0, vF 0, vF 0, vF 0, vF 0, vF 0, vI 0, vF 0, vF 0, vF 0, vF 0, vF 0, vF 0, vF 0, vF 0, vF 0, vF 1065353216, vF 0] := Row.congr r13 rfl
  refine WL.end ?_
  refine NE.code ?_
  iterate 2 refine CE.seq ?_
  refine CE.region ?_
  have sz1 := (lT (lT (lT m2.size m3.size) m4.size) m5.size)
  have r15 := ((((((((((((r1.ext m2).ext m3).ext m4).ext m5).ext m6).mod m7 (nC (lE (lL (lL r1.lt sz1) lR)) nN)).ext m8).mod m9 (nC (lE (lL (lL r1.lt sz1) lR)) nN)).ext m10).mod m11 (nC (lE (lL (lL r1.lt sz1) lR)) nN)).ext m12).mod m13 (nC (lE (lL (lL r1.lt sz1) lR)) nN))
  refine WL.det (op_loadA (i := 0) (cs := [vI ((n0 : Nat) : Int), vI 2, vI 3, vI ((n3 : Nat) : Int)]) rfl Try.isAgg47 Try.sizeOf47 r15.rng rfl rfl rfl) rfl rfl rfl ?_
  refine WL.det (op_move rfl) rfl rfl rfl ?_
  refine WL.end ?_
  refine NE.code ?_
  refine CE.block ?_
  refine CE.rounds 5 ?_
  refine RN.one ?_
  refine CE.seq ?_
  refine CE.region ?_
  refine WL.det (op_lti rfl rfl) rfl rfl rfl ?_
  refine WL.end ?_
  refine NE.code ?_
  refine CE.seq ?_
  refine CE.cond_t rfl rfl ?_
  refine CE.skip' ?_
  refine NE.code ?_
  refine CE.seq ?_
  refine CE.block ?_
  refine CE.seq ?_
  refine CE.region ?_
  refine WL.det (op_move rfl) rfl rfl rfl ?_
  refine WL.det (op_idxA1 rfl rfl Try.runUnderlying47 Try.sizeOf2 Try.isAgg2 (by decide) (by decide) rfl) rfl rfl rfl ?_
  iterate 2 refine WL.det (op_assign rfl) rfl rfl rfl ?_
  refine WL.end ?_
  refine NE.code ?_
  iterate 2 refine CE.seq ?_
  refine CE.region ?_
  refine WL.det (op_move rfl) rfl rfl rfl ?_
  refine WL.call (oc_call (vs := [vI ((n0 : Nat) : Int), vI 1, vI 1024]) (cap := []) rfl rfl rfl Try.call23 (c_within ((n0 : Nat) : Int) (1 : Int) (1024 : Int) w13)) rfl rfl (ltb rfl) ?_
  rintro _ _ ⟨rfl, rfl⟩
  refine WL.det (op_not rfl) rfl rfl rfl ?_
  refine WL.end ?_
  refine NE.code ?_
  refine CE.cond_f rfl (bnot_t ((vIn_t _ _ _).2 ⟨by omega, by omega⟩)) ?_
  refine CE.skip' ?_
  refine NE.code ?_
  refine CE.seq ?_
  refine CE.region ?_
  iterate 2 refine WL.det (op_move rfl) rfl rfl rfl ?_
  refine WL.call (oc_call (vs := [vI ((n0 : Nat) : Int)]) (cap := []) rfl rfl rfl Try.call21 (c_NewRing n0 (by omega) (by omega) w13)) rfl rfl (ltb rfl) ?_
  rintro _ w14 ⟨b'4, rfl, r16, ge4, m14⟩
  refine WL.det (op_move rfl) rfl rfl rfl ?_
  iterate 2 refine WL.det (op_extract rfl rfl) rfl rfl rfl ?_
  refine WL.det (op_fieldAddr (off' := 9) rfl Try.runUnderlying43 rfl rfl Try.sizeOf36 rfl) rfl rfl rfl ?_
  refine WL.det (op_indexArr (off' := 9) rfl rfl Try.runUnderlying36 Try.sizeOf31 (by decide) (by decide) rfl) rfl rfl rfl ?_
  refine WL.op0 (op_store (i := 9) (cs := [vS b'4 0 n0 n0, vI 0]) rfl rfl rfl Try.sizeOf31 rfl (r14.ext m14) rfl (lB rfl) rfl) rfl rfl ?_
  rintro _ w15 ⟨r17, m15, z8⟩
  have r18 : Row w15 w5.heap.size 0 [vS b'1 0 1 1, vI 0, .slice none 0 0, vS b'2 0 3 3, vI 0, vF 1056964608, vS b'3 0 5 5, vI 0, vF 1056964608, vS b'4 0 n0 n0, vI 0, .slice none 0 0, vI 0, .slice none 0 0, vI 0, .slice none 0 0, vI 0, vI 0, vF 0, vF 0, vF 0, vF 0, vF 0, vI 0, vF 0, vF 0, vF 0, vF 0, vF 0, vI 0, vF 0, vF 0, vF 0, vF 0, vF 0, vI 0, vF 0, vF 0, vF 0, vF 0, vF 0, vF 0, vF 0, vF 0, vF 0, vF 1065353216, vF 0] := Row.congr r17 rfl
  refine WL.end ?_
  refine NE.code ?_
  refine CE.seq ?_
  refine CE.region ?_
  iterate 2 refine WL.det (op_move rfl) rfl rfl rfl ?_
  refine WL.call (oc_call (vs := [vF 1056964608]) (cap := []) rfl rfl rfl Try.call24 (c_onePole w15)) rfl rfl (ltb rfl) ?_
  rintro _ w16 ⟨rfl, m16⟩
  refine WL.det (op_fieldAddr (off' := 17) rfl Try.runUnderlying43 rfl rfl Try.sizeOf41 rfl) rfl rfl rfl ?_
  refine WL.det (op_indexArr (off' := 17) rfl rfl Try.runUnderlying41 Try.sizeOf40 (by decide) (by decide) rfl) rfl rfl rfl ?_
  refine WL.op0 (op_store (i := 17) (cs := [vI 1, vF 1056964608, vF 1056964608, vF 0, vF 0, vF 0]) rfl rfl rfl Try.sizeOf40 rfl (r18.ext m16) rfl (lB rfl) rfl) rfl rfl ?_
  rintro _ w17 ⟨r19, m17, z9⟩
  have r20 : Row w17 w5.heap.size 0 [vS b'1 0 1 1, vI 0, .slice none 0 0, vS b'2 0 3 3, vI 0, vF 1056964608, vS b'3 0 5 5, vI 0, vF 1056964608, vS b'4 0 n0 n0, vI 0, .slice none 0 0, vI 0, .slice none 0 0, vI 0, .slice none 0 0, vI 0, vI 1, vF 1056964608, vF 1056964608, vF 0, vF 0, vF 0, vI 0, vF 0, vF 0, vF 0, vF 0, vF 0, vI 0, vF 0, vF 0, vF 0, vF 0, vF 0, vI 0, vF 0, vF 0, vF 0, vF 0, vF 0, vF 0, vF 0, vF 0, vF 0, vF 1065353216, vF 0] := Row.congr r19 rfl
  refine WL.end ?_
  refine NE.code ?_
  refine CE.region ?_
  iterate 3 refine WL.det (op_move rfl) rfl rfl rfl ?_
  refine WL.call (oc_call (vs := [vI ((n0 : Nat) : Int), vF 1120403456]) (cap := []) rfl rfl rfl Try.call14 (c_gain100 n0 (by omega) (by omega) w17)) rfl rfl (ltb rfl) ?_
  rintro _ w18 ⟨g1, rfl, h1, m18⟩
  refine WL.det (op_move rfl) rfl rfl rfl ?_
  iterate 2 refine WL.det (op_extract rfl rfl) rfl rfl rfl ?_
  refine WL.det (op_fieldAddr (off' := 41) rfl Try.runUnderlying43 rfl rfl Try.sizeOf25 rfl) rfl rfl rfl ?_
  refine WL.det (op_indexArr (off' := 41) rfl rfl Try.runUnderlying25 Try.sizeOf24 (by decide) (by decide) rfl) rfl rfl rfl ?_
  refine WL.op0 (op_store (i := 41) (cs := [vF g1]) rfl rfl rfl Try.sizeOf24 rfl (r20.ext m18) rfl (lB rfl) rfl) rfl rfl ?_
  rintro _ w19 ⟨r21, m19, z10⟩
  have r22 : Row w19 w5.heap.size 0 [vS b'1 0 1 1, vI 0, .slice none 0 0, vS b'2 0 3 3, vI 0, vF 1056964608, vS b'3 0 5 5, vI 0, vF 1056964608, vS b'4 0 n0 n0, vI 0, .slice none 0 0, vI 0, .slice none 0 0, vI 0, .slice none 0 0, vI 0, vI 1, vF 1056964608, vF 1056964608, vF 0, vF 0, vF 0, vI 0, vF 0, vF 0, vF 0, vF 0, vF 0, vI 0, vF 0, vF 0, vF 0, vF 0, vF 0, vI 0, vF 0, vF 0, vF 0, vF 0, vF 0, vF g1, vF 0, vF 0, vF 0, vF 1065353216, vF 0] := Row.congr r21 rfl
  refine WL.end ?_
  refine NE.blk ?_
  refine NE.code ?_
  refine CE.region ?_
  refine WL.det (op_add (r := 1) rfl rfl (by decide)) rfl rfl rfl ?_
  refine WL.det (op_move rfl) rfl rfl rfl ?_
  refine WL.end ?_
  refine NE.round ?_
  refine RN.one ?_
  refine CE.seq ?_
  refine CE.region ?_
  refine WL.det (op_lti rfl rfl) rfl rfl rfl ?_
  refine WL.end ?_
  refine NE.code ?_
  refine CE.seq ?_
  refine CE.cond_t rfl rfl ?_
  refine CE.skip' ?_
  refine NE.code ?_
  refine CE.seq ?_
  refine CE.block ?_
  refine CE.seq ?_
  refine CE.region ?_
  refine WL.det (op_move rfl) rfl rfl rfl ?_
  refine WL.det (op_idxA1 rfl rfl Try.runUnderlying47 Try.sizeOf2 Try.isAgg2 (by decide) (by decide) rfl) rfl rfl rfl ?_
  iterate 2 refine WL.det (op_assign rfl) rfl rfl rfl ?_
  refine WL.end ?_
  refine NE.code ?_
  iterate 2 refine CE.seq ?_
  refine CE.region ?_
  refine WL.det (op_move rfl) rfl rfl rfl ?_
  refine WL.call (oc_call (vs := [vI 2, vI 1, vI 1024]) (cap := []) rfl rfl rfl Try.call23 (c_within (2 : Int) (1 : Int) (1024 : Int) w19)) rfl rfl (ltb rfl) ?_
  rintro _ _ ⟨rfl, rfl⟩
  refine WL.det (op_not rfl) rfl rfl rfl ?_
  refine WL.end ?_
  refine NE.code ?_
  refine CE.cond_f rfl (bnot_t ((vIn_t _ _ _).2 ⟨by omega, by omega⟩)) ?_
  refine CE.skip' ?_
  refine NE.code ?_
  refine CE.seq ?_
  refine CE.region ?_
  iterate 2 refine WL.det (op_move rfl) rfl rfl rfl ?_
  refine WL.call (oc_call (vs := [vI 2]) (cap := []) rfl rfl rfl Try.call21 (c_NewRing 2 (by omega) (by omega) w19)) rfl rfl (ltb rfl) ?_
  rintro _ w20 ⟨b'5, rfl, r23, ge5, m20⟩
  refine WL.det (op_move rfl) rfl rfl rfl ?_
  iterate 2 refine WL.det (op_extract rfl rfl) rfl rfl rfl ?_
  refine WL.det (op_fieldAddr (off' := 9) rfl Try.runUnderlying43 rfl rfl Try.sizeOf36 rfl) rfl rfl rfl ?_
  refine WL.det (op_indexArr (off' := 11) rfl rfl Try.runUnderlying36 Try.sizeOf31 (by decide) (by decide) rfl) rfl rfl rfl ?_
  refine WL.op0 (op_store (i := 11) (cs := [vS b'5 0 2 2, vI 0]) rfl rfl rfl Try.sizeOf31 rfl (r22.ext m20) rfl (lB rfl) rfl) rfl rfl ?_
  rintro _ w21 ⟨r24, m21, z11⟩
  have r25 : Row w21 w5.heap.size 0 [vS b'1 0 1 1, vI 0, .slice none 0 0, vS b'2 0 3 3, vI 0, vF 1056964608, vS b'3 0 5 5, vI 0, vF 1056964608, vS b'4 0 n0 n0, vI 0, vS b'5 0 2 2, vI 0, .slice none 0 0, vI 0, .slice none 0 0, vI 0, vI 1, vF 1056964608, vF 1056964608, vF 0, vF 0, vF 0, vI 0, vF 0, vF 0, vF 0, vF 0, vF 0, vI 0, vF 0, vF 0, vF 0, vF 0, vF 0, vI 0, vF 0, vF 0, vF 0, vF 0, vF 0, vF g1, vF 0, vF 0, vF 0, vF 1065353216, vF 0] := Row.congr r24 rfl
  refine WL.end ?_
  refine NE.code ?_
  refine CE.seq ?_
  refine CE.region ?_
  iterate 2 refine WL.det (op_move rfl) rfl rfl rfl ?_
  refine WL.call (oc_call (vs := [vF 1056964608]) (cap := []) rfl rfl rfl Try.call24 (c_onePole w21)) rfl rfl (ltb rfl) ?_
  rintro _ w22 ⟨rfl, m22⟩
  refine WL.det (op_fieldAddr (off' := 17) rfl Try.runUnderlying43 rfl rfl Try.sizeOf41 rfl) rfl rfl rfl ?_
  refine WL.det (op_indexArr (off' := 23) rfl rfl Try.runUnderlying41 Try.sizeOf40 (by decide) (by decide) rfl) rfl rfl rfl ?_
  refine WL.op0 (op_store (i := 23) (cs := [vI 1, vF 1056964608, vF 1056964608, vF 0, vF 0, vF 0]) rfl rfl rfl Try.sizeOf40 rfl (r25.ext m22) rfl (lB rfl) rfl) rfl rfl ?_
  rintro _ w23 ⟨r26, m23, z12⟩
  have r27 : Row w23 w5.heap.size 0 [vS b'1 0 1 1, vI 0, .slice none 0 0, vS b'2 0 3 3, vI 0, vF 1056964608, vS b'3 0 5 5, vI 0, vF 1056964608, vS b'4 0 n0 n0, vI 0, vS b'5 0 2 2, vI 0, .slice none 0 0, vI 0, .slice none 0 0, vI 0, vI 1, vF 1056964608, vF 1056964608, vF 0, vF 0, vF 0, vI 1, vF 1056964608, vF 1056964608, vF 0, vF 0, vF 0, vI 0, vF 0, vF 0, vF 0, vF 0, vF 0, vI 0, vF 0, vF 0, vF 0, vF 0, vF 0, vF g1, vF 0, vF 0, vF 0, vF 1065353216, vF 0] := Row.congr r26 rfl
  refine WL.end ?_
  refine NE.code ?_
  refine CE.region ?_
  iterate 3 refine WL.det (op_move rfl) rfl rfl rfl ?_
  refine WL.call (oc_call (vs := [vI 2, vF 1120403456]) (cap := []) rfl rfl rfl Try.call14 (c_gain100 2 (by omega) (by omega) w23)) rfl rfl (ltb rfl) ?_
  rintro _ w24 ⟨g2, rfl, h2, m24⟩
  refine WL.det (op_move rfl) rfl rfl rfl ?_
  iterate 2 refine WL.det (op_extract rfl rfl) rfl rfl rfl ?_
  refine WL.det (op_fieldAddr (off' := 41) rfl Try.runUnderlying43 rfl rfl Try.sizeOf25 rfl) rfl rfl rfl ?_
  refine WL.det (op_indexArr (off' := 42) rfl rfl Try.runUnderlying25 Try.sizeOf24 (by decide) (by decide) rfl) rfl rfl rfl ?_
  refine WL.op0 (op_store (i := 42) (cs := [vF g2]) rfl rfl rfl Try.sizeOf24 rfl (r27.ext m24) rfl (lB rfl) rfl) rfl rfl ?_
  rintro _ w25 ⟨r28, m25, z13⟩
  have r29 : Row w25 w5.heap.size 0 [vS b'1 0 1 1, vI 0, .slice none 0 0, vS b'2 0 3 3, vI 0, vF 1056964608, vS b'3 0 5 5, vI 0, vF 1056964608, vS b'4 0 n0 n0, vI 0, vS b'5 0 2 2, vI 0, .slice none 0 0, vI 0, .slice none 0 0, vI 0, vI 1, vF 1056964608, vF 1056964608, vF 0, vF 0, vF 0, vI 1, vF 1056964608, vF 1056964608, vF 0, vF 0, vF 0, vI 0, vF 0, vF 0, vF 0, vF 0, vF 0, vI 0, vF 0, vF 0, vF 0, vF 0, vF 0, vF g1, vF g2, vF 0, vF 0, vF 1065353216, vF 0] := Row.congr r28 rfl
  refine WL.end ?_
  refine NE.blk ?_
  refine NE.code ?_
  refine CE.region ?_
  refine WL.det (op_add (r := 2) rfl rfl (by decide)) rfl rfl rfl ?_
  refine WL.det (op_move rfl) rfl rfl rfl ?_
  refine WL.end ?_
  refine NE.round ?_
  refine RN.one ?_
  refine CE.seq ?_
  refine CE.region ?_
  refine WL.det (op_lti rfl rfl) rfl rfl rfl ?_
  refine WL.end ?_
  refine NE.code ?_
  refine CE.seq ?_
  refine CE.cond_t rfl rfl ?_
  refine CE.skip' ?_
  refine NE.code ?_
  refine CE.seq ?_
  refine CE.block ?_
  refine CE.seq ?_
  refine CE.region ?_
  refine WL.det (op_move rfl) rfl rfl rfl ?_
  refine WL.det (op_idxA1 rfl rfl Try.runUnderlying47 Try.sizeOf2 Try.isAgg2 (by decide) (by decide) rfl) rfl rfl rfl ?_
  iterate 2 refine WL.det (op_assign rfl) rfl rfl rfl ?_
  refine WL.end ?_
  refine NE.code ?_
  iterate 2 refine CE.seq ?_
  refine CE.region ?_
  refine WL.det (op_move rfl) rfl rfl rfl ?_
  refine WL.call (oc_call (vs := [vI 3, vI 1, vI 1024]) (cap := []) rfl rfl rfl Try.call23 (c_within (3 : Int) (1 : Int) (1024 : Int) w25)) rfl rfl (ltb rfl) ?_
  rintro _ _ ⟨rfl, rfl⟩
  refine WL.det (op_not rfl) rfl rfl rfl ?_
  refine WL.end ?_
  refine NE.code ?_
  refine CE.cond_f rfl (bnot_t ((vIn_t _ _ _).2 ⟨by omega, by omega⟩)) ?_
  refine CE.skip' ?_
  refine NE.code ?_
  refine CE.seq ?_
  refine CE.region ?_
  iterate 2 refine WL.det (op_move rfl) rfl rfl rfl ?_
  refine WL.call (oc_call (vs := [vI 3]) (cap := []) rfl rfl rfl Try.call21 (c_NewRing 3 (by omega) (by omega) w25)) rfl rfl (ltb rfl) ?_
  rintro _ w26 ⟨b'6, rfl, r30, ge6, m26⟩
  refine WL.det (op_move rfl) rfl rfl rfl ?_
  iterate 2 refine WL.det (op_extract rfl rfl) rfl rfl rfl ?_
  refine WL.det (op_fieldAddr (off' := 9) rfl Try.runUnderlying43 rfl rfl Try.sizeOf36 rfl) rfl rfl rfl ?_
  refine WL.det (op_indexArr (off' := 13) rfl rfl Try.runUnderlying36 Try.sizeOf31 (by decide) (by decide) rfl) rfl rfl rfl ?_
  refine WL.op0 (op_store (i := 13) (cs := [vS b'6 0 3 3, vI 0]) rfl rfl rfl Try.sizeOf31 rfl (r29.ext m26) rfl (lB rfl) rfl) rfl rfl ?_
  rintro _ w27 ⟨r31, m27, z14⟩
  have r32 : Row w27 w5.heap.size 0 [vS b'1 0 1 1, vI 0, .slice none 0 0, vS b'2 0 3 3, vI 0, vF 1056964608, vS b'3 0 5 5, vI 0, vF 1056964608, vS b'4 0 n0 n0, vI 0, vS b'5 0 2 2, vI 0, vS b'6 0 3 3, vI 0, .slice none 0 0, vI 0, vI 1, vF 1056964608, vF 1056964608, vF 0, vF 0, vF 0, vI 1, vF 1056964608, vF 1056964608, vF 0, vF 0, vF 0, vI 0, vF 0, vF 0, vF 0, vF 0, vF 0, vI 0, vF 0, vF 0, vF 0, vF 0, vF 0, vF g1, vF g2, vF 0, vF 0, vF 1065353216, vF 0] := Row.congr r31 rfl
  refine WL.end ?_
  refine NE.code ?_
  refine CE.seq ?_
  refine CE.region ?_
  iterate 2 refine WL.det (op_move rfl) rfl rfl rfl ?_
  refine WL.call (oc_call (vs := [vF 1056964608]) (cap := []) rfl rfl rfl Try.call24 (c_onePole w27)) rfl rfl (ltb rfl) ?_
  rintro _ w28 ⟨rfl, m28⟩
  refine WL.det (op_fieldAddr (off' := 17) rfl Try.runUnderlying43 rfl rfl Try.sizeOf41 rfl) rfl rfl rfl ?_
  refine WL.det (op_indexArr (off' := 29) rfl rfl Try.runUnderlying41 Try.sizeOf40 (by decide) (by decide) rfl) rfl rfl rfl ?_
  refine WL.op0 (op_store (i := 29) (cs := [vI 1, vF 1056964608, vF 1056964608, vF 0, vF 0, vF 0]) rfl rfl rfl Try.sizeOf40 rfl (r32.ext m28) rfl (lB rfl) rfl) rfl rfl ?_
  rintro _ w29 ⟨r33, m29, z15⟩
  have r34 : Row w29 w5.heap.size 0 [vS b'1 0 1 1, vI 0, .slice none 0 0, vS b'2 0 3 3, vI 0, vF 1056964608, vS b'3 0 5 5, vI 0, vF 1056964608, vS b'4 0 n0 n0, vI 0, vS b'5 0 2 2, vI 0, vS b'6 0 3 3, vI 0, .slice none 0 0, vI 0, vI 1, vF 1056964608, vF 1056964608, vF 0, vF 0, vF 0, vI 1, vF 1056964608, vF 1056964608, vF 0, vF 0, vF 0, vI 1, vF 1056964608, vF 1056964608, vF 0, vF 0, vF 0, vI 0, vF 0, vF 0, vF 0, vF 0, vF 0, vF g1, vF g2, vF 0, vF 0, vF 1065353216, vF 0] := Row.congr r33 rfl
  refine WL.end ?_
  refine NE.code ?_
  refine CE.region ?_
  iterate 3 refine WL.det (op_move rfl) rfl rfl rfl ?_
  refine WL.call (oc_call (vs := [vI 3, vF 1120403456]) (cap := []) rfl rfl rfl Try.call14 (c_gain100 3 (by omega) (by omega) w29)) rfl rfl (ltb rfl) ?_
  rintro _ w30 ⟨g3, rfl, h3, m30⟩
  refine WL.det (op_move rfl) rfl rfl rfl ?_
  iterate 2 refine WL.det (op_extract rfl rfl) rfl rfl rfl ?_
  refine WL.det (op_fieldAddr (off' := 41) rfl Try.runUnderlying43 rfl rfl Try.sizeOf25 rfl) rfl rfl rfl ?_
  refine WL.det (op_indexArr (off' := 43) rfl rfl Try.runUnderlying25 Try.sizeOf24 (by decide) (by decide) rfl) rfl rfl rfl ?_
  refine WL.op0 (op_store (i := 43) (cs := [vF g3]) rfl rfl rfl Try.sizeOf24 rfl (r34.ext m30) rfl (lB rfl) rfl) rfl rfl ?_
  rintro _ w31 ⟨r35, m31, z16⟩
  have r36 : Row w31 w5.heap.size 0 [vS b'1 0 1 1, vI 0, .slice none 0 0, vS b'2 0 3 3, vI 0, vF 1056964608, vS b'3 0 5 5, vI 0, vF 1056964608, vS b'4 0 n0 n0, vI 0, vS b'5 0 2 2, vI 0, vS b'6 0 3 3, vI 0, .slice none 0 0, vI 0, vI 1, vF 1056964608, vF 1056964608, vF 0, vF 0, vF 0, vI 1, vF 1056964608, vF 1056964608, vF 0, vF 0, vF 0, vI 1, vF 1056964608, vF 1056964608, vF 0, vF 0, vF 0, vI 0, vF 0, vF 0, vF 0, vF 0, vF 0, vF g1, vF g2, vF g3, vF 0, vF 1065353216, vF 0] := Row.congr r35 rfl
  refine WL.end ?_
  refine NE.blk ?_
  refine NE.code ?_
  refine CE.region ?_
  refine WL.det (op_add (r := 3) rfl rfl (by decide)) rfl rfl rfl ?_
  refine WL.det (op_move rfl) rfl rfl rfl ?_
  refine WL.end ?_
  refine NE.round ?_
  refine RN.one ?_
  refine CE.seq ?_
  refine CE.region ?_
  refine WL.det (op_lti rfl rfl) rfl rfl rfl ?_
  refine WL.end ?_
  refine NE.code ?_
  refine CE.seq ?_
  refine CE.cond_t rfl rfl ?_
  refine CE.skip' ?_
  refine NE.code ?_
  refine CE.seq ?_
  refine CE.block ?_
  refine CE.seq ?_
  refine CE.region ?_
  refine WL.det (op_move rfl) rfl rfl rfl ?_
  refine WL.det (op_idxA1 rfl rfl Try.runUnderlying47 Try.sizeOf2 Try.isAgg2 (by decide) (by decide) rfl) rfl rfl rfl ?_
  iterate 2 refine WL.det (op_assign rfl) rfl rfl rfl ?_
  refine WL.end ?_
  refine NE.code ?_
  iterate 2 refine CE.seq ?_
  refine CE.region ?_
  refine WL.det (op_move rfl) rfl rfl rfl ?_
  refine WL.call (oc_call (vs := [vI ((n3 : Nat) : Int), vI 1, vI 1024]) (cap := []) rfl rfl rfl Try.call23 (c_within ((n3 : Nat) : Int) (1 : Int) (1024 : Int) w31)) rfl rfl (ltb rfl) ?_
  rintro _ _ ⟨rfl, rfl⟩
  refine WL.det (op_not rfl) rfl rfl rfl ?_
  refine WL.end ?_
  refine NE.code ?_
  refine CE.cond_f rfl (bnot_t ((vIn_t _ _ _).2 ⟨by omega, by omega⟩)) ?_
  refine CE.skip' ?_
  refine NE.code ?_
  refine CE.seq ?_
  refine CE.region ?_
  iterate 2 refine WL.det (op_move rfl) rfl rfl rfl ?_
  refine WL.call (oc_call (vs := [vI ((n3 : Nat) : Int)]) (cap := []) rfl rfl rfl Try.call21 (c_NewRing n3 (by omega) (by omega) w31)) rfl rfl (ltb rfl) ?_
  rintro _ w32 ⟨b'7, rfl, r37, ge7, m32⟩
  refine WL.det (op_move rfl) rfl rfl rfl ?_
  iterate 2 refine WL.det (op_extract rfl rfl) rfl rfl rfl ?_
  refine WL.det (op_fieldAddr (off' := 9) rfl Try.runUnderlying43 rfl rfl Try.sizeOf36 rfl) rfl rfl rfl ?_
  refine WL.det (op_indexArr (off' := 15) rfl rfl Try.runUnderlying36 Try.sizeOf31 (by decide) (by decide) rfl) rfl rfl rfl ?_
  refine WL.op0 (op_store (i := 15) (cs := [vS b'7 0 n3 n3, vI 0]) rfl rfl rfl Try.sizeOf31 rfl (r36.ext m32) rfl (lB rfl) rfl) rfl rfl ?_
  rintro _ w33 ⟨r38, m33, z17⟩
  have r39 : Row w33 w5.heap.size 0 [vS b'1 0 1 1, vI 0, .slice none 0 0, vS b'2 0 3 3, vI 0, vF 1056964608, vS b'3 0 5 5, vI 0, vF 1056964608, vS b'4 0 n0 n0, vI 0, vS b'5 0 2 2, vI 0, vS b'6 0 3 3, vI 0, vS b'7 0 n3 n3, vI 0, vI 1, vF 1056964608, vF 1056964608, vF 0, vF 0, vF 0, vI 1, vF 1056964608, vF 1056964608, vF 0, vF 0, vF 0, vI 1, vF 1056964608, vF 1056964608, vF 0, vF 0, vF 0, vI 0, vF 0, vF 0, vF 0, vF 0, vF 0, vF g1, vF g2, vF g3, vF 0, vF 1065353216, vF 0] := Row.congr r38 rfl
  refine WL.end ?_
  refine NE.code ?_
  refine CE.seq ?_
  refine CE.region ?_
  iterate 2 refine WL.det (op_move rfl) rfl rfl rfl ?_
  refine WL.call (oc_call (vs := [vF 1056964608]) (cap := []) rfl rfl rfl Try.call24 (c_onePole w33)) rfl rfl (ltb rfl) ?_
  rintro _ w34 ⟨rfl, m34⟩
  refine WL.det (op_fieldAddr (off' := 17) rfl Try.runUnderlying43 rfl rfl Try.sizeOf41 rfl) rfl rfl rfl ?_
  refine WL.det (op_indexArr (off' := 35) rfl rfl Try.runUnderlying41 Try.sizeOf40 (by decide) (by decide) rfl) rfl rfl rfl ?_
  refine WL.op0 (op_store (i := 35) (cs := [vI 1, vF 1056964608, vF 1056964608, vF 0, vF 0, vF 0]) rfl rfl rfl Try.sizeOf40 rfl (r39.ext m34) rfl (lB rfl) rfl) rfl rfl ?_
  rintro _ w35 ⟨r40, m35, z18⟩
  have r41 : Row w35 w5.heap.size 0 [vS b'1 0 1 1, vI 0, .slice none 0 0, vS b'2 0 3 3, vI 0, vF 1056964608, vS b'3 0 5 5, vI 0, vF 1056964608, vS b'4 0 n0 n0, vI 0, vS b'5 0 2 2, vI 0, vS b'6 0 3 3, vI 0, vS b'7 0 n3 n3, vI 0, vI 1, vF 1056964608, vF 1056964608, vF 0, vF 0, vF 0, vI 1, vF 1056964608, vF 1056964608, vF 0, vF 0, vF 0, vI 1, vF 1056964608, vF 1056964608, vF 0, vF 0, vF 0, vI 1, vF 1056964608, vF 1056964608, vF 0, vF 0, vF 0, vF g1, vF g2, vF g3, vF 0, vF 1065353216, vF 0] := Row.congr r40 rfl
  refine WL.end ?_
  refine NE.code ?_
  refine CE.region ?_
  iterate 3 refine WL.det (op_move rfl) rfl rfl rfl ?_
  refine WL.call (oc_call (vs := [vI ((n3 : Nat) : Int), vF 1120403456]) (cap := []) rfl rfl rfl Try.call14 (c_gain100 n3 (by omega) (by omega) w35)) rfl rfl (ltb rfl) ?_
  rintro _ w36 ⟨g4, rfl, h4, m36⟩
  refine WL.det (op_move rfl) rfl rfl rfl ?_
  iterate 2 refine WL.det (op_extract rfl rfl) rfl rfl rfl ?_
  refine WL.det (op_fieldAddr (off' := 41) rfl Try.runUnderlying43 rfl rfl Try.sizeOf25 rfl) rfl rfl rfl ?_
  refine WL.det (op_indexArr (off' := 44) rfl rfl Try.runUnderlying25 Try.sizeOf24 (by decide) (by decide) rfl) rfl rfl rfl ?_
  refine WL.op0 (op_store (i := 44) (cs := [vF g4]) rfl rfl rfl Try.sizeOf24 rfl (r41.ext m36) rfl (lB rfl) rfl) rfl rfl ?_
  rintro _ w37 ⟨r42, m37, z19⟩
  have r43 : Row w37 w5.heap.size 0 [vS b'1 0 1 1, vI 0, .slice none 0 0, vS b'2 0 3 3, vI 0, vF 1056964608, vS b'3 0 5 5, vI 0, vF 1056964608, vS b'4 0 n0 n0, vI 0, vS b'5 0 2 2, vI 0, vS b'6 0 3 3, vI 0, vS b'7 0 n3 n3, vI 0, vI 1, vF 1056964608, vF 1056964608, vF 0, vF 0, vF 0, vI 1, vF 1056964608, vF 1056964608, vF 0, vF 0, vF 0, vI 1, vF 1056964608, vF 1056964608, vF 0, vF 0, vF 0, vI 1, vF 1056964608, vF 1056964608, vF 0, vF 0, vF 0, vF g1, vF g2, vF g3, vF g4, vF 1065353216, vF 0] := Row.congr r42 rfl
  refine WL.end ?_
  refine NE.blk ?_
  refine NE.code ?_
  refine CE.region ?_
  refine WL.det (op_add (r := 4) rfl rfl (by decide)) rfl rfl rfl ?_
  refine WL.det (op_move rfl) rfl rfl rfl ?_
  refine WL.end ?_
  refine NE.round ?_
  refine RN.one ?_
  refine CE.seq ?_
  refine CE.region ?_
  refine WL.det (op_lti rfl rfl) rfl rfl rfl ?_
  refine WL.end ?_
  refine NE.code ?_
  refine CE.seq ?_
  refine CE.cond_f rfl rfl ?_
  refine CE.exit' ?_
  iterate 2 refine XE.exit_then ?_
  refine XE.exit_here ?_
  refine NE.code ?_
  refine CE.seq ?_
  refine CE.region ?_
  refine WL.det (op_loadA (i := 0) (cs := [vS b'1 0 1 1, vI 0, .slice none 0 0, vS b'2 0 3 3, vI 0, vF 1056964608, vS b'3 0 5 5, vI 0, vF 1056964608, vS b'4 0 n0 n0, vI 0, vS b'5 0 2 2, vI 0, vS b'6 0 3 3, vI 0, vS b'7 0 n3 n3, vI 0, vI 1, vF 1056964608, vF 1056964608, vF 0, vF 0, vF 0, vI 1, vF 1056964608, vF 1056964608, vF 0, vF 0, vF 0, vI 1, vF 1056964608, vF 1056964608, vF 0, vF 0, vF 0, vI 1, vF 1056964608, vF 1056964608, vF 0, vF 0, vF 0, vF g1, vF g2, vF g3, vF g4, vF 1065353216, vF 0]) rfl Try.isAgg43 Try.sizeOf43 r43.rng rfl rfl rfl) rfl rfl rfl ?_
  have sz2 := (lT (lT m3.size m4.size) m5.size)
  have r44 := (((((((((((((((((((((((((((((((((((r2.ext m3).ext m4).ext m5).ext m6).mod m7 (nC (lE (lL (lL r2.lt sz2) lR)) nN)).ext m8).mod m9 (nC (lE (lL (lL r2.lt sz2) lR)) nN)).ext m10).mod m11 (nC (lE (lL (lL r2.lt sz2) lR)) nN)).ext m12).mod m13 (nC (lE (lL (lL r2.lt sz2) lR)) nN)).ext m14).mod m15 (nC (lE (lL (lL r2.lt sz2) lR)) nN)).ext m16).mod m17 (nC (lE (lL (lL r2.lt sz2) lR)) nN)).ext m18).mod m19 (nC (lE (lL (lL r2.lt sz2) lR)) nN)).ext m20).mod m21 (nC (lE (lL (lL r2.lt sz2) lR)) nN)).ext m22).mod m23 (nC (lE (lL (lL r2.lt sz2) lR)) nN)).ext m24).mod m25 (nC (lE (lL (lL r2.lt sz2) lR)) nN)).ext m26).mod m27 (nC (lE (lL (lL r2.lt sz2) lR)) nN)).ext m28).mod m29 (nC (lE (lL (lL r2.lt sz2) lR)) nN)).ext m30).mod m31 (nC (lE (lL (lL r2.lt sz2) lR)) nN)).ext m32).mod m33 (nC (lE (lL (lL r2.lt sz2) lR)) nN)).ext m34).mod m35 (nC (lE (lL (lL r2.lt sz2) lR)) nN)).ext m36).mod m37 (nC (lE (lL (lL r2.lt sz2) lR)) nN))
  refine WL.op0 (op_store (i := 0) (cs := [vS b'1 0 1 1, vI 0, .slice none 0 0, vS b'2 0 3 3, vI 0, vF 1056964608, vS b'3 0 5 5, vI 0, vF 1056964608, vS b'4 0 n0 n0, vI 0, vS b'5 0 2 2, vI 0, vS b'6 0 3 3, vI 0, vS b'7 0 n3 n3, vI 0, vI 1, vF 1056964608, vF 1056964608, vF 0, vF 0, vF 0, vI 1, vF 1056964608, vF 1056964608, vF 0, vF 0, vF 0, vI 1, vF 1056964608, vF 1056964608, vF 0, vF 0, vF 0, vI 1, vF 1056964608, vF 1056964608, vF 0, vF 0, vF 0, vF g1, vF g2, vF g3, vF g4, vF 1065353216, vF 0]) rfl rfl rfl Try.sizeOf43 rfl r44 rfl (lB rfl) rfl) rfl rfl ?_
  rintro _ w38 ⟨r45, m38, z20⟩
  have r46 : Row w38 w1.heap.size 0 [vS b'1 0 1 1, vI 0, .slice none 0 0, vS b'2 0 3 3, vI 0, vF 1056964608, vS b'3 0 5 5, vI 0, vF 1056964608, vS b'4 0 n0 n0, vI 0, vS b'5 0 2 2, vI 0, vS b'6 0 3 3, vI 0, vS b'7 0 n3 n3, vI 0, vI 1, vF 1056964608, vF 1056964608, vF 0, vF 0, vF 0, vI 1, vF 1056964608, vF 1056964608, vF 0, vF 0, vF 0, vI 1, vF 1056964608, vF 1056964608, vF 0, vF 0, vF 0, vI 1, vF 1056964608, vF 1056964608, vF 0, vF 0, vF 0, vF g1, vF g2, vF g3, vF g4, vF 1065353216, vF 0] := Row.congr r45 rfl
  refine WL.det (op_assign rfl) rfl rfl rfl ?_
  refine WL.end ?_
  refine NE.code ?_
  refine CE.ret' ?_
  refine XE.leaveT Try.results10 (res_agg (cs := [vS b'1 0 1 1, vI 0, .slice none 0 0, vS b'2 0 3 3, vI 0, vF 1056964608, vS b'3 0 5 5, vI 0, vF 1056964608, vS b'4 0 n0 n0, vI 0, vS b'5 0 2 2, vI 0, vS b'6 0 3 3, vI 0, vS b'7 0 n3 n3, vI 0, vI 1, vF 1056964608, vF 1056964608, vF 0, vF 0, vF 0, vI 1, vF 1056964608, vF 1056964608, vF 0, vF 0, vF 0, vI 1, vF 1056964608, vF 1056964608, vF 0, vF 0, vF 0, vI 1, vF 1056964608, vF 1056964608, vF 0, vF 0, vF 0, vF g1, vF g2, vF g3, vF g4, vF 1065353216, vF 0]) rfl Try.isAgg43 Try.sizeOf43 r46.rng rfl (res_tmp rfl res_nil)) ?_
  have sz3 := (lT (lT sz2 m6.size) m7.size)
  have r47 := ((((((((((((((((((((((((((((((r6.mod m9 (nC (lG (lL (lL r3.lt m7.size) ge1)) nN)).ext m10).mod m11 (nC (lG (lL (lL r3.lt m7.size) ge1)) nN)).ext m12).mod m13 (nC (lG (lL (lL r3.lt m7.size) ge1)) nN)).ext m14).mod m15 (nC (lG (lL (lL r3.lt m7.size) ge1)) nN)).ext m16).mod m17 (nC (lG (lL (lL r3.lt m7.size) ge1)) nN)).ext m18).mod m19 (nC (lG (lL (lL r3.lt m7.size) ge1)) nN)).ext m20).mod m21 (nC (lG (lL (lL r3.lt m7.size) ge1)) nN)).ext m22).mod m23 (nC (lG (lL (lL r3.lt m7.size) ge1)) nN)).ext m24).mod m25 (nC (lG (lL (lL r3.lt m7.size) ge1)) nN)).ext m26).mod m27 (nC (lG (lL (lL r3.lt m7.size) ge1)) nN)).ext m28).mod m29 (nC (lG (lL (lL r3.lt m7.size) ge1)) nN)).ext m30).mod m31 (nC (lG (lL (lL r3.lt m7.size) ge1)) nN)).ext m32).mod m33 (nC (lG (lL (lL r3.lt m7.size) ge1)) nN)).ext m34).mod m35 (nC (lG (lL (lL r3.lt m7.size) ge1)) nN)).ext m36).mod m37 (nC (lG (lL (lL r3.lt m7.size) ge1)) nN)).mod m38 (nC (lG (lL (lL r2.lt sz3) ge1)) nN))
  have sz4 := (lT (lT m7.size m8.size) m9.size)
  have sz5 := (lT (lT sz3 m8.size) m9.size)
  have r48 := ((((((((((((((((((((((((((((r9.mod m11 (nC (lG (lL (lL r3.lt sz4) ge2)) nN)).ext m12).mod m13 (nC (lG (lL (lL r3.lt sz4) ge2)) nN)).ext m14).mod m15 (nC (lG (lL (lL r3.lt sz4) ge2)) nN)).ext m16).mod m17 (nC (lG (lL (lL r3.lt sz4) ge2)) nN)).ext m18).mod m19 (nC (lG (lL (lL r3.lt sz4) ge2)) nN)).ext m20).mod m21 (nC (lG (lL (lL r3.lt sz4) ge2)) nN)).ext m22).mod m23 (nC (lG (lL (lL r3.lt sz4) ge2)) nN)).ext m24).mod m25 (nC (lG (lL (lL r3.lt sz4) ge2)) nN)).ext m26).mod m27 (nC (lG (lL (lL r3.lt sz4) ge2)) nN)).ext m28).mod m29 (nC (lG (lL (lL r3.lt sz4) ge2)) nN)).ext m30).mod m31 (nC (lG (lL (lL r3.lt sz4) ge2)) nN)).ext m32).mod m33 (nC (lG (lL (lL r3.lt sz4) ge2)) nN)).ext m34).mod m35 (nC (lG (lL (lL r3.lt sz4) ge2)) nN)).ext m36).mod m37 (nC (lG (lL (lL r3.lt sz4) ge2)) nN)).mod m38 (nC (lG (lL (lL r2.lt sz5) ge2)) nN))
  have sz6 := (lT (lT sz4 m10.size) m11.size)
  have sz7 := (lT (lT sz5 m10.size) m11.size)
  have r49 := ((((((((((((((((((((((((((r12.mod m13 (nC (lG (lL (lL r3.lt sz6) ge3)) nN)).ext m14).mod m15 (nC (lG (lL (lL r3.lt sz6) ge3)) nN)).ext m16).mod m17 (nC (lG (lL (lL r3.lt sz6) ge3)) nN)).ext m18).mod m19 (nC (lG (lL (lL r3.lt sz6) ge3)) nN)).ext m20).mod m21 (nC (lG (lL (lL r3.lt sz6) ge3)) nN)).ext m22).mod m23 (nC (lG (lL (lL r3.lt sz6) ge3)) nN)).ext m24).mod m25 (nC (lG (lL (lL r3.lt sz6) ge3)) nN)).ext m26).mod m27 (nC (lG (lL (lL r3.lt sz6) ge3)) nN)).ext m28).mod m29 (nC (lG (lL (lL r3.lt sz6) ge3)) nN)).ext m30).mod m31 (nC (lG (lL (lL r3.lt sz6) ge3)) nN)).ext m32).mod m33 (nC (lG (lL (lL r3.lt sz6) ge3)) nN)).ext m34).mod m35 (nC (lG (lL (lL r3.lt sz6) ge3)) nN)).ext m36).mod m37 (nC (lG (lL (lL r3.lt sz6) ge3)) nN)).mod m38 (nC (lG (lL (lL r2.lt sz7) ge3)) nN))
  have sz8 := (lT (lT sz6 m12.size) m13.size)
  have sz9 := (lT (lT sz7 m12.size) m13.size)
  have r50 := ((((((((((((((((((((((((r16.mod m15 (nC (lG (lL (lL r3.lt sz8) ge4)) nN)).ext m16).mod m17 (nC (lG (lL (lL r3.lt sz8) ge4)) nN)).ext m18).mod m19 (nC (lG (lL (lL r3.lt sz8) ge4)) nN)).ext m20).mod m21 (nC (lG (lL (lL r3.lt sz8) ge4)) nN)).ext m22).mod m23 (nC (lG (lL (lL r3.lt sz8) ge4)) nN)).ext m24).mod m25 (nC (lG (lL (lL r3.lt sz8) ge4)) nN)).ext m26).mod m27 (nC (lG (lL (lL r3.lt sz8) ge4)) nN)).ext m28).mod m29 (nC (lG (lL (lL r3.lt sz8) ge4)) nN)).ext m30).mod m31 (nC (lG (lL (lL r3.lt sz8) ge4)) nN)).ext m32).mod m33 (nC (lG (lL (lL r3.lt sz8) ge4)) nN)).ext m34).mod m35 (nC (lG (lL (lL r3.lt sz8) ge4)) nN)).ext m36).mod m37 (nC (lG (lL (lL r3.lt sz8) ge4)) nN)).mod m38 (nC (lG (lL (lL r2.lt sz9) ge4)) nN))
  have sz10 := (lT (lT (lT (lT (lT (lT sz8 m14.size) m15.size) m16.size) m17.size) m18.size) m19.size)
  have sz11 := (lT (lT (lT (lT (lT (lT sz9 m14.size) m15.size) m16.size) m17.size) m18.size) m19.size)
  have r51 := ((((((((((((((((((r23.mod m21 (nC (lG (lL (lL r3.lt sz10) ge5)) nN)).ext m22).mod m23 (nC (lG (lL (lL r3.lt sz10) ge5)) nN)).ext m24).mod m25 (nC (lG (lL (lL r3.lt sz10) ge5)) nN)).ext m26).mod m27 (nC (lG (lL (lL r3.lt sz10) ge5)) nN)).ext m28).mod m29 (nC (lG (lL (lL r3.lt sz10) ge5)) nN)).ext m30).mod m31 (nC (lG (lL (lL r3.lt sz10) ge5)) nN)).ext m32).mod m33 (nC (lG (lL (lL r3.lt sz10) ge5)) nN)).ext m34).mod m35 (nC (lG (lL (lL r3.lt sz10) ge5)) nN)).ext m36).mod m37 (nC (lG (lL (lL r3.lt sz10) ge5)) nN)).mod m38 (nC (lG (lL (lL r2.lt sz11) ge5)) nN))
  have sz12 := (lT (lT (lT (lT (lT (lT sz10 m20.size) m21.size) m22.size) m23.size) m24.size) m25.size)
  have sz13 := (lT (lT (lT (lT (lT (lT sz11 m20.size) m21.size) m22.size) m23.size) m24.size) m25.size)
  have r52 := ((((((((((((r30.mod m27 (nC (lG (lL (lL r3.lt sz12) ge6)) nN)).ext m28).mod m29 (nC (lG (lL (lL r3.lt sz12) ge6)) nN)).ext m30).mod m31 (nC (lG (lL (lL r3.lt sz12) ge6)) nN)).ext m32).mod m33 (nC (lG (lL (lL r3.lt sz12) ge6)) nN)).ext m34).mod m35 (nC (lG (lL (lL r3.lt sz12) ge6)) nN)).ext m36).mod m37 (nC (lG (lL (lL r3.lt sz12) ge6)) nN)).mod m38 (nC (lG (lL (lL r2.lt sz13) ge6)) nN))
  have sz14 := (lT (lT (lT (lT (lT (lT sz12 m26.size) m27.size) m28.size) m29.size) m30.size) m31.size)
  have sz15 := (lT (lT (lT (lT (lT (lT sz13 m26.size) m27.size) m28.size) m29.size) m30.size) m31.size)
  have r53 := ((((((r37.mod m33 (nC (lG (lL (lL r3.lt sz14) ge7)) nN)).ext m34).mod m35 (nC (lG (lL (lL r3.lt sz14) ge7)) nN)).ext m36).mod m37 (nC (lG (lL (lL r3.lt sz14) ge7)) nN)).mod m38 (nC (lG (lL (lL r2.lt sz15) ge7)) nN))
  have sz16 := (lT (lT (lT (lT (lT (lT m1.size m2.size) m3.size) m4.size) m5.size) m6.size) m7.size)
  have sz17 := (lT (lT sz16 m8.size) m9.size)
  have sz18 := (lT (lT sz17 m10.size) m11.size)
  have sz19 := (lT (lT sz18 m12.size) m13.size)
  have sz20 := (lT (lT (lT (lT (lT (lT sz19 m14.size) m15.size) m16.size) m17.size) m18.size) m19.size)
  have sz21 := (lT (lT (lT (lT (lT (lT sz20 m20.size) m21.size) m22.size) m23.size) m24.size) m25.size)
  have sz22 := (lT (lT (lT (lT (lT (lT sz21 m26.size) m27.size) m28.size) m29.size) m30.size) m31.size)
  have sz23 := (lT (lT m9.size m10.size) m11.size)
  have sz24 := (lT (lT sz23 m12.size) m13.size)
  have sz25 := (lT (lT (lT (lT (lT (lT sz24 m14.size) m15.size) m16.size) m17.size) m18.size) m19.size)
  have sz26 := (lT (lT (lT (lT (lT (lT sz25 m20.size) m21.size) m22.size) m23.size) m24.size) m25.size)
  have sz27 := (lT (lT (lT (lT (lT (lT sz26 m26.size) m27.size) m28.size) m29.size) m30.size) m31.size)
  have sz28 := (lT (lT m11.size m12.size) m13.size)
  have sz29 := (lT (lT (lT (lT (lT (lT sz28 m14.size) m15.size) m16.size) m17.size) m18.size) m19.size)
  have sz30 := (lT (lT (lT (lT (lT (lT sz29 m20.size) m21.size) m22.size) m23.size) m24.size) m25.size)
  have sz31 := (lT (lT (lT (lT (lT (lT sz30 m26.size) m27.size) m28.size) m29.size) m30.size) m31.size)
  have sz32 := (lT (lT (lT (lT (lT (lT m13.size m14.size) m15.size) m16.size) m17.size) m18.size) m19.size)
  have sz33 := (lT (lT (lT (lT (lT (lT sz32 m20.size) m21.size) m22.size) m23.size) m24.size) m25.size)
  have sz34 := (lT (lT (lT (lT (lT (lT sz33 m26.size) m27.size) m28.size) m29.size) m30.size) m31.size)
  have sz35 := (lT (lT (lT (lT m15.size m16.size) m17.size) m18.size) m19.size)
  have sz36 := (lT (lT (lT (lT (lT (lT sz35 m20.size) m21.size) m22.size) m23.size) m24.size) m25.size)
  have sz37 := (lT (lT (lT (lT (lT (lT sz36 m26.size) m27.size) m28.size) m29.size) m30.size) m31.size)
  have sz38 := (lT (lT (lT (lT m21.size m22.size) m23.size) m24.size) m25.size)
  have sz39 := (lT (lT (lT (lT (lT (lT sz38 m26.size) m27.size) m28.size) m29.size) m30.size) m31.size)
  have sz40 := (lT (lT (lT (lT m27.size m28.size) m29.size) m30.size) m31.size)
  have sz41 := (lT (lT (lT (lT m1.size m2.size) m3.size) m4.size) m5.size)
  refine ⟨b'1, b'2, b'3, b'4, b'5, b'6, b'7, g1, g2, g3, g4, rfl, ?_, ?_, ?_, ?_, r47, r48, r49, r50, r51, r52, r53, (lT sz16 ge1), (lT sz17 ge2), (lT sz18 ge3), (lT sz19 ge4), (lT sz20 ge5), (lT sz21 ge6), (lT sz22 ge7), (lE (lL (lL r6.lt m9.size) ge2)), (lE (lL (lL r6.lt sz23) ge3)), (lE (lL (lL r6.lt sz24) ge4)), (lE (lL (lL r6.lt sz25) ge5)), (lE (lL (lL r6.lt sz26) ge6)), (lE (lL (lL r6.lt sz27) ge7)), (lE (lL (lL r9.lt m11.size) ge3)), (lE (lL (lL r9.lt sz28) ge4)), (lE (lL (lL r9.lt sz29) ge5)), (lE (lL (lL r9.lt sz30) ge6)), (lE (lL (lL r9.lt sz31) ge7)), (lE (lL (lL r12.lt m13.size) ge4)), (lE (lL (lL r12.lt sz32) ge5)), (lE (lL (lL r12.lt sz33) ge6)), (lE (lL (lL r12.lt sz34) ge7)), (lE (lL (lL r16.lt sz35) ge5)), (lE (lL (lL r16.lt sz36) ge6)), (lE (lL (lL r16.lt sz37) ge7)), (lE (lL (lL r23.lt sz38) ge6)), (lE (lL (lL r23.lt sz39) ge7)), (lE (lL (lL r30.lt sz40) ge7)), (((((((((((((((((((((((((((((((((((((((Mod.refl [] w).nt m1).nt m2).nt m3).nt m4).nt m5).nt m6).then m7 ((aC (.inr (lT sz41 lR)) aN))).nt m8).then m9 ((aC (.inr (lT sz41 lR)) aN))).nt m10).then m11 ((aC (.inr (lT sz41 lR)) aN))).nt m12).then m13 ((aC (.inr (lT sz41 lR)) aN))).nt m14).then m15 ((aC (.inr (lT sz41 lR)) aN))).nt m16).then m17 ((aC (.inr (lT sz41 lR)) aN))).nt m18).then m19 ((aC (.inr (lT sz41 lR)) aN))).nt m20).then m21 ((aC (.inr (lT sz41 lR)) aN))).nt m22).then m23 ((aC (.inr (lT sz41 lR)) aN))).nt m24).then m25 ((aC (.inr (lT sz41 lR)) aN))).nt m26).then m27 ((aC (.inr (lT sz41 lR)) aN))).nt m28).then m29 ((aC (.inr (lT sz41 lR)) aN))).nt m30).then m31 ((aC (.inr (lT sz41 lR)) aN))).nt m32).then m33 ((aC (.inr (lT sz41 lR)) aN))).nt m34).then m35 ((aC (.inr (lT sz41 lR)) aN))).nt m36).then m37 ((aC (.inr (lT sz41 lR)) aN))).then m38 ((aC (.inr (lT m1.size lR)) aN)))⟩
  all_goals first | assumption | rfl

end Go.Proofs.Ytemnjphnhmbddaa
