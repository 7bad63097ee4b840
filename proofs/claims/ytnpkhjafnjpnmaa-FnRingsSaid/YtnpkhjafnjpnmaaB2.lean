/- What the small functions on floats compute. -/
import Derived.Test.YtnpkhjafnjpnmaaB1
set_option linter.unusedVariables false
set_option linter.unusedSimpArgs false
set_option maxRecDepth 100000
set_option maxHeartbeats 8000000
namespace Go.Proofs.Ytnpkhjafnjpnmaa

theorem x92n : Extern.findNext Try.f92 = none := by kernel_rfl
theorem x92e : Extern.find Try.f92 = some Extern.MathFloatBits.float32frombits := by kernel_rfl
theorem x95n : Extern.findNext Try.f95 = none := by kernel_rfl
theorem x95e : Extern.find Try.f95 = some Extern.MathFloatBits.float32bits := by kernel_rfl
theorem x122n : Extern.findNext Try.f122 = none := by kernel_rfl
theorem x122e : Extern.find Try.f122 = some Extern.MathFloatBits.float64frombits := by kernel_rfl
theorem x138n : Extern.findNext Try.f138 = none := by kernel_rfl
theorem x138e : Extern.find Try.f138 = some Extern.MathFloatBits.float64bits := by kernel_rfl

theorem c_isFinite (a : Nat) (x : Nat) (ha : cn .f32 a = cn .f32 x) (w : World) : Cl Try.prog 69 #[vF a] w fun v w' => v = .bool (finF x) ∧ Mod [] w w' := by
 refine Cl.of Try.func69 Try.ntmps69 rfl rfl (ρ := [(0, vF a)]) rfl ?_
 refine CE.seq (CE.region ?_)
 refine WL.det (op_assign rfl) rfl rfl rfl ?_
 refine WL.end (NE.code (CE.seq (CE.region ?_)))
 iterate 2 refine WL.det (op_move rfl) rfl rfl rfl ?_
 refine WL.op (op_farith (e := (fop .sub .f32 x x)) (.inr (.inl rfl)) rfl rfl ha ha rfl) rfl rfl (ltb rfl) ?_
 rintro _ w1 ⟨⟨f1, rfl, hf1, lf1⟩, m1⟩
 refine WL.det (op_feq (c := fEq .f32 (fop .sub .f32 x x) 0) rfl rfl hf1 rfl rfl) rfl rfl rfl ?_
 refine WL.det (op_assign rfl) rfl rfl rfl ?_
 refine WL.end (NE.code (CE.ret' ?_))
 refine XE.leave1 Try.results69 rfl ?_
 refine ⟨?_, ((Mod.refl [] w).nt m1)⟩
 all_goals rfl

theorem c_l01Finite (a : Nat) (x : Nat) (ha : cn .f32 a = cn .f32 x) (w : World) : Cl Try.prog 87 #[vF a] w fun v w' => v = .bool (finF x) ∧ Mod [] w w' := by
 refine Cl.of Try.func87 Try.ntmps87 rfl rfl (ρ := [(0, vF a)]) rfl ?_
 refine CE.seq (CE.region ?_)
 refine WL.det (op_assign rfl) rfl rfl rfl ?_
 refine WL.end (NE.code (CE.seq (CE.region ?_)))
 iterate 2 refine WL.det (op_move rfl) rfl rfl rfl ?_
 refine WL.op (op_farith (e := (fop .sub .f32 x x)) (.inr (.inl rfl)) rfl rfl ha ha rfl) rfl rfl (ltb rfl) ?_
 rintro _ w1 ⟨⟨f1, rfl, hf1, lf1⟩, m1⟩
 refine WL.det (op_feq (c := fEq .f32 (fop .sub .f32 x x) 0) rfl rfl hf1 rfl rfl) rfl rfl rfl ?_
 refine WL.det (op_assign rfl) rfl rfl rfl ?_
 refine WL.end (NE.code (CE.ret' ?_))
 refine XE.leave1 Try.results87 rfl ?_
 refine ⟨?_, ((Mod.refl [] w).nt m1)⟩
 all_goals rfl

theorem c_mathAbs (a : Nat) (x : Nat) (ha : cn .f64 a = cn .f64 x) (la : a < wid .f64) (w : World) : Cl Try.prog 135 #[.float .f64 a] w fun v w' => v = .float .f64 (absD a) ∧ w = w' := by
 refine Cl.of Try.func135 Try.ntmps135 rfl rfl (ρ := [(0, .float .f64 a)]) rfl ?_
 refine CE.seq (CE.region ?_)
 refine WL.det (op_assign rfl) rfl rfl rfl ?_
 refine WL.end (NE.code (CE.seq (CE.region ?_)))
 refine WL.det (op_move rfl) rfl rfl rfl ?_
 refine WL.det (op_extern (vs := [.float .f64 a]) Try.func138 rfl rfl x138n x138e rfl (fun _ => rfl)) rfl rfl rfl ?_
 refine WL.det (op_andnot63 rfl rfl la) rfl rfl rfl ?_
 refine WL.det (op_extern (vs := [.int .u64 ((absD a : Nat) : Int)]) Try.func122 rfl rfl x122n x122e rfl (fun _ => rfl)) rfl rfl rfl ?_
 refine WL.det (op_assign rfl) rfl rfl rfl ?_
 refine WL.end (NE.code (CE.ret' ?_))
 refine XE.leave1 Try.results135 rfl ?_
 refine ⟨rfl, rfl⟩

theorem c_absolute (a : Nat) (x : Nat) (ha : cn .f32 a = cn .f32 x) (la : a < wid .f32) (w : World) : Cl Try.prog 129 #[vF a] w fun v w' => ∃ (r : Nat), v = vF r ∧ (cn .f32 r = cn .f32 (absF x)) ∧ (r < wid .f32) ∧ Mod [] w w' := by
 refine Cl.of Try.func129 Try.ntmps129 rfl rfl (ρ := [(0, vF a)]) rfl ?_
 refine CE.seq (CE.region ?_)
 refine WL.det (op_assign rfl) rfl rfl rfl ?_
 refine WL.end (NE.code (CE.seq (CE.region ?_)))
 refine WL.det (op_move rfl) rfl rfl rfl ?_
 refine WL.op (op_widen (e := (wide x)) rfl ha Try.runUnderlying24 Try.runUnderlying109 rfl) rfl rfl (ltb rfl) ?_
 rintro _ w1 ⟨⟨f1, rfl, hf1, lf1⟩, m1⟩
 refine WL.call (oc_call (vs := [.float .f64 f1]) (cap := []) rfl rfl rfl Try.call135 (c_mathAbs f1 (wide x) hf1 lf1 w1)) rfl rfl (ltb rfl) ?_
 rintro _ _ ⟨rfl, rfl⟩
 refine WL.op (op_narrow (e := (absF x)) rfl (absD_congr hf1) Try.runUnderlying109 Try.runUnderlying24 (narrow_abs _)) rfl rfl (ltb rfl) ?_
 rintro _ w2 ⟨⟨f2, rfl, hf2, lf2⟩, m2⟩
 refine WL.det (op_assign rfl) rfl rfl rfl ?_
 refine WL.end (NE.code (CE.ret' ?_))
 refine XE.leave1 Try.results129 rfl ?_
 refine ⟨f2, rfl, hf2, lf2, (((Mod.refl [] w).nt m1).nt m2)⟩

theorem c_l01Abs (a : Nat) (x : Nat) (ha : cn .f32 a = cn .f32 x) (la : a < wid .f32) (w : World) : Cl Try.prog 130 #[vF a] w fun v w' => v = vF (absF a) ∧ w = w' := by
 refine Cl.of Try.func130 Try.ntmps130 rfl rfl (ρ := [(0, vF a)]) rfl ?_
 refine CE.seq (CE.region ?_)
 refine WL.det (op_assign rfl) rfl rfl rfl ?_
 refine WL.end (NE.code (CE.seq (CE.region ?_)))
 refine WL.det (op_move rfl) rfl rfl rfl ?_
 refine WL.det (op_extern (vs := [vF a]) Try.func95 rfl rfl x95n x95e rfl (fun _ => rfl)) rfl rfl rfl ?_
 refine WL.det (op_and31 rfl rfl la) rfl rfl rfl ?_
 refine WL.det (op_extern (vs := [.int .u32 ((absF a : Nat) : Int)]) Try.func92 rfl rfl x92n x92e rfl (fun _ => rfl)) rfl rfl rfl ?_
 refine WL.det (op_assign rfl) rfl rfl rfl ?_
 refine WL.end (NE.code (CE.ret' ?_))
 refine XE.leave1 Try.results130 rfl ?_
 refine ⟨rfl, rfl⟩

theorem c_FlushSample (a : Nat) (x : Nat) (ha : cn .f32 a = cn .f32 x) (la : a < wid .f32) (hn : isNaN .f32 x = false) (w : World) : Cl Try.prog 119 #[vF a] w fun v w' => v = vF (flushF x) ∧ Mod [] w w' := by
 refine Cl.of Try.func119 Try.ntmps119 rfl rfl (ρ := [(0, vF a)]) rfl ?_
 refine CE.seq (CE.region ?_)
 refine WL.det (op_assign rfl) rfl rfl rfl ?_
 refine WL.end (NE.code (CE.seq (CE.seq (CE.region ?_))))
 refine WL.det (op_move rfl) rfl rfl rfl ?_
 refine WL.call (oc_call (vs := [vF a]) (cap := []) rfl rfl rfl Try.call129 (c_absolute a x ha la w)) rfl rfl (ltb rfl) ?_
 rintro _ w1 ⟨r1, rfl, h1, h2, m1⟩
 refine WL.det (op_flt (c := fLt .f32 (absF x) 8388608) rfl rfl h1 rfl rfl) rfl rfl rfl ?_
 refine WL.end (NE.code ?_)
 rcases Bool.eq_false_or_eq_true (fLt .f32 (absF x) 8388608) with hb1 | hb1
 ·refine CE.cond_t rfl hb1 ?_
  refine CE.seq (CE.region ?_)
  refine WL.det (op_assign rfl) rfl rfl rfl ?_
  refine WL.end (NE.code (CE.ret' (XE.ret_then ?_)))
  refine XE.leave1 Try.results119 rfl ?_
  refine ⟨?_, ((Mod.refl [] w).nt m1)⟩
  all_goals (have e := eq_of_cn ha hn; subst e; simp_all [flushF, smallF])
 ·refine CE.cond_f rfl hb1 ?_
  refine CE.skip' (NE.code (CE.seq (CE.region ?_)))
  refine WL.det (op_move rfl) rfl rfl rfl ?_
  refine WL.det (op_assign rfl) rfl rfl rfl ?_
  refine WL.end (NE.code (CE.ret' ?_))
  refine XE.leave1 Try.results119 rfl ?_
  refine ⟨?_, ((Mod.refl [] w).nt m1)⟩
  all_goals (have e := eq_of_cn ha hn; subst e; simp_all [flushF, smallF])

theorem c_l01Flush (a : Nat) (x : Nat) (ha : cn .f32 a = cn .f32 x) (la : a < wid .f32) (hn : isNaN .f32 x = false) (w : World) : Cl Try.prog 121 #[vF a] w fun v w' => v = vF (flushF x) ∧ w = w' := by
 refine Cl.of Try.func121 Try.ntmps121 rfl rfl (ρ := [(0, vF a)]) rfl ?_
 refine CE.seq (CE.region ?_)
 refine WL.det (op_assign rfl) rfl rfl rfl ?_
 refine WL.end (NE.code (CE.seq (CE.seq (CE.region ?_))))
 refine WL.det (op_move rfl) rfl rfl rfl ?_
 refine WL.call (oc_call (vs := [vF a]) (cap := []) rfl rfl rfl Try.call130 (c_l01Abs a x ha la w)) rfl rfl (ltb rfl) ?_
 rintro _ _ ⟨rfl, rfl⟩
 refine WL.det (op_extern (vs := [.int .u32 8388608]) Try.func92 rfl rfl x92n x92e rfl (fun _ => rfl)) rfl rfl rfl ?_
 refine WL.det (op_flt (c := fLt .f32 (absF x) 8388608) rfl rfl (absF_congr ha) rfl rfl) rfl rfl rfl ?_
 refine WL.end (NE.code ?_)
 rcases Bool.eq_false_or_eq_true (fLt .f32 (absF x) 8388608) with hb1 | hb1
 ·refine CE.cond_t rfl hb1 ?_
  refine CE.seq (CE.region ?_)
  refine WL.det (op_assign rfl) rfl rfl rfl ?_
  refine WL.end (NE.code (CE.ret' (XE.ret_then ?_)))
  refine XE.leave1 Try.results121 rfl ?_
  refine ⟨?_, rfl⟩
  all_goals (have e := eq_of_cn ha hn; subst e; simp_all [flushF, smallF])
 ·refine CE.cond_f rfl hb1 ?_
  refine CE.skip' (NE.code (CE.seq (CE.region ?_)))
  refine WL.det (op_move rfl) rfl rfl rfl ?_
  refine WL.det (op_assign rfl) rfl rfl rfl ?_
  refine WL.end (NE.code (CE.ret' ?_))
  refine XE.leave1 Try.results121 rfl ?_
  refine ⟨?_, rfl⟩
  all_goals (have e := eq_of_cn ha hn; subst e; simp_all [flushF, smallF])

theorem c_kept (a : Nat) (x : Nat) (ha : cn .f32 a = cn .f32 x) (la : a < wid .f32) (w : World) : Cl Try.prog 85 #[vF a] w fun v w' => v = vF (keptF x) ∧ (keptF x < wid .f32) ∧ Mod [] w w' := by
 refine Cl.of Try.func85 Try.ntmps85 rfl rfl (ρ := [(0, vF a)]) rfl ?_
 refine CE.seq (CE.region ?_)
 refine WL.det (op_assign rfl) rfl rfl rfl ?_
 refine WL.end (NE.code (CE.seq (CE.seq (CE.region ?_))))
 refine WL.det (op_move rfl) rfl rfl rfl ?_
 refine WL.call (oc_call (vs := [vF a]) (cap := []) rfl rfl rfl Try.call69 (c_isFinite a x ha w)) rfl rfl (ltb rfl) ?_
 rintro _ w1 ⟨rfl, m1⟩
 refine WL.det (op_not rfl) rfl rfl rfl ?_
 refine WL.end (NE.code ?_)
 rcases Bool.eq_false_or_eq_true (finF x) with hb1 | hb1
 ·refine CE.cond_f rfl (bnot_t hb1) ?_
  refine CE.skip' (NE.code (CE.seq (CE.region ?_)))
  refine WL.det (op_move rfl) rfl rfl rfl ?_
  refine WL.call (oc_call (vs := [vF a]) (cap := []) rfl rfl rfl Try.call119 (c_FlushSample a x ha la (by first | assumption | exact finF_num (by assumption)) w1)) rfl rfl (ltb rfl) ?_
  rintro _ w2 ⟨rfl, m2⟩
  refine WL.det (op_assign rfl) rfl rfl rfl ?_
  refine WL.end (NE.code (CE.ret' ?_))
  refine XE.leave1 Try.results85 rfl ?_
  refine ⟨?_, ?_, (((Mod.refl [] w).nt m1).nt m2)⟩
  all_goals first | exact keptF_wid ha la | simp_all [keptF]
 ·refine CE.cond_t rfl (bnot_f hb1) ?_
  refine CE.seq (CE.region ?_)
  refine WL.det (op_assign rfl) rfl rfl rfl ?_
  refine WL.end (NE.code (CE.ret' (XE.ret_then ?_)))
  refine XE.leave1 Try.results85 rfl ?_
  refine ⟨?_, ?_, ((Mod.refl [] w).nt m1)⟩
  all_goals first | exact keptF_wid ha la | simp_all [keptF]

theorem c_l02Kept (a : Nat) (x : Nat) (ha : cn .f32 a = cn .f32 x) (la : a < wid .f32) (w : World) : Cl Try.prog 89 #[vF a] w fun v w' => v = vF (keptF x) ∧ (keptF x < wid .f32) ∧ Mod [] w w' := by
 refine Cl.of Try.func89 Try.ntmps89 rfl rfl (ρ := [(0, vF a)]) rfl ?_
 refine CE.seq (CE.region ?_)
 refine WL.det (op_assign rfl) rfl rfl rfl ?_
 refine WL.end (NE.code (CE.seq (CE.seq (CE.region ?_))))
 refine WL.det (op_move rfl) rfl rfl rfl ?_
 refine WL.call (oc_call (vs := [vF a]) (cap := []) rfl rfl rfl Try.call87 (c_l01Finite a x ha w)) rfl rfl (ltb rfl) ?_
 rintro _ w1 ⟨rfl, m1⟩
 refine WL.det (op_not rfl) rfl rfl rfl ?_
 refine WL.end (NE.code ?_)
 rcases Bool.eq_false_or_eq_true (finF x) with hb1 | hb1
 ·refine CE.cond_f rfl (bnot_t hb1) ?_
  refine CE.skip' (NE.code (CE.seq (CE.region ?_)))
  refine WL.det (op_move rfl) rfl rfl rfl ?_
  refine WL.call (oc_call (vs := [vF a]) (cap := []) rfl rfl rfl Try.call121 (c_l01Flush a x ha la (by first | assumption | exact finF_num (by assumption)) w1)) rfl rfl (ltb rfl) ?_
  rintro _ _ ⟨rfl, rfl⟩
  refine WL.det (op_assign rfl) rfl rfl rfl ?_
  refine WL.end (NE.code (CE.ret' ?_))
  refine XE.leave1 Try.results89 rfl ?_
  refine ⟨?_, ?_, ((Mod.refl [] w).nt m1)⟩
  all_goals first | exact keptF_wid ha la | simp_all [keptF]
 ·refine CE.cond_t rfl (bnot_f hb1) ?_
  refine CE.seq (CE.region ?_)
  refine WL.det (op_assign rfl) rfl rfl rfl ?_
  refine WL.end (NE.code (CE.ret' (XE.ret_then ?_)))
  refine XE.leave1 Try.results89 rfl ?_
  refine ⟨?_, ?_, ((Mod.refl [] w).nt m1)⟩
  all_goals first | exact keptF_wid ha la | simp_all [keptF]

theorem c_l01NaN (a : Nat) (x : Nat) (ha : cn .f32 a = cn .f32 x) (w : World) : Cl Try.prog 120 #[vF a] w fun v w' => v = .bool (isNaN .f32 x) ∧ w = w' := by
 refine Cl.of Try.func120 Try.ntmps120 rfl rfl (ρ := [(0, vF a)]) rfl ?_
 refine CE.seq (CE.region ?_)
 refine WL.det (op_assign rfl) rfl rfl rfl ?_
 refine WL.end (NE.code (CE.seq (CE.region ?_)))
 iterate 2 refine WL.det (op_move rfl) rfl rfl rfl ?_
 refine WL.det (op_fne (c := !(fEq .f32 x x)) rfl rfl ha ha rfl) rfl rfl rfl ?_
 refine WL.det (op_assign rfl) rfl rfl rfl ?_
 refine WL.end (NE.code (CE.ret' ?_))
 refine XE.leave1 Try.results120 rfl ?_
 refine ⟨?_, rfl⟩
 all_goals simp [fEq_self]

theorem c_bitsOf (a : Nat) (x : Nat) (ha : cn .f32 a = cn .f32 x) (w : World) : Cl Try.prog 62 #[vF a] w fun v w' => v = .int .u32 ((cn .f32 x : Nat) : Int) ∧ w = w' := by
 refine Cl.of Try.func62 Try.ntmps62 rfl rfl (ρ := [(0, vF a)]) rfl ?_
 refine CE.seq (CE.region ?_)
 refine WL.det (op_assign rfl) rfl rfl rfl ?_
 refine WL.end (NE.code (CE.seq (CE.seq (CE.region ?_))))
 iterate 2 refine WL.det (op_move rfl) rfl rfl rfl ?_
 refine WL.det (op_fne (c := !(fEq .f32 x x)) rfl rfl ha ha rfl) rfl rfl rfl ?_
 refine WL.end (NE.code ?_)
 rcases Bool.eq_false_or_eq_true (fEq .f32 x x) with hb1 | hb1
 ·refine CE.cond_f rfl (bnot_t hb1) ?_
  refine CE.skip' (NE.code (CE.seq (CE.region ?_)))
  refine WL.det (op_move rfl) rfl rfl rfl ?_
  refine WL.det (op_extern (vs := [vF a]) Try.func95 rfl rfl x95n x95e rfl (fun _ => rfl)) rfl rfl rfl ?_
  refine WL.det (op_assign rfl) rfl rfl rfl ?_
  refine WL.end (NE.code (CE.ret' ?_))
  refine XE.leave1 Try.results62 rfl ?_
  refine ⟨?_, rfl⟩
  all_goals (rw [fEq_self] at hb1; simp at hb1; first | (rw [cn, if_pos hb1]; rfl) | (rw [cn_of_not hb1, eq_of_cn ha hb1]))
 ·refine CE.cond_t rfl (bnot_f hb1) ?_
  refine CE.seq (CE.region ?_)
  refine WL.det (op_assign rfl) rfl rfl rfl ?_
  refine WL.end (NE.code (CE.ret' (XE.ret_then ?_)))
  refine XE.leave1 Try.results62 rfl ?_
  refine ⟨?_, rfl⟩
  all_goals (rw [fEq_self] at hb1; simp at hb1; first | (rw [cn, if_pos hb1]; rfl) | (rw [cn_of_not hb1, eq_of_cn ha hb1]))

theorem c_l01Same (a : Nat) (x : Nat) (b : Nat) (y : Nat) (ha : cn .f32 a = cn .f32 x) (hb : cn .f32 b = cn .f32 y) (w : World) : Cl Try.prog 88 #[vF a, vF b] w fun v w' => v = .bool (cn .f32 x == cn .f32 y) ∧ w = w' := by
 refine Cl.of Try.func88 Try.ntmps88 rfl rfl (ρ := [(0, vF a), (1, vF b)]) rfl ?_
 refine CE.seq (CE.region ?_)
 refine WL.det (op_assign rfl) rfl rfl rfl ?_
 refine WL.end (NE.code (CE.seq (CE.seq (CE.region ?_))))
 refine WL.det (op_move rfl) rfl rfl rfl ?_
 refine WL.call (oc_call (vs := [vF a]) (cap := []) rfl rfl rfl Try.call120 (c_l01NaN a x ha w)) rfl rfl (ltb rfl) ?_
 rintro _ _ ⟨rfl, rfl⟩
 refine WL.det (op_move rfl) rfl rfl rfl ?_
 rcases Bool.eq_false_or_eq_true (isNaN .f32 x) with hb1 | hb1
 ·refine WL.no rfl rfl rfl (ltb rfl) rfl hb1 rfl (ltb rfl) ?_
  refine WL.no rfl rfl rfl (ltb rfl) rfl hb1 rfl (ltb rfl) ?_
  refine WL.det (op_pick_t rfl hb1 rfl) rfl rfl rfl ?_
  refine WL.end (NE.code ?_)
  refine CE.cond_t rfl rfl ?_
  refine CE.seq (CE.region ?_)
  refine WL.det (op_move rfl) rfl rfl rfl ?_
  refine WL.call (oc_call (vs := [vF a]) (cap := []) rfl rfl rfl Try.call120 (c_l01NaN a x ha w)) rfl rfl (ltb rfl) ?_
  rintro _ _ ⟨rfl, rfl⟩
  refine WL.det (op_move rfl) rfl rfl rfl ?_
  refine WL.yes rfl rfl rfl (ltb rfl) rfl hb1 ?_
  refine WL.det (op_move rfl) rfl rfl rfl ?_
  refine WL.yes rfl rfl rfl (ltb rfl) rfl hb1 ?_
  refine WL.call (oc_call (vs := [vF b]) (cap := []) rfl rfl rfl Try.call120 (c_l01NaN b y hb w)) rfl rfl (ltb rfl) ?_
  rintro _ _ ⟨rfl, rfl⟩
  refine WL.det (op_pick_t rfl hb1 rfl) rfl rfl rfl ?_
  refine WL.det (op_assign rfl) rfl rfl rfl ?_
  refine WL.end (NE.code (CE.ret' (XE.ret_then ?_)))
  refine XE.leave1 Try.results88 rfl ?_
  refine ⟨?_, rfl⟩
  all_goals first | exact congrArg Value.bool (same_nan_l (by assumption) _) | exact congrArg Value.bool (same_nan_r (by assumption) (by assumption)) | exact congrArg Value.bool (same_num ha hb (by assumption) (by assumption))
 ·refine WL.yes rfl rfl rfl (ltb rfl) rfl hb1 ?_
  refine WL.det (op_move rfl) rfl rfl rfl ?_
  refine WL.yes rfl rfl rfl (ltb rfl) rfl hb1 ?_
  refine WL.call (oc_call (vs := [vF b]) (cap := []) rfl rfl rfl Try.call120 (c_l01NaN b y hb w)) rfl rfl (ltb rfl) ?_
  rintro _ _ ⟨rfl, rfl⟩
  refine WL.det (op_pick_f rfl hb1 rfl) rfl rfl rfl ?_
  refine WL.end (NE.code ?_)
  rcases Bool.eq_false_or_eq_true (isNaN .f32 y) with hb2 | hb2
  ·refine CE.cond_t rfl hb2 ?_
   refine CE.seq (CE.region ?_)
   refine WL.det (op_move rfl) rfl rfl rfl ?_
   refine WL.call (oc_call (vs := [vF a]) (cap := []) rfl rfl rfl Try.call120 (c_l01NaN a x ha w)) rfl rfl (ltb rfl) ?_
   rintro _ _ ⟨rfl, rfl⟩
   refine WL.det (op_move rfl) rfl rfl rfl ?_
   iterate 2 refine WL.no rfl rfl rfl (ltb rfl) rfl hb1 rfl (ltb rfl) ?_
   refine WL.det (op_pick_f rfl hb1 rfl) rfl rfl rfl ?_
   refine WL.det (op_assign rfl) rfl rfl rfl ?_
   refine WL.end (NE.code (CE.ret' (XE.ret_then ?_)))
   refine XE.leave1 Try.results88 rfl ?_
   refine ⟨?_, rfl⟩
   all_goals first | exact congrArg Value.bool (same_nan_l (by assumption) _) | exact congrArg Value.bool (same_nan_r (by assumption) (by assumption)) | exact congrArg Value.bool (same_num ha hb (by assumption) (by assumption))
  ·refine CE.cond_f rfl hb2 ?_
   refine CE.skip' (NE.code (CE.seq (CE.region ?_)))
   refine WL.det (op_move rfl) rfl rfl rfl ?_
   refine WL.det (op_extern (vs := [vF a]) Try.func95 rfl rfl x95n x95e rfl (fun _ => rfl)) rfl rfl rfl ?_
   refine WL.det (op_move rfl) rfl rfl rfl ?_
   refine WL.det (op_extern (vs := [vF b]) Try.func95 rfl rfl x95n x95e rfl (fun _ => rfl)) rfl rfl rfl ?_
   refine WL.det (op_eqi rfl rfl) rfl rfl rfl ?_
   refine WL.det (op_assign rfl) rfl rfl rfl ?_
   refine WL.end (NE.code (CE.ret' ?_))
   refine XE.leave1 Try.results88 rfl ?_
   refine ⟨?_, rfl⟩
   all_goals first | exact congrArg Value.bool (same_nan_l (by assumption) _) | exact congrArg Value.bool (same_nan_r (by assumption) (by assumption)) | exact congrArg Value.bool (same_num ha hb (by assumption) (by assumption))

end Go.Proofs.Ytnpkhjafnjpnmaa
