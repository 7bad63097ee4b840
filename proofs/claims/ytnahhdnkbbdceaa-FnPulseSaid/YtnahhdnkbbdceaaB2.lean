/- What the small functions on floats compute. -/
import Derived.Test.YtnahhdnkbbdceaaE11
set_option linter.unusedVariables false
set_option linter.unusedSimpArgs false
set_option maxRecDepth 100000
set_option maxHeartbeats 8000000
namespace Go.Proofs.Ytnahhdnkbbdceaa

theorem x143n : Extern.findNext Try.f143 = none := by kernel_rfl
theorem x143e : Extern.find Try.f143 = some Extern.MathFloatBits.float32frombits := by kernel_rfl
theorem x144n : Extern.findNext Try.f144 = none := by kernel_rfl
theorem x144e : Extern.find Try.f144 = some Extern.MathFloatBits.float32bits := by kernel_rfl
theorem x160n : Extern.findNext Try.f160 = none := by kernel_rfl
theorem x160e : Extern.find Try.f160 = some Extern.MathFloatBits.float64frombits := by kernel_rfl
theorem x161n : Extern.findNext Try.f161 = none := by kernel_rfl
theorem x161e : Extern.find Try.f161 = some Extern.MathFloatBits.float64bits := by kernel_rfl

theorem c_isFinite (a : Nat) (x : Nat) (ha : cn .f32 a = cn .f32 x) (w : World) : Cl Try.prog 92 #[vF a] w fun v w' => v = .bool (finF x) ∧ Mod [] w w' := by
 refine Cl.of Try.func92 Try.ntmps92 rfl rfl (ρ := [(0, vF a)]) rfl ?_
 refine CE.seq (CE.region ?_)
 refine WD (op_assign rfl) rfl ?_
 refine WL.end (NE.code (CE.seq (CE.region ?_)))
 iterate 2 refine WD (op_move rfl) rfl ?_
 refine WL.op (op_farith (e := (fop .sub .f32 x x)) (.inr (.inl rfl)) rfl rfl ha ha rfl) rfl rfl (ltb rfl) ?_
 rintro _ w1 ⟨⟨f1, rfl, hf1, lf1⟩, m1⟩
 refine WD (op_feq (c := fEq .f32 (fop .sub .f32 x x) 0) rfl rfl hf1 rfl rfl) rfl ?_
 refine WD (op_assign rfl) rfl ?_
 refine WL.end (NE.code (CE.ret' ?_))
 refine XE.leave1 Try.results92 rfl ?_
 refine ⟨?_, ((Mod.refl [] w).nt m1)⟩
 all_goals rfl

theorem c_l01Finite (a : Nat) (x : Nat) (ha : cn .f32 a = cn .f32 x) (w : World) : Cl Try.prog 58 #[vF a] w fun v w' => v = .bool (finF x) ∧ Mod [] w w' := by
 refine Cl.of Try.func58 Try.ntmps58 rfl rfl (ρ := [(0, vF a)]) rfl ?_
 refine CE.seq (CE.region ?_)
 refine WD (op_assign rfl) rfl ?_
 refine WL.end (NE.code (CE.seq (CE.region ?_)))
 iterate 2 refine WD (op_move rfl) rfl ?_
 refine WL.op (op_farith (e := (fop .sub .f32 x x)) (.inr (.inl rfl)) rfl rfl ha ha rfl) rfl rfl (ltb rfl) ?_
 rintro _ w1 ⟨⟨f1, rfl, hf1, lf1⟩, m1⟩
 refine WD (op_feq (c := fEq .f32 (fop .sub .f32 x x) 0) rfl rfl hf1 rfl rfl) rfl ?_
 refine WD (op_assign rfl) rfl ?_
 refine WL.end (NE.code (CE.ret' ?_))
 refine XE.leave1 Try.results58 rfl ?_
 refine ⟨?_, ((Mod.refl [] w).nt m1)⟩
 all_goals rfl

theorem c_mathAbs (a : Nat) (x : Nat) (ha : cn .f64 a = cn .f64 x) (la : a < wid .f64) (w : World) : Cl Try.prog 158 #[.float .f64 a] w fun v w' => v = .float .f64 (absD a) ∧ w = w' := by
 refine Cl.of Try.func158 Try.ntmps158 rfl rfl (ρ := [(0, .float .f64 a)]) rfl ?_
 refine CE.seq (CE.region ?_)
 refine WD (op_assign rfl) rfl ?_
 refine WL.end (NE.code (CE.seq (CE.region ?_)))
 refine WD (op_move rfl) rfl ?_
 refine WD (op_extern (vs := [.float .f64 a]) Try.func161 rfl rfl x161n x161e rfl (fun _ => rfl)) rfl ?_
 refine WD (op_andnot63 rfl rfl la) rfl ?_
 refine WD (op_extern (vs := [.int .u64 ((absD a : Nat) : Int)]) Try.func160 rfl rfl x160n x160e rfl (fun _ => rfl)) rfl ?_
 refine WD (op_assign rfl) rfl ?_
 refine WL.end (NE.code (CE.ret' ?_))
 refine XE.leave1 Try.results158 rfl ?_
 refine ⟨rfl, rfl⟩

theorem c_absolute (a : Nat) (x : Nat) (ha : cn .f32 a = cn .f32 x) (la : a < wid .f32) (w : World) : Cl Try.prog 155 #[vF a] w fun v w' => ∃ (r : Nat), v = vF r ∧ (cn .f32 r = cn .f32 (absF x)) ∧ (r < wid .f32) ∧ Mod [] w w' := by
 refine Cl.of Try.func155 Try.ntmps155 rfl rfl (ρ := [(0, vF a)]) rfl ?_
 refine CE.seq (CE.region ?_)
 refine WD (op_assign rfl) rfl ?_
 refine WL.end (NE.code (CE.seq (CE.region ?_)))
 refine WD (op_move rfl) rfl ?_
 refine WL.op (op_widen (e := (wide x)) rfl ha Try.runUnderlying27 Try.runUnderlying78 rfl) rfl rfl (ltb rfl) ?_
 rintro _ w1 ⟨⟨f1, rfl, hf1, lf1⟩, m1⟩
 refine WL.call (oc_call (vs := [.float .f64 f1]) (cap := []) rfl rfl rfl Try.call158 (c_mathAbs f1 (wide x) hf1 lf1 w1)) rfl rfl (ltb rfl) ?_
 rintro _ _ ⟨rfl, rfl⟩
 refine WL.op (op_narrow (e := (absF x)) rfl (absD_congr hf1) Try.runUnderlying78 Try.runUnderlying27 (narrow_abs _)) rfl rfl (ltb rfl) ?_
 rintro _ w2 ⟨⟨f2, rfl, hf2, lf2⟩, m2⟩
 refine WD (op_assign rfl) rfl ?_
 refine WL.end (NE.code (CE.ret' ?_))
 refine XE.leave1 Try.results155 rfl ?_
 refine ⟨f2, rfl, hf2, lf2, (((Mod.refl [] w).nt m1).nt m2)⟩

theorem c_l01Abs (a : Nat) (x : Nat) (ha : cn .f32 a = cn .f32 x) (la : a < wid .f32) (w : World) : Cl Try.prog 98 #[vF a] w fun v w' => v = vF (absF a) ∧ w = w' := by
 refine Cl.of Try.func98 Try.ntmps98 rfl rfl (ρ := [(0, vF a)]) rfl ?_
 refine CE.seq (CE.region ?_)
 refine WD (op_assign rfl) rfl ?_
 refine WL.end (NE.code (CE.seq (CE.region ?_)))
 refine WD (op_move rfl) rfl ?_
 refine WD (op_extern (vs := [vF a]) Try.func144 rfl rfl x144n x144e rfl (fun _ => rfl)) rfl ?_
 refine WD (op_and31 rfl rfl la) rfl ?_
 refine WD (op_extern (vs := [.int .u32 ((absF a : Nat) : Int)]) Try.func143 rfl rfl x143n x143e rfl (fun _ => rfl)) rfl ?_
 refine WD (op_assign rfl) rfl ?_
 refine WL.end (NE.code (CE.ret' ?_))
 refine XE.leave1 Try.results98 rfl ?_
 refine ⟨rfl, rfl⟩

theorem c_FlushSample (a : Nat) (x : Nat) (ha : cn .f32 a = cn .f32 x) (la : a < wid .f32) (hn : isNaN .f32 x = false) (w : World) : Cl Try.prog 139 #[vF a] w fun v w' => v = vF (flushF x) ∧ Mod [] w w' := by
 refine Cl.of Try.func139 Try.ntmps139 rfl rfl (ρ := [(0, vF a)]) rfl ?_
 refine CE.seq (CE.region ?_)
 refine WD (op_assign rfl) rfl ?_
 refine WL.end (NE.code (CE.seq (CE.seq (CE.region ?_))))
 refine WD (op_move rfl) rfl ?_
 refine WL.call (oc_call (vs := [vF a]) (cap := []) rfl rfl rfl Try.call155 (c_absolute a x ha la w)) rfl rfl (ltb rfl) ?_
 rintro _ w1 ⟨r1, rfl, h1, h2, m1⟩
 refine WD (op_flt (c := fLt .f32 (absF x) 8388608) rfl rfl h1 rfl rfl) rfl ?_
 refine WL.end (NE.code ?_)
 rcases Bool.eq_false_or_eq_true (fLt .f32 (absF x) 8388608) with hb1 | hb1
 ·refine CE.cond_t rfl hb1 ?_
  refine CE.seq (CE.region ?_)
  refine WD (op_assign rfl) rfl ?_
  refine WL.end (NE.code (CE.ret' (XE.ret_then ?_)))
  refine XE.leave1 Try.results139 rfl ?_
  refine ⟨?_, ((Mod.refl [] w).nt m1)⟩
  all_goals (have e := eq_of_cn ha hn; subst e; simp_all [flushF, smallF])
 ·refine CE.cond_f rfl hb1 ?_
  refine CE.skip' (NE.code (CE.seq (CE.region ?_)))
  refine WD (op_move rfl) rfl ?_
  refine WD (op_assign rfl) rfl ?_
  refine WL.end (NE.code (CE.ret' ?_))
  refine XE.leave1 Try.results139 rfl ?_
  refine ⟨?_, ((Mod.refl [] w).nt m1)⟩
  all_goals (have e := eq_of_cn ha hn; subst e; simp_all [flushF, smallF])

theorem c_l01Flush (a : Nat) (x : Nat) (ha : cn .f32 a = cn .f32 x) (la : a < wid .f32) (hn : isNaN .f32 x = false) (w : World) : Cl Try.prog 140 #[vF a] w fun v w' => v = vF (flushF x) ∧ w = w' := by
 refine Cl.of Try.func140 Try.ntmps140 rfl rfl (ρ := [(0, vF a)]) rfl ?_
 refine CE.seq (CE.region ?_)
 refine WD (op_assign rfl) rfl ?_
 refine WL.end (NE.code (CE.seq (CE.seq (CE.region ?_))))
 refine WD (op_move rfl) rfl ?_
 refine WL.call (oc_call (vs := [vF a]) (cap := []) rfl rfl rfl Try.call98 (c_l01Abs a x ha la w)) rfl rfl (ltb rfl) ?_
 rintro _ _ ⟨rfl, rfl⟩
 refine WD (op_extern (vs := [.int .u32 8388608]) Try.func143 rfl rfl x143n x143e rfl (fun _ => rfl)) rfl ?_
 refine WD (op_flt (c := fLt .f32 (absF x) 8388608) rfl rfl (absF_congr ha) rfl rfl) rfl ?_
 refine WL.end (NE.code ?_)
 rcases Bool.eq_false_or_eq_true (fLt .f32 (absF x) 8388608) with hb1 | hb1
 ·refine CE.cond_t rfl hb1 ?_
  refine CE.seq (CE.region ?_)
  refine WD (op_assign rfl) rfl ?_
  refine WL.end (NE.code (CE.ret' (XE.ret_then ?_)))
  refine XE.leave1 Try.results140 rfl ?_
  refine ⟨?_, rfl⟩
  all_goals (have e := eq_of_cn ha hn; subst e; simp_all [flushF, smallF])
 ·refine CE.cond_f rfl hb1 ?_
  refine CE.skip' (NE.code (CE.seq (CE.region ?_)))
  refine WD (op_move rfl) rfl ?_
  refine WD (op_assign rfl) rfl ?_
  refine WL.end (NE.code (CE.ret' ?_))
  refine XE.leave1 Try.results140 rfl ?_
  refine ⟨?_, rfl⟩
  all_goals (have e := eq_of_cn ha hn; subst e; simp_all [flushF, smallF])

theorem c_kept (a : Nat) (x : Nat) (ha : cn .f32 a = cn .f32 x) (la : a < wid .f32) (w : World) : Cl Try.prog 93 #[vF a] w fun v w' => v = vF (keptF x) ∧ (keptF x < wid .f32) ∧ Mod [] w w' := by
 refine Cl.of Try.func93 Try.ntmps93 rfl rfl (ρ := [(0, vF a)]) rfl ?_
 refine CE.seq (CE.region ?_)
 refine WD (op_assign rfl) rfl ?_
 refine WL.end (NE.code (CE.seq (CE.seq (CE.region ?_))))
 refine WD (op_move rfl) rfl ?_
 refine WL.call (oc_call (vs := [vF a]) (cap := []) rfl rfl rfl Try.call92 (c_isFinite a x ha w)) rfl rfl (ltb rfl) ?_
 rintro _ w1 ⟨rfl, m1⟩
 refine WD (op_not rfl) rfl ?_
 refine WL.end (NE.code ?_)
 rcases Bool.eq_false_or_eq_true (finF x) with hb1 | hb1
 ·refine CE.cond_f rfl (bnot_t hb1) ?_
  refine CE.skip' (NE.code (CE.seq (CE.region ?_)))
  refine WD (op_move rfl) rfl ?_
  refine WL.call (oc_call (vs := [vF a]) (cap := []) rfl rfl rfl Try.call139 (c_FlushSample a x ha la (by first | assumption | exact finF_num (by assumption)) w1)) rfl rfl (ltb rfl) ?_
  rintro _ w2 ⟨rfl, m2⟩
  refine WD (op_assign rfl) rfl ?_
  refine WL.end (NE.code (CE.ret' ?_))
  refine XE.leave1 Try.results93 rfl ?_
  refine ⟨?_, ?_, (((Mod.refl [] w).nt m1).nt m2)⟩
  all_goals first | exact keptF_wid ha la | simp_all [keptF]
 ·refine CE.cond_t rfl (bnot_f hb1) ?_
  refine CE.seq (CE.region ?_)
  refine WD (op_assign rfl) rfl ?_
  refine WL.end (NE.code (CE.ret' (XE.ret_then ?_)))
  refine XE.leave1 Try.results93 rfl ?_
  refine ⟨?_, ?_, ((Mod.refl [] w).nt m1)⟩
  all_goals first | exact keptF_wid ha la | simp_all [keptF]

theorem c_l02Kept (a : Nat) (x : Nat) (ha : cn .f32 a = cn .f32 x) (la : a < wid .f32) (w : World) : Cl Try.prog 96 #[vF a] w fun v w' => v = vF (keptF x) ∧ (keptF x < wid .f32) ∧ Mod [] w w' := by
 refine Cl.of Try.func96 Try.ntmps96 rfl rfl (ρ := [(0, vF a)]) rfl ?_
 refine CE.seq (CE.region ?_)
 refine WD (op_assign rfl) rfl ?_
 refine WL.end (NE.code (CE.seq (CE.seq (CE.region ?_))))
 refine WD (op_move rfl) rfl ?_
 refine WL.call (oc_call (vs := [vF a]) (cap := []) rfl rfl rfl Try.call58 (c_l01Finite a x ha w)) rfl rfl (ltb rfl) ?_
 rintro _ w1 ⟨rfl, m1⟩
 refine WD (op_not rfl) rfl ?_
 refine WL.end (NE.code ?_)
 rcases Bool.eq_false_or_eq_true (finF x) with hb1 | hb1
 ·refine CE.cond_f rfl (bnot_t hb1) ?_
  refine CE.skip' (NE.code (CE.seq (CE.region ?_)))
  refine WD (op_move rfl) rfl ?_
  refine WL.call (oc_call (vs := [vF a]) (cap := []) rfl rfl rfl Try.call140 (c_l01Flush a x ha la (by first | assumption | exact finF_num (by assumption)) w1)) rfl rfl (ltb rfl) ?_
  rintro _ _ ⟨rfl, rfl⟩
  refine WD (op_assign rfl) rfl ?_
  refine WL.end (NE.code (CE.ret' ?_))
  refine XE.leave1 Try.results96 rfl ?_
  refine ⟨?_, ?_, ((Mod.refl [] w).nt m1)⟩
  all_goals first | exact keptF_wid ha la | simp_all [keptF]
 ·refine CE.cond_t rfl (bnot_f hb1) ?_
  refine CE.seq (CE.region ?_)
  refine WD (op_assign rfl) rfl ?_
  refine WL.end (NE.code (CE.ret' (XE.ret_then ?_)))
  refine XE.leave1 Try.results96 rfl ?_
  refine ⟨?_, ?_, ((Mod.refl [] w).nt m1)⟩
  all_goals first | exact keptF_wid ha la | simp_all [keptF]

theorem c_l01NaN (a : Nat) (x : Nat) (ha : cn .f32 a = cn .f32 x) (w : World) : Cl Try.prog 154 #[vF a] w fun v w' => v = .bool (isNaN .f32 x) ∧ w = w' := by
 refine Cl.of Try.func154 Try.ntmps154 rfl rfl (ρ := [(0, vF a)]) rfl ?_
 refine CE.seq (CE.region ?_)
 refine WD (op_assign rfl) rfl ?_
 refine WL.end (NE.code (CE.seq (CE.region ?_)))
 iterate 2 refine WD (op_move rfl) rfl ?_
 refine WD (op_fne (c := !(fEq .f32 x x)) rfl rfl ha ha rfl) rfl ?_
 refine WD (op_assign rfl) rfl ?_
 refine WL.end (NE.code (CE.ret' ?_))
 refine XE.leave1 Try.results154 rfl ?_
 refine ⟨?_, rfl⟩
 all_goals simp [fEq_self]

theorem c_bitsOf (a : Nat) (x : Nat) (ha : cn .f32 a = cn .f32 x) (w : World) : Cl Try.prog 159 #[vF a] w fun v w' => v = .int .u32 ((cn .f32 x : Nat) : Int) ∧ w = w' := by
 refine Cl.of Try.func159 Try.ntmps159 rfl rfl (ρ := [(0, vF a)]) rfl ?_
 refine CE.seq (CE.region ?_)
 refine WD (op_assign rfl) rfl ?_
 refine WL.end (NE.code (CE.seq (CE.seq (CE.region ?_))))
 iterate 2 refine WD (op_move rfl) rfl ?_
 refine WD (op_fne (c := !(fEq .f32 x x)) rfl rfl ha ha rfl) rfl ?_
 refine WL.end (NE.code ?_)
 rcases Bool.eq_false_or_eq_true (fEq .f32 x x) with hb1 | hb1
 ·refine CE.cond_f rfl (bnot_t hb1) ?_
  refine CE.skip' (NE.code (CE.seq (CE.region ?_)))
  refine WD (op_move rfl) rfl ?_
  refine WD (op_extern (vs := [vF a]) Try.func144 rfl rfl x144n x144e rfl (fun _ => rfl)) rfl ?_
  refine WD (op_assign rfl) rfl ?_
  refine WL.end (NE.code (CE.ret' ?_))
  refine XE.leave1 Try.results159 rfl ?_
  refine ⟨?_, rfl⟩
  all_goals (rw [fEq_self] at hb1; simp at hb1; first | (rw [cn, if_pos hb1]; rfl) | (rw [cn_of_not hb1, eq_of_cn ha hb1]))
 ·refine CE.cond_t rfl (bnot_f hb1) ?_
  refine CE.seq (CE.region ?_)
  refine WD (op_assign rfl) rfl ?_
  refine WL.end (NE.code (CE.ret' (XE.ret_then ?_)))
  refine XE.leave1 Try.results159 rfl ?_
  refine ⟨?_, rfl⟩
  all_goals (rw [fEq_self] at hb1; simp at hb1; first | (rw [cn, if_pos hb1]; rfl) | (rw [cn_of_not hb1, eq_of_cn ha hb1]))

theorem c_l01Same (a : Nat) (x : Nat) (b : Nat) (y : Nat) (ha : cn .f32 a = cn .f32 x) (hb : cn .f32 b = cn .f32 y) (w : World) : Cl Try.prog 128 #[vF a, vF b] w fun v w' => v = .bool (cn .f32 x == cn .f32 y) ∧ w = w' := by
 refine Cl.of Try.func128 Try.ntmps128 rfl rfl (ρ := [(0, vF a), (1, vF b)]) rfl ?_
 refine CE.seq (CE.region ?_)
 refine WD (op_assign rfl) rfl ?_
 refine WL.end (NE.code (CE.seq (CE.seq (CE.region ?_))))
 refine WD (op_move rfl) rfl ?_
 refine WL.call (oc_call (vs := [vF a]) (cap := []) rfl rfl rfl Try.call154 (c_l01NaN a x ha w)) rfl rfl (ltb rfl) ?_
 rintro _ _ ⟨rfl, rfl⟩
 refine WD (op_move rfl) rfl ?_
 rcases Bool.eq_false_or_eq_true (isNaN .f32 x) with hb1 | hb1
 ·refine WL.no rfl rfl rfl (ltb rfl) rfl hb1 rfl (ltb rfl) ?_
  refine WL.no rfl rfl rfl (ltb rfl) rfl hb1 rfl (ltb rfl) ?_
  refine WD (op_pick_t rfl hb1 rfl) rfl ?_
  refine WL.end (NE.code ?_)
  refine CE.cond_t rfl rfl ?_
  refine CE.seq (CE.region ?_)
  refine WD (op_move rfl) rfl ?_
  refine WL.call (oc_call (vs := [vF a]) (cap := []) rfl rfl rfl Try.call154 (c_l01NaN a x ha w)) rfl rfl (ltb rfl) ?_
  rintro _ _ ⟨rfl, rfl⟩
  refine WD (op_move rfl) rfl ?_
  refine WL.yes rfl rfl rfl (ltb rfl) rfl hb1 ?_
  refine WD (op_move rfl) rfl ?_
  refine WL.yes rfl rfl rfl (ltb rfl) rfl hb1 ?_
  refine WL.call (oc_call (vs := [vF b]) (cap := []) rfl rfl rfl Try.call154 (c_l01NaN b y hb w)) rfl rfl (ltb rfl) ?_
  rintro _ _ ⟨rfl, rfl⟩
  refine WD (op_pick_t rfl hb1 rfl) rfl ?_
  refine WD (op_assign rfl) rfl ?_
  refine WL.end (NE.code (CE.ret' (XE.ret_then ?_)))
  refine XE.leave1 Try.results128 rfl ?_
  refine ⟨?_, rfl⟩
  all_goals first | exact congrArg Value.bool (same_nan_l (by assumption) _) | exact congrArg Value.bool (same_nan_r (by assumption) (by assumption)) | exact congrArg Value.bool (same_num ha hb (by assumption) (by assumption))
 ·refine WL.yes rfl rfl rfl (ltb rfl) rfl hb1 ?_
  refine WD (op_move rfl) rfl ?_
  refine WL.yes rfl rfl rfl (ltb rfl) rfl hb1 ?_
  refine WL.call (oc_call (vs := [vF b]) (cap := []) rfl rfl rfl Try.call154 (c_l01NaN b y hb w)) rfl rfl (ltb rfl) ?_
  rintro _ _ ⟨rfl, rfl⟩
  refine WD (op_pick_f rfl hb1 rfl) rfl ?_
  refine WL.end (NE.code ?_)
  rcases Bool.eq_false_or_eq_true (isNaN .f32 y) with hb2 | hb2
  ·refine CE.cond_t rfl hb2 ?_
   refine CE.seq (CE.region ?_)
   refine WD (op_move rfl) rfl ?_
   refine WL.call (oc_call (vs := [vF a]) (cap := []) rfl rfl rfl Try.call154 (c_l01NaN a x ha w)) rfl rfl (ltb rfl) ?_
   rintro _ _ ⟨rfl, rfl⟩
   refine WD (op_move rfl) rfl ?_
   iterate 2 refine WL.no rfl rfl rfl (ltb rfl) rfl hb1 rfl (ltb rfl) ?_
   refine WD (op_pick_f rfl hb1 rfl) rfl ?_
   refine WD (op_assign rfl) rfl ?_
   refine WL.end (NE.code (CE.ret' (XE.ret_then ?_)))
   refine XE.leave1 Try.results128 rfl ?_
   refine ⟨?_, rfl⟩
   all_goals first | exact congrArg Value.bool (same_nan_l (by assumption) _) | exact congrArg Value.bool (same_nan_r (by assumption) (by assumption)) | exact congrArg Value.bool (same_num ha hb (by assumption) (by assumption))
  ·refine CE.cond_f rfl hb2 ?_
   refine CE.skip' (NE.code (CE.seq (CE.region ?_)))
   refine WD (op_move rfl) rfl ?_
   refine WD (op_extern (vs := [vF a]) Try.func144 rfl rfl x144n x144e rfl (fun _ => rfl)) rfl ?_
   refine WD (op_move rfl) rfl ?_
   refine WD (op_extern (vs := [vF b]) Try.func144 rfl rfl x144n x144e rfl (fun _ => rfl)) rfl ?_
   refine WD (op_eqi rfl rfl) rfl ?_
   refine WD (op_assign rfl) rfl ?_
   refine WL.end (NE.code (CE.ret' ?_))
   refine XE.leave1 Try.results128 rfl ?_
   refine ⟨?_, rfl⟩
   all_goals first | exact congrArg Value.bool (same_nan_l (by assumption) _) | exact congrArg Value.bool (same_nan_r (by assumption) (by assumption)) | exact congrArg Value.bool (same_num ha hb (by assumption) (by assumption))

end Go.Proofs.Ytnahhdnkbbdceaa
