/- What the small functions on floats compute. -/
import Derived.Test.YtemnjphnhmbddaaB1
set_option linter.unusedVariables false
set_option linter.unusedSimpArgs false
namespace Go.Proofs.Ytemnjphnhmbddaa

theorem x64n : Extern.findNext Try.f64 = none := by kernel_rfl
theorem x64e : Extern.find Try.f64 = some Extern.MathFloatBits.float32bits := by kernel_rfl
theorem x65n : Extern.findNext Try.f65 = none := by kernel_rfl
theorem x65e : Extern.find Try.f65 = some Extern.MathFloatBits.float64frombits := by kernel_rfl
theorem x66n : Extern.findNext Try.f66 = none := by kernel_rfl
theorem x66e : Extern.find Try.f66 = some Extern.MathFloatBits.float64bits := by kernel_rfl

set_option maxRecDepth 100000 in
set_option maxHeartbeats 2000000 in
theorem c_isFinite (a : Nat) (x : Nat) (ha : cn .f32 a = cn .f32 x) (w : World) : Cl Try.prog 20 #[vF a] w fun v w' => v = .bool (finF x) ∧ Mod [] w w' := by
  refine Cl.of Try.func20 Try.ntmps20 rfl rfl (ρ := [(0, vF a)]) rfl ?_
  refine CE.seq ?_
  refine CE.region ?_
  refine WL.det (op_assign rfl) rfl rfl rfl ?_
  refine WL.end ?_
  refine NE.code ?_
  refine CE.seq ?_
  refine CE.region ?_
  refine WL.det (op_move rfl) rfl rfl rfl ?_
  refine WL.det (op_move rfl) rfl rfl rfl ?_
  refine WL.op (op_farith (e := (fop .sub .f32 x x)) (.inr (.inl rfl)) rfl rfl ha ha rfl) rfl rfl (ltb rfl) ?_
  rintro _ w1 ⟨⟨f1, rfl, hf1, lf1⟩, m1⟩
  refine WL.det (op_feq (c := fEq .f32 (fop .sub .f32 x x) 0) rfl rfl hf1 rfl rfl) rfl rfl rfl ?_
  refine WL.det (op_assign rfl) rfl rfl rfl ?_
  refine WL.end ?_
  refine NE.code ?_
  refine CE.ret' ?_
  refine XE.leave1 Try.results20 rfl ?_
  refine ⟨?_, ((Mod.refl [] w).nt m1)⟩
  all_goals rfl

set_option maxRecDepth 100000 in
set_option maxHeartbeats 2000000 in
theorem c_mathAbs (a : Nat) (x : Nat) (ha : cn .f64 a = cn .f64 x) (la : a < wid .f64) (w : World) : Cl Try.prog 63 #[.float .f64 a] w fun v w' => v = .float .f64 (absD a) ∧ w = w' := by
  refine Cl.of Try.func63 Try.ntmps63 rfl rfl (ρ := [(0, .float .f64 a)]) rfl ?_
  refine CE.seq ?_
  refine CE.region ?_
  refine WL.det (op_assign rfl) rfl rfl rfl ?_
  refine WL.end ?_
  refine NE.code ?_
  refine CE.seq ?_
  refine CE.region ?_
  refine WL.det (op_move rfl) rfl rfl rfl ?_
  refine WL.det (op_extern (vs := [.float .f64 a]) Try.func66 rfl rfl x66n x66e rfl (fun _ => rfl)) rfl rfl rfl ?_
  refine WL.det (op_andnot63 rfl rfl la) rfl rfl rfl ?_
  refine WL.det (op_extern (vs := [.int .u64 ((absD a : Nat) : Int)]) Try.func65 rfl rfl x65n x65e rfl (fun _ => rfl)) rfl rfl rfl ?_
  refine WL.det (op_assign rfl) rfl rfl rfl ?_
  refine WL.end ?_
  refine NE.code ?_
  refine CE.ret' ?_
  refine XE.leave1 Try.results63 rfl ?_
  refine ⟨rfl, rfl⟩

set_option maxRecDepth 100000 in
set_option maxHeartbeats 2000000 in
theorem c_absolute (a : Nat) (x : Nat) (ha : cn .f32 a = cn .f32 x) (la : a < wid .f32) (w : World) : Cl Try.prog 61 #[vF a] w fun v w' => ∃ (r : Nat), v = vF r ∧ (cn .f32 r = cn .f32 (absF x)) ∧ (r < wid .f32) ∧ Mod [] w w' := by
  refine Cl.of Try.func61 Try.ntmps61 rfl rfl (ρ := [(0, vF a)]) rfl ?_
  refine CE.seq ?_
  refine CE.region ?_
  refine WL.det (op_assign rfl) rfl rfl rfl ?_
  refine WL.end ?_
  refine NE.code ?_
  refine CE.seq ?_
  refine CE.region ?_
  refine WL.det (op_move rfl) rfl rfl rfl ?_
  refine WL.op (op_widen (e := (wide x)) rfl ha Try.runUnderlying24 Try.runUnderlying68 rfl) rfl rfl (ltb rfl) ?_
  rintro _ w1 ⟨⟨f1, rfl, hf1, lf1⟩, m1⟩
  refine WL.call (oc_call (vs := [.float .f64 f1]) (cap := []) rfl rfl rfl Try.call63 (c_mathAbs f1 (wide x) hf1 lf1 w1)) rfl rfl (ltb rfl) ?_
  rintro _ _ ⟨rfl, rfl⟩
  refine WL.op (op_narrow (e := (absF x)) rfl (absD_congr hf1) Try.runUnderlying68 Try.runUnderlying24 (narrow_abs _)) rfl rfl (ltb rfl) ?_
  rintro _ w2 ⟨⟨f2, rfl, hf2, lf2⟩, m2⟩
  refine WL.det (op_assign rfl) rfl rfl rfl ?_
  refine WL.end ?_
  refine NE.code ?_
  refine CE.ret' ?_
  refine XE.leave1 Try.results61 rfl ?_
  refine ⟨f2, rfl, hf2, lf2, (((Mod.refl [] w).nt m1).nt m2)⟩

set_option maxRecDepth 100000 in
set_option maxHeartbeats 2000000 in
theorem c_FlushSample (a : Nat) (x : Nat) (ha : cn .f32 a = cn .f32 x) (la : a < wid .f32) (hn : isNaN .f32 x = false) (w : World) : Cl Try.prog 57 #[vF a] w fun v w' => v = vF (flushF x) ∧ Mod [] w w' := by
  refine Cl.of Try.func57 Try.ntmps57 rfl rfl (ρ := [(0, vF a)]) rfl ?_
  refine CE.seq ?_
  refine CE.region ?_
  refine WL.det (op_assign rfl) rfl rfl rfl ?_
  refine WL.end ?_
  refine NE.code ?_
  refine CE.seq ?_
  refine CE.seq ?_
  refine CE.region ?_
  refine WL.det (op_move rfl) rfl rfl rfl ?_
  refine WL.call (oc_call (vs := [vF a]) (cap := []) rfl rfl rfl Try.call61 (c_absolute a x ha la w)) rfl rfl (ltb rfl) ?_
  rintro _ w1 ⟨r1, rfl, h1, h2, m1⟩
  refine WL.det (op_flt (c := fLt .f32 (absF x) 8388608) rfl rfl h1 rfl rfl) rfl rfl rfl ?_
  refine WL.end ?_
  refine NE.code ?_
  rcases Bool.eq_false_or_eq_true (fLt .f32 (absF x) 8388608) with hb1 | hb1
  · refine CE.cond_t rfl hb1 ?_
    refine CE.seq ?_
    refine CE.region ?_
    refine WL.det (op_assign rfl) rfl rfl rfl ?_
    refine WL.end ?_
    refine NE.code ?_
    refine CE.ret' ?_
    refine XE.ret_then ?_
    refine XE.leave1 Try.results57 rfl ?_
    refine ⟨?_, ((Mod.refl [] w).nt m1)⟩
    all_goals (have e := eq_of_cn ha hn; subst e; simp_all [flushF, smallF])
  · refine CE.cond_f rfl hb1 ?_
    refine CE.skip' ?_
    refine NE.code ?_
    refine CE.seq ?_
    refine CE.region ?_
    refine WL.det (op_move rfl) rfl rfl rfl ?_
    refine WL.det (op_assign rfl) rfl rfl rfl ?_
    refine WL.end ?_
    refine NE.code ?_
    refine CE.ret' ?_
    refine XE.leave1 Try.results57 rfl ?_
    refine ⟨?_, ((Mod.refl [] w).nt m1)⟩
    all_goals (have e := eq_of_cn ha hn; subst e; simp_all [flushF, smallF])

set_option maxRecDepth 100000 in
set_option maxHeartbeats 2000000 in
theorem c_kept (a : Nat) (x : Nat) (ha : cn .f32 a = cn .f32 x) (la : a < wid .f32) (w : World) : Cl Try.prog 46 #[vF a] w fun v w' => v = vF (keptF x) ∧ (keptF x < wid .f32) ∧ Mod [] w w' := by
  refine Cl.of Try.func46 Try.ntmps46 rfl rfl (ρ := [(0, vF a)]) rfl ?_
  refine CE.seq ?_
  refine CE.region ?_
  refine WL.det (op_assign rfl) rfl rfl rfl ?_
  refine WL.end ?_
  refine NE.code ?_
  refine CE.seq ?_
  refine CE.seq ?_
  refine CE.region ?_
  refine WL.det (op_move rfl) rfl rfl rfl ?_
  refine WL.call (oc_call (vs := [vF a]) (cap := []) rfl rfl rfl Try.call20 (c_isFinite a x ha w)) rfl rfl (ltb rfl) ?_
  rintro _ w1 ⟨rfl, m1⟩
  refine WL.det (op_not rfl) rfl rfl rfl ?_
  refine WL.end ?_
  refine NE.code ?_
  rcases Bool.eq_false_or_eq_true (finF x) with hb1 | hb1
  · refine CE.cond_f rfl (bnot_t hb1) ?_
    refine CE.skip' ?_
    refine NE.code ?_
    refine CE.seq ?_
    refine CE.region ?_
    refine WL.det (op_move rfl) rfl rfl rfl ?_
    refine WL.call (oc_call (vs := [vF a]) (cap := []) rfl rfl rfl Try.call57 (c_FlushSample a x ha la (by first | assumption | exact finF_num (by assumption)) w1)) rfl rfl (ltb rfl) ?_
    rintro _ w2 ⟨rfl, m2⟩
    refine WL.det (op_assign rfl) rfl rfl rfl ?_
    refine WL.end ?_
    refine NE.code ?_
    refine CE.ret' ?_
    refine XE.leave1 Try.results46 rfl ?_
    refine ⟨?_, ?_, (((Mod.refl [] w).nt m1).nt m2)⟩
    all_goals first | exact keptF_wid ha la | simp_all [keptF]
  · refine CE.cond_t rfl (bnot_f hb1) ?_
    refine CE.seq ?_
    refine CE.region ?_
    refine WL.det (op_assign rfl) rfl rfl rfl ?_
    refine WL.end ?_
    refine NE.code ?_
    refine CE.ret' ?_
    refine XE.ret_then ?_
    refine XE.leave1 Try.results46 rfl ?_
    refine ⟨?_, ?_, ((Mod.refl [] w).nt m1)⟩
    all_goals first | exact keptF_wid ha la | simp_all [keptF]

set_option maxRecDepth 100000 in
set_option maxHeartbeats 2000000 in
theorem c_bitsOf (a : Nat) (x : Nat) (ha : cn .f32 a = cn .f32 x) (w : World) : Cl Try.prog 62 #[vF a] w fun v w' => v = .int .u32 ((cn .f32 x : Nat) : Int) ∧ w = w' := by
  refine Cl.of Try.func62 Try.ntmps62 rfl rfl (ρ := [(0, vF a)]) rfl ?_
  refine CE.seq ?_
  refine CE.region ?_
  refine WL.det (op_assign rfl) rfl rfl rfl ?_
  refine WL.end ?_
  refine NE.code ?_
  refine CE.seq ?_
  refine CE.seq ?_
  refine CE.region ?_
  refine WL.det (op_move rfl) rfl rfl rfl ?_
  refine WL.det (op_move rfl) rfl rfl rfl ?_
  refine WL.det (op_fne (c := !(fEq .f32 x x)) rfl rfl ha ha rfl) rfl rfl rfl ?_
  refine WL.end ?_
  refine NE.code ?_
  rcases Bool.eq_false_or_eq_true (fEq .f32 x x) with hb1 | hb1
  · refine CE.cond_f rfl (bnot_t hb1) ?_
    refine CE.skip' ?_
    refine NE.code ?_
    refine CE.seq ?_
    refine CE.region ?_
    refine WL.det (op_move rfl) rfl rfl rfl ?_
    refine WL.det (op_extern (vs := [vF a]) Try.func64 rfl rfl x64n x64e rfl (fun _ => rfl)) rfl rfl rfl ?_
    refine WL.det (op_assign rfl) rfl rfl rfl ?_
    refine WL.end ?_
    refine NE.code ?_
    refine CE.ret' ?_
    refine XE.leave1 Try.results62 rfl ?_
    refine ⟨?_, rfl⟩
    all_goals (rw [fEq_self] at hb1; simp at hb1; first | (rw [cn, if_pos hb1]; rfl) | (rw [cn_of_not hb1, eq_of_cn ha hb1]))
  · refine CE.cond_t rfl (bnot_f hb1) ?_
    refine CE.seq ?_
    refine CE.region ?_
    refine WL.det (op_assign rfl) rfl rfl rfl ?_
    refine WL.end ?_
    refine NE.code ?_
    refine CE.ret' ?_
    refine XE.ret_then ?_
    refine XE.leave1 Try.results62 rfl ?_
    refine ⟨?_, rfl⟩
    all_goals (rw [fEq_self] at hb1; simp at hb1; first | (rw [cn, if_pos hb1]; rfl) | (rw [cn_of_not hb1, eq_of_cn ha hb1]))

end Go.Proofs.Ytemnjphnhmbddaa
