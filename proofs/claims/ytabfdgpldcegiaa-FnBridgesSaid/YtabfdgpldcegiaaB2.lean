/- What the small functions on floats compute. -/
import Derived.Test.YtabfdgpldcegiaaB1
set_option linter.unusedVariables false
set_option linter.unusedSimpArgs false
namespace Go.Proofs.Ytabfdgpldcegiaa

theorem x121n : Extern.findNext Try.f121 = none := by kernel_rfl
theorem x121e : Extern.find Try.f121 = some Extern.MathFloatBits.float32bits := by kernel_rfl
theorem x158n : Extern.findNext Try.f158 = none := by kernel_rfl
theorem x158e : Extern.find Try.f158 = some Extern.MathFloatBits.float32frombits := by kernel_rfl
theorem x159n : Extern.findNext Try.f159 = none := by kernel_rfl
theorem x159e : Extern.find Try.f159 = some Extern.MathFloatBits.float64frombits := by kernel_rfl
theorem x160n : Extern.findNext Try.f160 = none := by kernel_rfl
theorem x160e : Extern.find Try.f160 = some Extern.MathFloatBits.float64bits := by kernel_rfl

set_option maxRecDepth 100000 in
set_option maxHeartbeats 2000000 in
theorem c_isFinite (a : Nat) (x : Nat) (ha : cn .f32 a = cn .f32 x) (w : World) : Cl Try.prog 64 #[vF a] w fun v w' => v = .bool (finF x) ∧ Mod [] w w' := by
  refine Cl.of Try.func64 Try.ntmps64 rfl rfl (ρ := [(0, vF a)]) rfl ?_
  refine CE.seq ?_
  refine CE.region ?_
  refine WL.det (op_assign rfl) rfl rfl rfl ?_
  refine WL.end ?_
  refine NE.code ?_
  refine CE.seq ?_
  refine CE.region ?_
  refine WL.det (op_move rfl) rfl rfl rfl ?_
  refine WL.det (op_move rfl) rfl rfl rfl ?_
  refine WL.op (op_farith (e := (fop .sub .f32 x x)) (.inr (.inl rfl)) rfl rfl ha ha rfl) rfl rfl (ltb rfl) ?_
  rintro _ w1 ⟨⟨f1, rfl, hf1, lf1⟩, m1⟩
  refine WL.det (op_feq (c := fEq .f32 (fop .sub .f32 x x) 0) rfl rfl hf1 rfl rfl) rfl rfl rfl ?_
  refine WL.det (op_assign rfl) rfl rfl rfl ?_
  refine WL.end ?_
  refine NE.code ?_
  refine CE.ret' ?_
  refine XE.leave1 Try.results64 rfl ?_
  refine ⟨?_, ((Mod.refl [] w).nt m1)⟩
  all_goals rfl

set_option maxRecDepth 100000 in
set_option maxHeartbeats 2000000 in
theorem c_l01Finite (a : Nat) (x : Nat) (ha : cn .f32 a = cn .f32 x) (w : World) : Cl Try.prog 71 #[vF a] w fun v w' => v = .bool (finF x) ∧ Mod [] w w' := by
  refine Cl.of Try.func71 Try.ntmps71 rfl rfl (ρ := [(0, vF a)]) rfl ?_
  refine CE.seq ?_
  refine CE.region ?_
  refine WL.det (op_assign rfl) rfl rfl rfl ?_
  refine WL.end ?_
  refine NE.code ?_
  refine CE.seq ?_
  refine CE.region ?_
  refine WL.det (op_move rfl) rfl rfl rfl ?_
  refine WL.det (op_move rfl) rfl rfl rfl ?_
  refine WL.op (op_farith (e := (fop .sub .f32 x x)) (.inr (.inl rfl)) rfl rfl ha ha rfl) rfl rfl (ltb rfl) ?_
  rintro _ w1 ⟨⟨f1, rfl, hf1, lf1⟩, m1⟩
  refine WL.det (op_feq (c := fEq .f32 (fop .sub .f32 x x) 0) rfl rfl hf1 rfl rfl) rfl rfl rfl ?_
  refine WL.det (op_assign rfl) rfl rfl rfl ?_
  refine WL.end ?_
  refine NE.code ?_
  refine CE.ret' ?_
  refine XE.leave1 Try.results71 rfl ?_
  refine ⟨?_, ((Mod.refl [] w).nt m1)⟩
  all_goals rfl

set_option maxRecDepth 100000 in
set_option maxHeartbeats 2000000 in
theorem c_mathAbs (a : Nat) (x : Nat) (ha : cn .f64 a = cn .f64 x) (la : a < wid .f64) (w : World) : Cl Try.prog 151 #[.float .f64 a] w fun v w' => v = .float .f64 (absD a) ∧ w = w' := by
  refine Cl.of Try.func151 Try.ntmps151 rfl rfl (ρ := [(0, .float .f64 a)]) rfl ?_
  refine CE.seq ?_
  refine CE.region ?_
  refine WL.det (op_assign rfl) rfl rfl rfl ?_
  refine WL.end ?_
  refine NE.code ?_
  refine CE.seq ?_
  refine CE.region ?_
  refine WL.det (op_move rfl) rfl rfl rfl ?_
  refine WL.det (op_extern (vs := [.float .f64 a]) Try.func160 rfl rfl x160n x160e rfl (fun _ => rfl)) rfl rfl rfl ?_
  refine WL.det (op_andnot63 rfl rfl la) rfl rfl rfl ?_
  refine WL.det (op_extern (vs := [.int .u64 ((absD a : Nat) : Int)]) Try.func159 rfl rfl x159n x159e rfl (fun _ => rfl)) rfl rfl rfl ?_
  refine WL.det (op_assign rfl) rfl rfl rfl ?_
  refine WL.end ?_
  refine NE.code ?_
  refine CE.ret' ?_
  refine XE.leave1 Try.results151 rfl ?_
  refine ⟨rfl, rfl⟩

set_option maxRecDepth 100000 in
set_option maxHeartbeats 2000000 in
theorem c_absolute (a : Nat) (x : Nat) (ha : cn .f32 a = cn .f32 x) (la : a < wid .f32) (w : World) : Cl Try.prog 156 #[vF a] w fun v w' => ∃ (r : Nat), v = vF r ∧ (cn .f32 r = cn .f32 (absF x)) ∧ (r < wid .f32) ∧ Mod [] w w' := by
  refine Cl.of Try.func156 Try.ntmps156 rfl rfl (ρ := [(0, vF a)]) rfl ?_
  refine CE.seq ?_
  refine CE.region ?_
  refine WL.det (op_assign rfl) rfl rfl rfl ?_
  refine WL.end ?_
  refine NE.code ?_
  refine CE.seq ?_
  refine CE.region ?_
  refine WL.det (op_move rfl) rfl rfl rfl ?_
  refine WL.op (op_widen (e := (wide x)) rfl ha Try.runUnderlying27 Try.runUnderlying67 rfl) rfl rfl (ltb rfl) ?_
  rintro _ w1 ⟨⟨f1, rfl, hf1, lf1⟩, m1⟩
  refine WL.call (oc_call (vs := [.float .f64 f1]) (cap := []) rfl rfl rfl Try.call151 (c_mathAbs f1 (wide x) hf1 lf1 w1)) rfl rfl (ltb rfl) ?_
  rintro _ _ ⟨rfl, rfl⟩
  refine WL.op (op_narrow (e := (absF x)) rfl (absD_congr hf1) Try.runUnderlying67 Try.runUnderlying27 (narrow_abs _)) rfl rfl (ltb rfl) ?_
  rintro _ w2 ⟨⟨f2, rfl, hf2, lf2⟩, m2⟩
  refine WL.det (op_assign rfl) rfl rfl rfl ?_
  refine WL.end ?_
  refine NE.code ?_
  refine CE.ret' ?_
  refine XE.leave1 Try.results156 rfl ?_
  refine ⟨f2, rfl, hf2, lf2, (((Mod.refl [] w).nt m1).nt m2)⟩

set_option maxRecDepth 100000 in
set_option maxHeartbeats 2000000 in
theorem c_l01Abs (a : Nat) (x : Nat) (ha : cn .f32 a = cn .f32 x) (la : a < wid .f32) (w : World) : Cl Try.prog 157 #[vF a] w fun v w' => v = vF (absF a) ∧ w = w' := by
  refine Cl.of Try.func157 Try.ntmps157 rfl rfl (ρ := [(0, vF a)]) rfl ?_
  refine CE.seq ?_
  refine CE.region ?_
  refine WL.det (op_assign rfl) rfl rfl rfl ?_
  refine WL.end ?_
  refine NE.code ?_
  refine CE.seq ?_
  refine CE.region ?_
  refine WL.det (op_move rfl) rfl rfl rfl ?_
  refine WL.det (op_extern (vs := [vF a]) Try.func121 rfl rfl x121n x121e rfl (fun _ => rfl)) rfl rfl rfl ?_
  refine WL.det (op_and31 rfl rfl la) rfl rfl rfl ?_
  refine WL.det (op_extern (vs := [.int .u32 ((absF a : Nat) : Int)]) Try.func158 rfl rfl x158n x158e rfl (fun _ => rfl)) rfl rfl rfl ?_
  refine WL.det (op_assign rfl) rfl rfl rfl ?_
  refine WL.end ?_
  refine NE.code ?_
  refine CE.ret' ?_
  refine XE.leave1 Try.results157 rfl ?_
  refine ⟨rfl, rfl⟩

set_option maxRecDepth 100000 in
set_option maxHeartbeats 2000000 in
theorem c_FlushSample (a : Nat) (x : Nat) (ha : cn .f32 a = cn .f32 x) (la : a < wid .f32) (hn : isNaN .f32 x = false) (w : World) : Cl Try.prog 148 #[vF a] w fun v w' => v = vF (flushF x) ∧ Mod [] w w' := by
  refine Cl.of Try.func148 Try.ntmps148 rfl rfl (ρ := [(0, vF a)]) rfl ?_
  refine CE.seq ?_
  refine CE.region ?_
  refine WL.det (op_assign rfl) rfl rfl rfl ?_
  refine WL.end ?_
  refine NE.code ?_
  refine CE.seq ?_
  refine CE.seq ?_
  refine CE.region ?_
  refine WL.det (op_move rfl) rfl rfl rfl ?_
  refine WL.call (oc_call (vs := [vF a]) (cap := []) rfl rfl rfl Try.call156 (c_absolute a x ha la w)) rfl rfl (ltb rfl) ?_
  rintro _ w1 ⟨r1, rfl, h1, h2, m1⟩
  refine WL.det (op_flt (c := fLt .f32 (absF x) 8388608) rfl rfl h1 rfl rfl) rfl rfl rfl ?_
  refine WL.end ?_
  refine NE.code ?_
  rcases Bool.eq_false_or_eq_true (fLt .f32 (absF x) 8388608) with hb1 | hb1
  · refine CE.cond_t rfl hb1 ?_
    refine CE.seq ?_
    refine CE.region ?_
    refine WL.det (op_assign rfl) rfl rfl rfl ?_
    refine WL.end ?_
    refine NE.code ?_
    refine CE.ret' ?_
    refine XE.ret_then ?_
    refine XE.leave1 Try.results148 rfl ?_
    refine ⟨?_, ((Mod.refl [] w).nt m1)⟩
    all_goals (have e := eq_of_cn ha hn; subst e; simp_all [flushF, smallF])
  · refine CE.cond_f rfl hb1 ?_
    refine CE.skip' ?_
    refine NE.code ?_
    refine CE.seq ?_
    refine CE.region ?_
    refine WL.det (op_move rfl) rfl rfl rfl ?_
    refine WL.det (op_assign rfl) rfl rfl rfl ?_
    refine WL.end ?_
    refine NE.code ?_
    refine CE.ret' ?_
    refine XE.leave1 Try.results148 rfl ?_
    refine ⟨?_, ((Mod.refl [] w).nt m1)⟩
    all_goals (have e := eq_of_cn ha hn; subst e; simp_all [flushF, smallF])

set_option maxRecDepth 100000 in
set_option maxHeartbeats 2000000 in
theorem c_l01Flush (a : Nat) (x : Nat) (ha : cn .f32 a = cn .f32 x) (la : a < wid .f32) (hn : isNaN .f32 x = false) (w : World) : Cl Try.prog 149 #[vF a] w fun v w' => v = vF (flushF x) ∧ w = w' := by
  refine Cl.of Try.func149 Try.ntmps149 rfl rfl (ρ := [(0, vF a)]) rfl ?_
  refine CE.seq ?_
  refine CE.region ?_
  refine WL.det (op_assign rfl) rfl rfl rfl ?_
  refine WL.end ?_
  refine NE.code ?_
  refine CE.seq ?_
  refine CE.seq ?_
  refine CE.region ?_
  refine WL.det (op_move rfl) rfl rfl rfl ?_
  refine WL.call (oc_call (vs := [vF a]) (cap := []) rfl rfl rfl Try.call157 (c_l01Abs a x ha la w)) rfl rfl (ltb rfl) ?_
  rintro _ _ ⟨rfl, rfl⟩
  refine WL.det (op_extern (vs := [.int .u32 8388608]) Try.func158 rfl rfl x158n x158e rfl (fun _ => rfl)) rfl rfl rfl ?_
  refine WL.det (op_flt (c := fLt .f32 (absF x) 8388608) rfl rfl (absF_congr ha) rfl rfl) rfl rfl rfl ?_
  refine WL.end ?_
  refine NE.code ?_
  rcases Bool.eq_false_or_eq_true (fLt .f32 (absF x) 8388608) with hb1 | hb1
  · refine CE.cond_t rfl hb1 ?_
    refine CE.seq ?_
    refine CE.region ?_
    refine WL.det (op_assign rfl) rfl rfl rfl ?_
    refine WL.end ?_
    refine NE.code ?_
    refine CE.ret' ?_
    refine XE.ret_then ?_
    refine XE.leave1 Try.results149 rfl ?_
    refine ⟨?_, rfl⟩
    all_goals (have e := eq_of_cn ha hn; subst e; simp_all [flushF, smallF])
  · refine CE.cond_f rfl hb1 ?_
    refine CE.skip' ?_
    refine NE.code ?_
    refine CE.seq ?_
    refine CE.region ?_
    refine WL.det (op_move rfl) rfl rfl rfl ?_
    refine WL.det (op_assign rfl) rfl rfl rfl ?_
    refine WL.end ?_
    refine NE.code ?_
    refine CE.ret' ?_
    refine XE.leave1 Try.results149 rfl ?_
    refine ⟨?_, rfl⟩
    all_goals (have e := eq_of_cn ha hn; subst e; simp_all [flushF, smallF])

set_option maxRecDepth 100000 in
set_option maxHeartbeats 2000000 in
theorem c_kept (a : Nat) (x : Nat) (ha : cn .f32 a = cn .f32 x) (la : a < wid .f32) (w : World) : Cl Try.prog 126 #[vF a] w fun v w' => v = vF (keptF x) ∧ (keptF x < wid .f32) ∧ Mod [] w w' := by
  refine Cl.of Try.func126 Try.ntmps126 rfl rfl (ρ := [(0, vF a)]) rfl ?_
  refine CE.seq ?_
  refine CE.region ?_
  refine WL.det (op_assign rfl) rfl rfl rfl ?_
  refine WL.end ?_
  refine NE.code ?_
  refine CE.seq ?_
  refine CE.seq ?_
  refine CE.region ?_
  refine WL.det (op_move rfl) rfl rfl rfl ?_
  refine WL.call (oc_call (vs := [vF a]) (cap := []) rfl rfl rfl Try.call64 (c_isFinite a x ha w)) rfl rfl (ltb rfl) ?_
  rintro _ w1 ⟨rfl, m1⟩
  refine WL.det (op_not rfl) rfl rfl rfl ?_
  refine WL.end ?_
  refine NE.code ?_
  rcases Bool.eq_false_or_eq_true (finF x) with hb1 | hb1
  · refine CE.cond_f rfl (bnot_t hb1) ?_
    refine CE.skip' ?_
    refine NE.code ?_
    refine CE.seq ?_
    refine CE.region ?_
    refine WL.det (op_move rfl) rfl rfl rfl ?_
    refine WL.call (oc_call (vs := [vF a]) (cap := []) rfl rfl rfl Try.call148 (c_FlushSample a x ha la (by first | assumption | exact finF_num (by assumption)) w1)) rfl rfl (ltb rfl) ?_
    rintro _ w2 ⟨rfl, m2⟩
    refine WL.det (op_assign rfl) rfl rfl rfl ?_
    refine WL.end ?_
    refine NE.code ?_
    refine CE.ret' ?_
    refine XE.leave1 Try.results126 rfl ?_
    refine ⟨?_, ?_, (((Mod.refl [] w).nt m1).nt m2)⟩
    all_goals first | exact keptF_wid ha la | simp_all [keptF]
  · refine CE.cond_t rfl (bnot_f hb1) ?_
    refine CE.seq ?_
    refine CE.region ?_
    refine WL.det (op_assign rfl) rfl rfl rfl ?_
    refine WL.end ?_
    refine NE.code ?_
    refine CE.ret' ?_
    refine XE.ret_then ?_
    refine XE.leave1 Try.results126 rfl ?_
    refine ⟨?_, ?_, ((Mod.refl [] w).nt m1)⟩
    all_goals first | exact keptF_wid ha la | simp_all [keptF]

set_option maxRecDepth 100000 in
set_option maxHeartbeats 2000000 in
theorem c_l02Kept (a : Nat) (x : Nat) (ha : cn .f32 a = cn .f32 x) (la : a < wid .f32) (w : World) : Cl Try.prog 130 #[vF a] w fun v w' => v = vF (keptF x) ∧ (keptF x < wid .f32) ∧ Mod [] w w' := by
  refine Cl.of Try.func130 Try.ntmps130 rfl rfl (ρ := [(0, vF a)]) rfl ?_
  refine CE.seq ?_
  refine CE.region ?_
  refine WL.det (op_assign rfl) rfl rfl rfl ?_
  refine WL.end ?_
  refine NE.code ?_
  refine CE.seq ?_
  refine CE.seq ?_
  refine CE.region ?_
  refine WL.det (op_move rfl) rfl rfl rfl ?_
  refine WL.call (oc_call (vs := [vF a]) (cap := []) rfl rfl rfl Try.call71 (c_l01Finite a x ha w)) rfl rfl (ltb rfl) ?_
  rintro _ w1 ⟨rfl, m1⟩
  refine WL.det (op_not rfl) rfl rfl rfl ?_
  refine WL.end ?_
  refine NE.code ?_
  rcases Bool.eq_false_or_eq_true (finF x) with hb1 | hb1
  · refine CE.cond_f rfl (bnot_t hb1) ?_
    refine CE.skip' ?_
    refine NE.code ?_
    refine CE.seq ?_
    refine CE.region ?_
    refine WL.det (op_move rfl) rfl rfl rfl ?_
    refine WL.call (oc_call (vs := [vF a]) (cap := []) rfl rfl rfl Try.call149 (c_l01Flush a x ha la (by first | assumption | exact finF_num (by assumption)) w1)) rfl rfl (ltb rfl) ?_
    rintro _ _ ⟨rfl, rfl⟩
    refine WL.det (op_assign rfl) rfl rfl rfl ?_
    refine WL.end ?_
    refine NE.code ?_
    refine CE.ret' ?_
    refine XE.leave1 Try.results130 rfl ?_
    refine ⟨?_, ?_, ((Mod.refl [] w).nt m1)⟩
    all_goals first | exact keptF_wid ha la | simp_all [keptF]
  · refine CE.cond_t rfl (bnot_f hb1) ?_
    refine CE.seq ?_
    refine CE.region ?_
    refine WL.det (op_assign rfl) rfl rfl rfl ?_
    refine WL.end ?_
    refine NE.code ?_
    refine CE.ret' ?_
    refine XE.ret_then ?_
    refine XE.leave1 Try.results130 rfl ?_
    refine ⟨?_, ?_, ((Mod.refl [] w).nt m1)⟩
    all_goals first | exact keptF_wid ha la | simp_all [keptF]

set_option maxRecDepth 100000 in
set_option maxHeartbeats 2000000 in
theorem c_l01NaN (a : Nat) (x : Nat) (ha : cn .f32 a = cn .f32 x) (w : World) : Cl Try.prog 120 #[vF a] w fun v w' => v = .bool (isNaN .f32 x) ∧ w = w' := by
  refine Cl.of Try.func120 Try.ntmps120 rfl rfl (ρ := [(0, vF a)]) rfl ?_
  refine CE.seq ?_
  refine CE.region ?_
  refine WL.det (op_assign rfl) rfl rfl rfl ?_
  refine WL.end ?_
  refine NE.code ?_
  refine CE.seq ?_
  refine CE.region ?_
  refine WL.det (op_move rfl) rfl rfl rfl ?_
  refine WL.det (op_move rfl) rfl rfl rfl ?_
  refine WL.det (op_fne (c := !(fEq .f32 x x)) rfl rfl ha ha rfl) rfl rfl rfl ?_
  refine WL.det (op_assign rfl) rfl rfl rfl ?_
  refine WL.end ?_
  refine NE.code ?_
  refine CE.ret' ?_
  refine XE.leave1 Try.results120 rfl ?_
  refine ⟨?_, rfl⟩
  all_goals simp [fEq_self]

set_option maxRecDepth 100000 in
set_option maxHeartbeats 2000000 in
theorem c_bitsOf (a : Nat) (x : Nat) (ha : cn .f32 a = cn .f32 x) (w : World) : Cl Try.prog 104 #[vF a] w fun v w' => v = .int .u32 ((cn .f32 x : Nat) : Int) ∧ w = w' := by
  refine Cl.of Try.func104 Try.ntmps104 rfl rfl (ρ := [(0, vF a)]) rfl ?_
  refine CE.seq ?_
  refine CE.region ?_
  refine WL.det (op_assign rfl) rfl rfl rfl ?_
  refine WL.end ?_
  refine NE.code ?_
  refine CE.seq ?_
  refine CE.seq ?_
  refine CE.region ?_
  refine WL.det (op_move rfl) rfl rfl rfl ?_
  refine WL.det (op_move rfl) rfl rfl rfl ?_
  refine WL.det (op_fne (c := !(fEq .f32 x x)) rfl rfl ha ha rfl) rfl rfl rfl ?_
  refine WL.end ?_
  refine NE.code ?_
  rcases Bool.eq_false_or_eq_true (fEq .f32 x x) with hb1 | hb1
  · refine CE.cond_f rfl (bnot_t hb1) ?_
    refine CE.skip' ?_
    refine NE.code ?_
    refine CE.seq ?_
    refine CE.region ?_
    refine WL.det (op_move rfl) rfl rfl rfl ?_
    refine WL.det (op_extern (vs := [vF a]) Try.func121 rfl rfl x121n x121e rfl (fun _ => rfl)) rfl rfl rfl ?_
    refine WL.det (op_assign rfl) rfl rfl rfl ?_
    refine WL.end ?_
    refine NE.code ?_
    refine CE.ret' ?_
    refine XE.leave1 Try.results104 rfl ?_
    refine ⟨?_, rfl⟩
    all_goals (rw [fEq_self] at hb1; simp at hb1; first | (rw [cn, if_pos hb1]; rfl) | (rw [cn_of_not hb1, eq_of_cn ha hb1]))
  · refine CE.cond_t rfl (bnot_f hb1) ?_
    refine CE.seq ?_
    refine CE.region ?_
    refine WL.det (op_assign rfl) rfl rfl rfl ?_
    refine WL.end ?_
    refine NE.code ?_
    refine CE.ret' ?_
    refine XE.ret_then ?_
    refine XE.leave1 Try.results104 rfl ?_
    refine ⟨?_, rfl⟩
    all_goals (rw [fEq_self] at hb1; simp at hb1; first | (rw [cn, if_pos hb1]; rfl) | (rw [cn_of_not hb1, eq_of_cn ha hb1]))

set_option maxRecDepth 100000 in
set_option maxHeartbeats 2000000 in
theorem c_l01Same (a : Nat) (x : Nat) (b : Nat) (y : Nat) (ha : cn .f32 a = cn .f32 x) (hb : cn .f32 b = cn .f32 y) (w : World) : Cl Try.prog 77 #[vF a, vF b] w fun v w' => v = .bool (cn .f32 x == cn .f32 y) ∧ w = w' := by
  refine Cl.of Try.func77 Try.ntmps77 rfl rfl (ρ := [(0, vF a), (1, vF b)]) rfl ?_
  refine CE.seq ?_
  refine CE.region ?_
  refine WL.det (op_assign rfl) rfl rfl rfl ?_
  refine WL.end ?_
  refine NE.code ?_
  refine CE.seq ?_
  refine CE.seq ?_
  refine CE.region ?_
  refine WL.det (op_move rfl) rfl rfl rfl ?_
  refine WL.call (oc_call (vs := [vF a]) (cap := []) rfl rfl rfl Try.call120 (c_l01NaN a x ha w)) rfl rfl (ltb rfl) ?_
  rintro _ _ ⟨rfl, rfl⟩
  refine WL.det (op_move rfl) rfl rfl rfl ?_
  rcases Bool.eq_false_or_eq_true (isNaN .f32 x) with hb1 | hb1
  · refine WL.no rfl rfl rfl (ltb rfl) rfl hb1 rfl (ltb rfl) ?_
    refine WL.no rfl rfl rfl (ltb rfl) rfl hb1 rfl (ltb rfl) ?_
    refine WL.det (op_pick_t rfl hb1 rfl) rfl rfl rfl ?_
    refine WL.end ?_
    refine NE.code ?_
    refine CE.cond_t rfl rfl ?_
    refine CE.seq ?_
    refine CE.region ?_
    refine WL.det (op_move rfl) rfl rfl rfl ?_
    refine WL.call (oc_call (vs := [vF a]) (cap := []) rfl rfl rfl Try.call120 (c_l01NaN a x ha w)) rfl rfl (ltb rfl) ?_
    rintro _ _ ⟨rfl, rfl⟩
    refine WL.det (op_move rfl) rfl rfl rfl ?_
    refine WL.yes rfl rfl rfl (ltb rfl) rfl hb1 ?_
    refine WL.det (op_move rfl) rfl rfl rfl ?_
    refine WL.yes rfl rfl rfl (ltb rfl) rfl hb1 ?_
    refine WL.call (oc_call (vs := [vF b]) (cap := []) rfl rfl rfl Try.call120 (c_l01NaN b y hb w)) rfl rfl (ltb rfl) ?_
    rintro _ _ ⟨rfl, rfl⟩
    refine WL.det (op_pick_t rfl hb1 rfl) rfl rfl rfl ?_
    refine WL.det (op_assign rfl) rfl rfl rfl ?_
    refine WL.end ?_
    refine NE.code ?_
    refine CE.ret' ?_
    refine XE.ret_then ?_
    refine XE.leave1 Try.results77 rfl ?_
    refine ⟨?_, rfl⟩
    all_goals first | exact congrArg Value.bool (same_nan_l (by assumption) _) | exact congrArg Value.bool (same_nan_r (by assumption) (by assumption)) | exact congrArg Value.bool (same_num ha hb (by assumption) (by assumption))
  · refine WL.yes rfl rfl rfl (ltb rfl) rfl hb1 ?_
    refine WL.det (op_move rfl) rfl rfl rfl ?_
    refine WL.yes rfl rfl rfl (ltb rfl) rfl hb1 ?_
    refine WL.call (oc_call (vs := [vF b]) (cap := []) rfl rfl rfl Try.call120 (c_l01NaN b y hb w)) rfl rfl (ltb rfl) ?_
    rintro _ _ ⟨rfl, rfl⟩
    refine WL.det (op_pick_f rfl hb1 rfl) rfl rfl rfl ?_
    refine WL.end ?_
    refine NE.code ?_
    rcases Bool.eq_false_or_eq_true (isNaN .f32 y) with hb2 | hb2
    · refine CE.cond_t rfl hb2 ?_
      refine CE.seq ?_
      refine CE.region ?_
      refine WL.det (op_move rfl) rfl rfl rfl ?_
      refine WL.call (oc_call (vs := [vF a]) (cap := []) rfl rfl rfl Try.call120 (c_l01NaN a x ha w)) rfl rfl (ltb rfl) ?_
      rintro _ _ ⟨rfl, rfl⟩
      refine WL.det (op_move rfl) rfl rfl rfl ?_
      refine WL.no rfl rfl rfl (ltb rfl) rfl hb1 rfl (ltb rfl) ?_
      refine WL.no rfl rfl rfl (ltb rfl) rfl hb1 rfl (ltb rfl) ?_
      refine WL.det (op_pick_f rfl hb1 rfl) rfl rfl rfl ?_
      refine WL.det (op_assign rfl) rfl rfl rfl ?_
      refine WL.end ?_
      refine NE.code ?_
      refine CE.ret' ?_
      refine XE.ret_then ?_
      refine XE.leave1 Try.results77 rfl ?_
      refine ⟨?_, rfl⟩
      all_goals first | exact congrArg Value.bool (same_nan_l (by assumption) _) | exact congrArg Value.bool (same_nan_r (by assumption) (by assumption)) | exact congrArg Value.bool (same_num ha hb (by assumption) (by assumption))
    · refine CE.cond_f rfl hb2 ?_
      refine CE.skip' ?_
      refine NE.code ?_
      refine CE.seq ?_
      refine CE.region ?_
      refine WL.det (op_move rfl) rfl rfl rfl ?_
      refine WL.det (op_extern (vs := [vF a]) Try.func121 rfl rfl x121n x121e rfl (fun _ => rfl)) rfl rfl rfl ?_
      refine WL.det (op_move rfl) rfl rfl rfl ?_
      refine WL.det (op_extern (vs := [vF b]) Try.func121 rfl rfl x121n x121e rfl (fun _ => rfl)) rfl rfl rfl ?_
      refine WL.det (op_eqi rfl rfl) rfl rfl rfl ?_
      refine WL.det (op_assign rfl) rfl rfl rfl ?_
      refine WL.end ?_
      refine NE.code ?_
      refine CE.ret' ?_
      refine XE.leave1 Try.results77 rfl ?_
      refine ⟨?_, rfl⟩
      all_goals first | exact congrArg Value.bool (same_nan_l (by assumption) _) | exact congrArg Value.bool (same_nan_r (by assumption) (by assumption)) | exact congrArg Value.bool (same_num ha hb (by assumption) (by assumption))

end Go.Proofs.Ytabfdgpldcegiaa
