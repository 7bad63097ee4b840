/- What the small functions on floats compute. -/
import Derived.Test.YtpjjnopjpgnlaaaDoorB1
set_option linter.unusedVariables false
set_option linter.unusedSimpArgs false
namespace Go.Proofs.YtpjjnopjpgnlaaaDoor

theorem x26n : Extern.findNext Tryd.f26 = none := by kernel_rfl
theorem x26e : Extern.find Tryd.f26 = some Extern.MathFloatBits.float32frombits := by kernel_rfl
theorem x29n : Extern.findNext Tryd.f29 = none := by kernel_rfl
theorem x29e : Extern.find Tryd.f29 = some Extern.MathFloatBits.float32bits := by kernel_rfl

set_option maxRecDepth 100000 in
set_option maxHeartbeats 2000000 in
theorem c_l01NaN (a : Nat) (x : Nat) (ha : cn .f32 a = cn .f32 x) (w : World) : Cl Tryd.prog 28 #[vF a] w fun v w' => v = .bool (isNaN .f32 x) ∧ w = w' := by
  refine Cl.of Tryd.func28 Tryd.ntmps28 rfl rfl (ρ := [(0, vF a)]) rfl ?_
  refine CE.seq ?_
  refine CE.region ?_
  refine WL.det (op_assign rfl) rfl rfl rfl ?_
  refine WL.end ?_
  refine NE.code ?_
  refine CE.seq ?_
  refine CE.region ?_
  refine WL.det (op_move rfl) rfl rfl rfl ?_
  refine WL.det (op_move rfl) rfl rfl rfl ?_
  refine WL.det (op_fne (c := !(fEq .f32 x x)) rfl rfl ha ha rfl) rfl rfl rfl ?_
  refine WL.det (op_assign rfl) rfl rfl rfl ?_
  refine WL.end ?_
  refine NE.code ?_
  refine CE.ret' ?_
  refine XE.leave1 Tryd.results28 rfl ?_
  refine ⟨?_, rfl⟩
  all_goals simp [fEq_self]

set_option maxRecDepth 100000 in
set_option maxHeartbeats 2000000 in
theorem c_bitsOf (a : Nat) (x : Nat) (ha : cn .f32 a = cn .f32 x) (w : World) : Cl Tryd.prog 39 #[vF a] w fun v w' => v = .int .u32 ((cn .f32 x : Nat) : Int) ∧ w = w' := by
  refine Cl.of Tryd.func39 Tryd.ntmps39 rfl rfl (ρ := [(0, vF a)]) rfl ?_
  refine CE.seq ?_
  refine CE.region ?_
  refine WL.det (op_assign rfl) rfl rfl rfl ?_
  refine WL.end ?_
  refine NE.code ?_
  refine CE.seq ?_
  refine CE.seq ?_
  refine CE.region ?_
  refine WL.det (op_move rfl) rfl rfl rfl ?_
  refine WL.det (op_move rfl) rfl rfl rfl ?_
  refine WL.det (op_fne (c := !(fEq .f32 x x)) rfl rfl ha ha rfl) rfl rfl rfl ?_
  refine WL.end ?_
  refine NE.code ?_
  rcases Bool.eq_false_or_eq_true (fEq .f32 x x) with hb1 | hb1
  · refine CE.cond_f rfl (bnot_t hb1) ?_
    refine CE.skip' ?_
    refine NE.code ?_
    refine CE.seq ?_
    refine CE.region ?_
    refine WL.det (op_move rfl) rfl rfl rfl ?_
    refine WL.det (op_extern (vs := [vF a]) Tryd.func29 rfl rfl x29n x29e rfl (fun _ => rfl)) rfl rfl rfl ?_
    refine WL.det (op_assign rfl) rfl rfl rfl ?_
    refine WL.end ?_
    refine NE.code ?_
    refine CE.ret' ?_
    refine XE.leave1 Tryd.results39 rfl ?_
    refine ⟨?_, rfl⟩
    all_goals (rw [fEq_self] at hb1; simp at hb1; first | (rw [cn, if_pos hb1]; rfl) | (rw [cn_of_not hb1, eq_of_cn ha hb1]))
  · refine CE.cond_t rfl (bnot_f hb1) ?_
    refine CE.seq ?_
    refine CE.region ?_
    refine WL.det (op_assign rfl) rfl rfl rfl ?_
    refine WL.end ?_
    refine NE.code ?_
    refine CE.ret' ?_
    refine XE.ret_then ?_
    refine XE.leave1 Tryd.results39 rfl ?_
    refine ⟨?_, rfl⟩
    all_goals (rw [fEq_self] at hb1; simp at hb1; first | (rw [cn, if_pos hb1]; rfl) | (rw [cn_of_not hb1, eq_of_cn ha hb1]))

set_option maxRecDepth 100000 in
set_option maxHeartbeats 2000000 in
theorem c_l01Same (a : Nat) (x : Nat) (b : Nat) (y : Nat) (ha : cn .f32 a = cn .f32 x) (hb : cn .f32 b = cn .f32 y) (w : World) : Cl Tryd.prog 21 #[vF a, vF b] w fun v w' => v = .bool (cn .f32 x == cn .f32 y) ∧ w = w' := by
  refine Cl.of Tryd.func21 Tryd.ntmps21 rfl rfl (ρ := [(0, vF a), (1, vF b)]) rfl ?_
  refine CE.seq ?_
  refine CE.region ?_
  refine WL.det (op_assign rfl) rfl rfl rfl ?_
  refine WL.end ?_
  refine NE.code ?_
  refine CE.seq ?_
  refine CE.seq ?_
  refine CE.region ?_
  refine WL.det (op_move rfl) rfl rfl rfl ?_
  refine WL.call (oc_call (vs := [vF a]) (cap := []) rfl rfl rfl Tryd.call28 (c_l01NaN a x ha w)) rfl rfl (ltb rfl) ?_
  rintro _ _ ⟨rfl, rfl⟩
  refine WL.det (op_move rfl) rfl rfl rfl ?_
  rcases Bool.eq_false_or_eq_true (isNaN .f32 x) with hb1 | hb1
  · refine WL.no rfl rfl rfl (ltb rfl) rfl hb1 rfl (ltb rfl) ?_
    refine WL.no rfl rfl rfl (ltb rfl) rfl hb1 rfl (ltb rfl) ?_
    refine WL.det (op_pick_t rfl hb1 rfl) rfl rfl rfl ?_
    refine WL.end ?_
    refine NE.code ?_
    refine CE.cond_t rfl rfl ?_
    refine CE.seq ?_
    refine CE.region ?_
    refine WL.det (op_move rfl) rfl rfl rfl ?_
    refine WL.call (oc_call (vs := [vF a]) (cap := []) rfl rfl rfl Tryd.call28 (c_l01NaN a x ha w)) rfl rfl (ltb rfl) ?_
    rintro _ _ ⟨rfl, rfl⟩
    refine WL.det (op_move rfl) rfl rfl rfl ?_
    refine WL.yes rfl rfl rfl (ltb rfl) rfl hb1 ?_
    refine WL.det (op_move rfl) rfl rfl rfl ?_
    refine WL.yes rfl rfl rfl (ltb rfl) rfl hb1 ?_
    refine WL.call (oc_call (vs := [vF b]) (cap := []) rfl rfl rfl Tryd.call28 (c_l01NaN b y hb w)) rfl rfl (ltb rfl) ?_
    rintro _ _ ⟨rfl, rfl⟩
    refine WL.det (op_pick_t rfl hb1 rfl) rfl rfl rfl ?_
    refine WL.det (op_assign rfl) rfl rfl rfl ?_
    refine WL.end ?_
    refine NE.code ?_
    refine CE.ret' ?_
    refine XE.ret_then ?_
    refine XE.leave1 Tryd.results21 rfl ?_
    refine ⟨?_, rfl⟩
    all_goals first | exact congrArg Value.bool (same_nan_l (by assumption) _) | exact congrArg Value.bool (same_nan_r (by assumption) (by assumption)) | exact congrArg Value.bool (same_num ha hb (by assumption) (by assumption))
  · refine WL.yes rfl rfl rfl (ltb rfl) rfl hb1 ?_
    refine WL.det (op_move rfl) rfl rfl rfl ?_
    refine WL.yes rfl rfl rfl (ltb rfl) rfl hb1 ?_
    refine WL.call (oc_call (vs := [vF b]) (cap := []) rfl rfl rfl Tryd.call28 (c_l01NaN b y hb w)) rfl rfl (ltb rfl) ?_
    rintro _ _ ⟨rfl, rfl⟩
    refine WL.det (op_pick_f rfl hb1 rfl) rfl rfl rfl ?_
    refine WL.end ?_
    refine NE.code ?_
    rcases Bool.eq_false_or_eq_true (isNaN .f32 y) with hb2 | hb2
    · refine CE.cond_t rfl hb2 ?_
      refine CE.seq ?_
      refine CE.region ?_
      refine WL.det (op_move rfl) rfl rfl rfl ?_
      refine WL.call (oc_call (vs := [vF a]) (cap := []) rfl rfl rfl Tryd.call28 (c_l01NaN a x ha w)) rfl rfl (ltb rfl) ?_
      rintro _ _ ⟨rfl, rfl⟩
      refine WL.det (op_move rfl) rfl rfl rfl ?_
      refine WL.no rfl rfl rfl (ltb rfl) rfl hb1 rfl (ltb rfl) ?_
      refine WL.no rfl rfl rfl (ltb rfl) rfl hb1 rfl (ltb rfl) ?_
      refine WL.det (op_pick_f rfl hb1 rfl) rfl rfl rfl ?_
      refine WL.det (op_assign rfl) rfl rfl rfl ?_
      refine WL.end ?_
      refine NE.code ?_
      refine CE.ret' ?_
      refine XE.ret_then ?_
      refine XE.leave1 Tryd.results21 rfl ?_
      refine ⟨?_, rfl⟩
      all_goals first | exact congrArg Value.bool (same_nan_l (by assumption) _) | exact congrArg Value.bool (same_nan_r (by assumption) (by assumption)) | exact congrArg Value.bool (same_num ha hb (by assumption) (by assumption))
    · refine CE.cond_f rfl hb2 ?_
      refine CE.skip' ?_
      refine NE.code ?_
      refine CE.seq ?_
      refine CE.region ?_
      refine WL.det (op_move rfl) rfl rfl rfl ?_
      refine WL.det (op_extern (vs := [vF a]) Tryd.func29 rfl rfl x29n x29e rfl (fun _ => rfl)) rfl rfl rfl ?_
      refine WL.det (op_move rfl) rfl rfl rfl ?_
      refine WL.det (op_extern (vs := [vF b]) Tryd.func29 rfl rfl x29n x29e rfl (fun _ => rfl)) rfl rfl rfl ?_
      refine WL.det (op_eqi rfl rfl) rfl rfl rfl ?_
      refine WL.det (op_assign rfl) rfl rfl rfl ?_
      refine WL.end ?_
      refine NE.code ?_
      refine CE.ret' ?_
      refine XE.leave1 Tryd.results21 rfl ?_
      refine ⟨?_, rfl⟩
      all_goals first | exact congrArg Value.bool (same_nan_l (by assumption) _) | exact congrArg Value.bool (same_nan_r (by assumption) (by assumption)) | exact congrArg Value.bool (same_num ha hb (by assumption) (by assumption))

end Go.Proofs.YtpjjnopjpgnlaaaDoor
