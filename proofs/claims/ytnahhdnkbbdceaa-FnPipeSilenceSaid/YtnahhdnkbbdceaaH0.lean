/- What the checks on pairs of rings and on kinds of filters compute. -/
import Derived.Test.YtnahhdnkbbdceaaB3
import Derived.Test.YtnahhdnkbbdceaaG1
set_option linter.unusedVariables false
set_option linter.unusedSimpArgs false
set_option maxRecDepth 100000
set_option maxHeartbeats 8000000
namespace Go.Proofs.Ytnahhdnkbbdceaa

theorem c_isFilter (kd : Int) (c0 : Nat) (c1 : Nat) (c2 : Nat) (s0 : Nat) (s1 : Nat) (kk : Int) (w : World) : Cl Try.prog 101 #[.agg #[vI kd, vF c0, vF c1, vF c2, vF s0, vF s1], vI kk] w fun v w' => v = .bool (vFil kd c0 c1 c2 s0 s1 && (kd == kk)) ∧ Mod [] w w' := by
 refine Cl.of Try.func101 Try.ntmps101 rfl rfl (ρ := [(0, .agg #[vI kd, vF c0, vF c1, vF c2, vF s0, vF s1]), (1, vI kk)]) rfl ?_
 refine CE.seq (CE.region ?_)
 refine WL.op (op_box (cs := [vI kd, vF c0, vF c1, vF c2, vF s0, vF s1]) rfl rfl) rfl rfl (ltb rfl) ?_
 rintro _ w1 ⟨rfl, r1, m1, z1⟩
 refine WL.det (op_assign rfl) rfl rfl rfl ?_
 refine WL.end (NE.code (CE.seq (CE.region ?_)))
 refine WL.det (op_loadA (i := 0) (cs := [vI kd, vF c0, vF c1, vF c2, vF s0, vF s1]) rfl Try.isAgg31 Try.sizeOf31 r1.rng rfl rfl rfl) rfl rfl rfl ?_
 refine WL.call (oc_call (vs := [.agg #[vI kd, vF c0, vF c1, vF c2, vF s0, vF s1]]) (cap := []) rfl rfl rfl Try.call145 (c_ValidFilter kd c0 c1 c2 s0 s1 w1)) rfl rfl (ltb rfl) ?_
 rintro _ w2 ⟨rfl, m2⟩
 refine WL.det (op_move rfl) rfl rfl rfl ?_
 rcases Bool.eq_false_or_eq_true (vFil kd c0 c1 c2 s0 s1) with hb1 | hb1
 ·refine WL.yes rfl rfl rfl (ltb rfl) rfl hb1 ?_
  refine WL.det (op_fieldAddr (off' := 0) rfl Try.runUnderlying31 rfl rfl Try.sizeOf2 rfl) rfl rfl rfl ?_
  refine WL.yes rfl rfl rfl (ltb rfl) rfl hb1 ?_
  refine WL.det (op_load1 (i := 0) rfl Try.isAgg2 (r1.ext m2).rng rfl rfl) rfl rfl rfl ?_
  refine WL.yes rfl rfl rfl (ltb rfl) rfl hb1 ?_
  refine WL.det (op_move rfl) rfl rfl rfl ?_
  refine WL.yes rfl rfl rfl (ltb rfl) rfl hb1 ?_
  refine WL.det (op_eqi rfl rfl) rfl rfl rfl ?_
  refine WL.det (op_pick_t rfl hb1 rfl) rfl rfl rfl ?_
  refine WL.det (op_assign rfl) rfl rfl rfl ?_
  refine WL.end (NE.code (CE.ret' ?_))
  refine XE.leave1 Try.results101 rfl ?_
  refine ⟨?_, (((Mod.refl [] w).nt m1).nt m2)⟩
  all_goals simp_all
 ·refine WL.no rfl rfl rfl (ltb rfl) rfl hb1 rfl (ltb rfl) ?_
  iterate 3 refine WL.no rfl rfl rfl (ltb rfl) rfl hb1 rfl (ltb rfl) ?_
  refine WL.det (op_pick_f rfl hb1 rfl) rfl rfl rfl ?_
  refine WL.det (op_assign rfl) rfl rfl rfl ?_
  refine WL.end (NE.code (CE.ret' ?_))
  refine XE.leave1 Try.results101 rfl ?_
  refine ⟨?_, (((Mod.refl [] w).nt m1).nt m2)⟩
  all_goals simp_all

end Go.Proofs.Ytnahhdnkbbdceaa
