/- What the shared small functions compute: ranges, lengths, copies, comparisons and marks of lists. -/
import Derived.Test.YtnahhdnkbbdceaaE10
set_option linter.unusedVariables false
set_option linter.unusedSimpArgs false
set_option maxRecDepth 100000
set_option maxHeartbeats 8000000
namespace Go.Proofs.Ytnahhdnkbbdceaa

theorem c_within (a : Int) (b : Int) (c : Int) (w : World) : Cl Try.prog 62 #[vI a, vI b, vI c] w fun v w' => v = .bool (vIn a b c) ∧ w = w' := by
 refine Cl.of Try.func62 Try.ntmps62 rfl rfl (ρ := [(0, vI a), (1, vI b), (2, vI c)]) rfl ?_
 refine CE.seq (CE.region ?_)
 refine WL.det (op_assign rfl) rfl rfl rfl ?_
 refine WL.end (NE.code (CE.seq (CE.region ?_)))
 iterate 2 refine WL.det (op_move rfl) rfl rfl rfl ?_
 refine WL.det (op_lei rfl rfl) rfl rfl rfl ?_
 refine WL.det (op_move rfl) rfl rfl rfl ?_
 rcases Bool.eq_false_or_eq_true (decide (b ≤ a)) with hb1 | hb1
 ·have hp1 := of_decide_eq_true hb1
  refine WL.yes rfl rfl rfl (ltb rfl) rfl hb1 ?_
  refine WL.det (op_move rfl) rfl rfl rfl ?_
  refine WL.yes rfl rfl rfl (ltb rfl) rfl hb1 ?_
  refine WL.det (op_move rfl) rfl rfl rfl ?_
  refine WL.yes rfl rfl rfl (ltb rfl) rfl hb1 ?_
  refine WL.det (op_lei rfl rfl) rfl rfl rfl ?_
  refine WL.det (op_pick_t rfl hb1 rfl) rfl rfl rfl ?_
  refine WL.det (op_assign rfl) rfl rfl rfl ?_
  refine WL.end (NE.code (CE.ret' ?_))
  refine XE.leave1 Try.results62 rfl ?_
  refine ⟨?_, rfl⟩
  all_goals (simp_all [vIn]; try omega)
 ·have hp1 := of_decide_eq_false hb1
  iterate 3 refine WL.no rfl rfl rfl (ltb rfl) rfl hb1 rfl (ltb rfl) ?_
  refine WL.det (op_pick_f rfl hb1 rfl) rfl rfl rfl ?_
  refine WL.det (op_assign rfl) rfl rfl rfl ?_
  refine WL.end (NE.code (CE.ret' ?_))
  refine XE.leave1 Try.results62 rfl ?_
  refine ⟨?_, rfl⟩
  all_goals (simp_all [vIn]; try omega)

theorem c_l00In (a : Int) (b : Int) (c : Int) (w : World) : Cl Try.prog 55 #[vI a, vI b, vI c] w fun v w' => v = .bool (vIn a b c) ∧ w = w' := by
 refine Cl.of Try.func55 Try.ntmps55 rfl rfl (ρ := [(0, vI a), (1, vI b), (2, vI c)]) rfl ?_
 refine CE.seq (CE.region ?_)
 refine WL.det (op_assign rfl) rfl rfl rfl ?_
 refine WL.end (NE.code (CE.seq (CE.region ?_)))
 iterate 2 refine WL.det (op_move rfl) rfl rfl rfl ?_
 refine WL.det (op_gei rfl rfl) rfl rfl rfl ?_
 refine WL.det (op_move rfl) rfl rfl rfl ?_
 rcases Bool.eq_false_or_eq_true (decide (b ≤ a)) with hb1 | hb1
 ·have hp1 := of_decide_eq_true hb1
  refine WL.yes rfl rfl rfl (ltb rfl) rfl hb1 ?_
  refine WL.det (op_move rfl) rfl rfl rfl ?_
  refine WL.yes rfl rfl rfl (ltb rfl) rfl hb1 ?_
  refine WL.det (op_move rfl) rfl rfl rfl ?_
  refine WL.yes rfl rfl rfl (ltb rfl) rfl hb1 ?_
  refine WL.det (op_lei rfl rfl) rfl rfl rfl ?_
  refine WL.det (op_pick_t rfl hb1 rfl) rfl rfl rfl ?_
  refine WL.det (op_assign rfl) rfl rfl rfl ?_
  refine WL.end (NE.code (CE.ret' ?_))
  refine XE.leave1 Try.results55 rfl ?_
  refine ⟨?_, rfl⟩
  all_goals (simp_all [vIn]; try omega)
 ·have hp1 := of_decide_eq_false hb1
  iterate 3 refine WL.no rfl rfl rfl (ltb rfl) rfl hb1 rfl (ltb rfl) ?_
  refine WL.det (op_pick_f rfl hb1 rfl) rfl rfl rfl ?_
  refine WL.det (op_assign rfl) rfl rfl rfl ?_
  refine WL.end (NE.code (CE.ret' ?_))
  refine XE.leave1 Try.results55 rfl ?_
  refine ⟨?_, rfl⟩
  all_goals (simp_all [vIn]; try omega)

theorem c_length32 (n : Nat) (c : Nat) (A : Option Addr) (w : World) : Cl Try.prog 118 #[.slice A n c] w fun v w' => v = vI ((n : Nat) : Int) ∧ w = w' := by
 refine Cl.of Try.func118 Try.ntmps118 rfl rfl (ρ := [(0, .slice A n c)]) rfl ?_
 refine CE.seq (CE.region ?_)
 refine WL.det (op_assign rfl) rfl rfl rfl ?_
 refine WL.end (NE.code (CE.seq (CE.region ?_)))
 refine WL.det (op_move rfl) rfl rfl rfl ?_
 refine WL.det (op_len rfl Try.runUnderlying26) rfl rfl rfl ?_
 refine WL.det (op_assign rfl) rfl rfl rfl ?_
 refine WL.end (NE.code (CE.ret' ?_))
 refine XE.leave1 Try.results118 rfl ?_
 refine ⟨rfl, rfl⟩

end Go.Proofs.Ytnahhdnkbbdceaa
