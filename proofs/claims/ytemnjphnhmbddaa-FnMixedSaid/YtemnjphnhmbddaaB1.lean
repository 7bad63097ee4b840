/- What the shared small functions compute: ranges, lengths, copies, comparisons and marks of lists. -/
import Derived.Test.YtemnjphnhmbddaaE10
set_option linter.unusedVariables false
set_option linter.unusedSimpArgs false
namespace Go.Proofs.Ytemnjphnhmbddaa

set_option maxRecDepth 100000 in
set_option maxHeartbeats 2000000 in
theorem c_within (a : Int) (b : Int) (c : Int) (w : World) : Cl Try.prog 23 #[vI a, vI b, vI c] w fun v w' => v = .bool (vIn a b c) ∧ w = w' := by
  refine Cl.of Try.func23 Try.ntmps23 rfl rfl (ρ := [(0, vI a), (1, vI b), (2, vI c)]) rfl ?_
  refine CE.seq ?_
  refine CE.region ?_
  refine WL.det (op_assign rfl) rfl rfl rfl ?_
  refine WL.end ?_
  refine NE.code ?_
  refine CE.seq ?_
  refine CE.region ?_
  refine WL.det (op_move rfl) rfl rfl rfl ?_
  refine WL.det (op_move rfl) rfl rfl rfl ?_
  refine WL.det (op_lei rfl rfl) rfl rfl rfl ?_
  refine WL.det (op_move rfl) rfl rfl rfl ?_
  rcases Bool.eq_false_or_eq_true (decide (b ≤ a)) with hb1 | hb1
  · have hp1 := of_decide_eq_true hb1
    refine WL.yes rfl rfl rfl (ltb rfl) rfl hb1 ?_
    refine WL.det (op_move rfl) rfl rfl rfl ?_
    refine WL.yes rfl rfl rfl (ltb rfl) rfl hb1 ?_
    refine WL.det (op_move rfl) rfl rfl rfl ?_
    refine WL.yes rfl rfl rfl (ltb rfl) rfl hb1 ?_
    refine WL.det (op_lei rfl rfl) rfl rfl rfl ?_
    refine WL.det (op_pick_t rfl hb1 rfl) rfl rfl rfl ?_
    refine WL.det (op_assign rfl) rfl rfl rfl ?_
    refine WL.end ?_
    refine NE.code ?_
    refine CE.ret' ?_
    refine XE.leave1 Try.results23 rfl ?_
    refine ⟨?_, rfl⟩
    all_goals (simp_all [vIn]; try omega)
  · have hp1 := of_decide_eq_false hb1
    refine WL.no rfl rfl rfl (ltb rfl) rfl hb1 rfl (ltb rfl) ?_
    refine WL.no rfl rfl rfl (ltb rfl) rfl hb1 rfl (ltb rfl) ?_
    refine WL.no rfl rfl rfl (ltb rfl) rfl hb1 rfl (ltb rfl) ?_
    refine WL.det (op_pick_f rfl hb1 rfl) rfl rfl rfl ?_
    refine WL.det (op_assign rfl) rfl rfl rfl ?_
    refine WL.end ?_
    refine NE.code ?_
    refine CE.ret' ?_
    refine XE.leave1 Try.results23 rfl ?_
    refine ⟨?_, rfl⟩
    all_goals (simp_all [vIn]; try omega)

set_option maxRecDepth 100000 in
set_option maxHeartbeats 2000000 in
theorem c_l00In (a : Int) (b : Int) (c : Int) (w : World) : Cl Try.prog 29 #[vI a, vI b, vI c] w fun v w' => v = .bool (vIn a b c) ∧ w = w' := by
  refine Cl.of Try.func29 Try.ntmps29 rfl rfl (ρ := [(0, vI a), (1, vI b), (2, vI c)]) rfl ?_
  refine CE.seq ?_
  refine CE.region ?_
  refine WL.det (op_assign rfl) rfl rfl rfl ?_
  refine WL.end ?_
  refine NE.code ?_
  refine CE.seq ?_
  refine CE.region ?_
  refine WL.det (op_move rfl) rfl rfl rfl ?_
  refine WL.det (op_move rfl) rfl rfl rfl ?_
  refine WL.det (op_gei rfl rfl) rfl rfl rfl ?_
  refine WL.det (op_move rfl) rfl rfl rfl ?_
  rcases Bool.eq_false_or_eq_true (decide (b ≤ a)) with hb1 | hb1
  · have hp1 := of_decide_eq_true hb1
    refine WL.yes rfl rfl rfl (ltb rfl) rfl hb1 ?_
    refine WL.det (op_move rfl) rfl rfl rfl ?_
    refine WL.yes rfl rfl rfl (ltb rfl) rfl hb1 ?_
    refine WL.det (op_move rfl) rfl rfl rfl ?_
    refine WL.yes rfl rfl rfl (ltb rfl) rfl hb1 ?_
    refine WL.det (op_lei rfl rfl) rfl rfl rfl ?_
    refine WL.det (op_pick_t rfl hb1 rfl) rfl rfl rfl ?_
    refine WL.det (op_assign rfl) rfl rfl rfl ?_
    refine WL.end ?_
    refine NE.code ?_
    refine CE.ret' ?_
    refine XE.leave1 Try.results29 rfl ?_
    refine ⟨?_, rfl⟩
    all_goals (simp_all [vIn]; try omega)
  · have hp1 := of_decide_eq_false hb1
    refine WL.no rfl rfl rfl (ltb rfl) rfl hb1 rfl (ltb rfl) ?_
    refine WL.no rfl rfl rfl (ltb rfl) rfl hb1 rfl (ltb rfl) ?_
    refine WL.no rfl rfl rfl (ltb rfl) rfl hb1 rfl (ltb rfl) ?_
    refine WL.det (op_pick_f rfl hb1 rfl) rfl rfl rfl ?_
    refine WL.det (op_assign rfl) rfl rfl rfl ?_
    refine WL.end ?_
    refine NE.code ?_
    refine CE.ret' ?_
    refine XE.leave1 Try.results29 rfl ?_
    refine ⟨?_, rfl⟩
    all_goals (simp_all [vIn]; try omega)

set_option maxRecDepth 100000 in
set_option maxHeartbeats 2000000 in
theorem c_length32 (n : Nat) (c : Nat) (A : Option Addr) (w : World) : Cl Try.prog 41 #[.slice A n c] w fun v w' => v = vI ((n : Nat) : Int) ∧ w = w' := by
  refine Cl.of Try.func41 Try.ntmps41 rfl rfl (ρ := [(0, .slice A n c)]) rfl ?_
  refine CE.seq ?_
  refine CE.region ?_
  refine WL.det (op_assign rfl) rfl rfl rfl ?_
  refine WL.end ?_
  refine NE.code ?_
  refine CE.seq ?_
  refine CE.region ?_
  refine WL.det (op_move rfl) rfl rfl rfl ?_
  refine WL.det (op_len rfl Try.runUnderlying29) rfl rfl rfl ?_
  refine WL.det (op_assign rfl) rfl rfl rfl ?_
  refine WL.end ?_
  refine NE.code ?_
  refine CE.ret' ?_
  refine XE.leave1 Try.results41 rfl ?_
  refine ⟨rfl, rfl⟩

end Go.Proofs.Ytemnjphnhmbddaa
