/- What the shared small functions compute: ranges, lengths, copies, comparisons and marks of lists. -/
import Derived.Test.YtnpkhjafnjpnmaaE10
set_option linter.unusedVariables false
set_option linter.unusedSimpArgs false
set_option maxRecDepth 100000
set_option maxHeartbeats 8000000
namespace Go.Proofs.Ytnpkhjafnjpnmaa

theorem c_sameFloat (a : Nat) (x : Nat) (b : Nat) (y : Nat) (ha : cn .f64 a = cn .f64 x) (hb : cn .f64 b = cn .f64 y) (w : World) : Cl Try.prog 82 #[.float .f64 a, .float .f64 b] w fun v w' => v = .bool (sameF x y) ∧ Mod [] w w' := by
 refine Cl.of Try.func82 Try.ntmps82 rfl rfl (ρ := [(0, .float .f64 a), (1, .float .f64 b)]) rfl ?_
 refine CE.seq (CE.region ?_)
 refine WL.det (op_assign rfl) rfl rfl rfl ?_
 refine WL.end (NE.code (CE.seq (CE.seq (CE.region ?_))))
 iterate 2 refine WL.det (op_move rfl) rfl rfl rfl ?_
 refine WL.det (op_fne (c := !(fEq .f64 x x)) rfl rfl ha ha rfl) rfl rfl rfl ?_
 refine WL.det (op_move rfl) rfl rfl rfl ?_
 rcases Bool.eq_false_or_eq_true (fEq .f64 x x) with hb1 | hb1
 ·refine WL.yes rfl rfl rfl (ltb rfl) rfl (bnot_t hb1) ?_
  refine WL.det (op_move rfl) rfl rfl rfl ?_
  refine WL.yes rfl rfl rfl (ltb rfl) rfl (bnot_t hb1) ?_
  refine WL.det (op_move rfl) rfl rfl rfl ?_
  refine WL.yes rfl rfl rfl (ltb rfl) rfl (bnot_t hb1) ?_
  refine WL.det (op_fne (c := !(fEq .f64 y y)) rfl rfl hb hb rfl) rfl rfl rfl ?_
  refine WL.det (op_pick_f rfl (bnot_t hb1) rfl) rfl rfl rfl ?_
  refine WL.end (NE.code ?_)
  rcases Bool.eq_false_or_eq_true (fEq .f64 y y) with hb2 | hb2
  ·refine CE.cond_f rfl (bnot_t hb2) ?_
   refine CE.skip' (NE.code (CE.seq (CE.seq (CE.region ?_))))
   refine WL.det (op_move rfl) rfl rfl rfl ?_
   refine WL.det (op_feq (c := fEq .f64 x 0) rfl rfl ha rfl rfl) rfl rfl rfl ?_
   refine WL.det (op_move rfl) rfl rfl rfl ?_
   rcases Bool.eq_false_or_eq_true (fEq .f64 x 0) with hb3 | hb3
   ·refine WL.yes rfl rfl rfl (ltb rfl) rfl hb3 ?_
    refine WL.det (op_move rfl) rfl rfl rfl ?_
    refine WL.yes rfl rfl rfl (ltb rfl) rfl hb3 ?_
    refine WL.det (op_feq (c := fEq .f64 y 0) rfl rfl hb rfl rfl) rfl rfl rfl ?_
    refine WL.det (op_pick_t rfl hb3 rfl) rfl rfl rfl ?_
    refine WL.end (NE.code ?_)
    rcases Bool.eq_false_or_eq_true (fEq .f64 y 0) with hb4 | hb4
    ·refine CE.cond_t rfl hb4 ?_
     refine CE.seq (CE.region ?_)
     refine WL.det (op_move rfl) rfl rfl rfl ?_
     refine WL.op (op_farith (e := (fop .quo .f64 4607182418800017408 x)) (.inr (.inr (.inr rfl))) rfl rfl rfl ha rfl) rfl rfl (ltb rfl) ?_
     rintro _ w1 ⟨⟨f1, rfl, hf1, lf1⟩, m1⟩
     refine WL.det (op_fgt (c := fGt .f64 (fop .quo .f64 4607182418800017408 x) 0) rfl rfl hf1 rfl rfl) rfl rfl rfl ?_
     refine WL.det (op_move rfl) rfl rfl rfl ?_
     refine WL.op (op_farith (e := (fop .quo .f64 4607182418800017408 y)) (.inr (.inr (.inr rfl))) rfl rfl rfl hb rfl) rfl rfl (ltb rfl) ?_
     rintro _ w2 ⟨⟨f2, rfl, hf2, lf2⟩, m2⟩
     refine WL.det (op_fgt (c := fGt .f64 (fop .quo .f64 4607182418800017408 y) 0) rfl rfl hf2 rfl rfl) rfl rfl rfl ?_
     refine WL.det (op_eqb rfl rfl Try.underlying4) rfl rfl rfl ?_
     refine WL.det (op_assign rfl) rfl rfl rfl ?_
     refine WL.end (NE.code (CE.ret' (XE.ret_then ?_)))
     refine XE.leave1 Try.results82 rfl ?_
     refine ⟨?_, (((Mod.refl [] w).nt m1).nt m2)⟩
     all_goals simp_all [sameF]
    ·refine CE.cond_f rfl hb4 ?_
     refine CE.skip' (NE.code (CE.seq (CE.region ?_)))
     iterate 2 refine WL.det (op_move rfl) rfl rfl rfl ?_
     refine WL.det (op_feq (c := fEq .f64 x y) rfl rfl ha hb rfl) rfl rfl rfl ?_
     refine WL.det (op_assign rfl) rfl rfl rfl ?_
     refine WL.end (NE.code (CE.ret' ?_))
     refine XE.leave1 Try.results82 rfl ?_
     refine ⟨?_, (Mod.refl [] w)⟩
     all_goals simp_all [sameF]
   ·refine WL.no rfl rfl rfl (ltb rfl) rfl hb3 rfl (ltb rfl) ?_
    refine WL.no rfl rfl rfl (ltb rfl) rfl hb3 rfl (ltb rfl) ?_
    refine WL.det (op_pick_f rfl hb3 rfl) rfl rfl rfl ?_
    refine WL.end (NE.code ?_)
    refine CE.cond_f rfl rfl ?_
    refine CE.skip' (NE.code (CE.seq (CE.region ?_)))
    iterate 2 refine WL.det (op_move rfl) rfl rfl rfl ?_
    refine WL.det (op_feq (c := fEq .f64 x y) rfl rfl ha hb rfl) rfl rfl rfl ?_
    refine WL.det (op_assign rfl) rfl rfl rfl ?_
    refine WL.end (NE.code (CE.ret' ?_))
    refine XE.leave1 Try.results82 rfl ?_
    refine ⟨?_, (Mod.refl [] w)⟩
    all_goals simp_all [sameF]
  ·refine CE.cond_t rfl (bnot_f hb2) ?_
   refine CE.seq (CE.region ?_)
   iterate 2 refine WL.det (op_move rfl) rfl rfl rfl ?_
   refine WL.det (op_fne (c := !(fEq .f64 x x)) rfl rfl ha ha rfl) rfl rfl rfl ?_
   refine WL.det (op_move rfl) rfl rfl rfl ?_
   iterate 3 refine WL.no rfl rfl rfl (ltb rfl) rfl (bnot_t hb1) rfl (ltb rfl) ?_
   refine WL.det (op_pick_f rfl (bnot_t hb1) rfl) rfl rfl rfl ?_
   refine WL.det (op_assign rfl) rfl rfl rfl ?_
   refine WL.end (NE.code (CE.ret' (XE.ret_then ?_)))
   refine XE.leave1 Try.results82 rfl ?_
   refine ⟨?_, (Mod.refl [] w)⟩
   all_goals simp_all [sameF]
 ·refine WL.no rfl rfl rfl (ltb rfl) rfl (bnot_f hb1) rfl (ltb rfl) ?_
  iterate 2 refine WL.no rfl rfl rfl (ltb rfl) rfl (bnot_f hb1) rfl (ltb rfl) ?_
  refine WL.det (op_pick_t rfl (bnot_f hb1) rfl) rfl rfl rfl ?_
  refine WL.end (NE.code ?_)
  refine CE.cond_t rfl rfl ?_
  refine CE.seq (CE.region ?_)
  iterate 2 refine WL.det (op_move rfl) rfl rfl rfl ?_
  refine WL.det (op_fne (c := !(fEq .f64 x x)) rfl rfl ha ha rfl) rfl rfl rfl ?_
  refine WL.det (op_move rfl) rfl rfl rfl ?_
  refine WL.yes rfl rfl rfl (ltb rfl) rfl (bnot_f hb1) ?_
  refine WL.det (op_move rfl) rfl rfl rfl ?_
  refine WL.yes rfl rfl rfl (ltb rfl) rfl (bnot_f hb1) ?_
  refine WL.det (op_move rfl) rfl rfl rfl ?_
  refine WL.yes rfl rfl rfl (ltb rfl) rfl (bnot_f hb1) ?_
  refine WL.det (op_fne (c := !(fEq .f64 y y)) rfl rfl hb hb rfl) rfl rfl rfl ?_
  refine WL.det (op_pick_t rfl (bnot_f hb1) rfl) rfl rfl rfl ?_
  refine WL.det (op_assign rfl) rfl rfl rfl ?_
  refine WL.end (NE.code (CE.ret' (XE.ret_then ?_)))
  refine XE.leave1 Try.results82 rfl ?_
  refine ⟨?_, (Mod.refl [] w)⟩
  all_goals simp_all [sameF]

theorem c_within (a : Int) (b : Int) (c : Int) (w : World) : Cl Try.prog 51 #[vI a, vI b, vI c] w fun v w' => v = .bool (vIn a b c) ∧ w = w' := by
 refine Cl.of Try.func51 Try.ntmps51 rfl rfl (ρ := [(0, vI a), (1, vI b), (2, vI c)]) rfl ?_
 refine CE.seq (CE.region ?_)
 refine WL.det (op_assign rfl) rfl rfl rfl ?_
 refine WL.end (NE.code (CE.seq (CE.region ?_)))
 iterate 2 refine WL.det (op_move rfl) rfl rfl rfl ?_
 refine WL.det (op_lei rfl rfl) rfl rfl rfl ?_
 refine WL.det (op_move rfl) rfl rfl rfl ?_
 rcases Bool.eq_false_or_eq_true (decide (b ≤ a)) with hb1 | hb1
 ·have hp1 := of_decide_eq_true hb1
  refine WL.yes rfl rfl rfl (ltb rfl) rfl hb1 ?_
  refine WL.det (op_move rfl) rfl rfl rfl ?_
  refine WL.yes rfl rfl rfl (ltb rfl) rfl hb1 ?_
  refine WL.det (op_move rfl) rfl rfl rfl ?_
  refine WL.yes rfl rfl rfl (ltb rfl) rfl hb1 ?_
  refine WL.det (op_lei rfl rfl) rfl rfl rfl ?_
  refine WL.det (op_pick_t rfl hb1 rfl) rfl rfl rfl ?_
  refine WL.det (op_assign rfl) rfl rfl rfl ?_
  refine WL.end (NE.code (CE.ret' ?_))
  refine XE.leave1 Try.results51 rfl ?_
  refine ⟨?_, rfl⟩
  all_goals (simp_all [vIn]; try omega)
 ·have hp1 := of_decide_eq_false hb1
  iterate 3 refine WL.no rfl rfl rfl (ltb rfl) rfl hb1 rfl (ltb rfl) ?_
  refine WL.det (op_pick_f rfl hb1 rfl) rfl rfl rfl ?_
  refine WL.det (op_assign rfl) rfl rfl rfl ?_
  refine WL.end (NE.code (CE.ret' ?_))
  refine XE.leave1 Try.results51 rfl ?_
  refine ⟨?_, rfl⟩
  all_goals (simp_all [vIn]; try omega)

theorem c_l00In (a : Int) (b : Int) (c : Int) (w : World) : Cl Try.prog 54 #[vI a, vI b, vI c] w fun v w' => v = .bool (vIn a b c) ∧ w = w' := by
 refine Cl.of Try.func54 Try.ntmps54 rfl rfl (ρ := [(0, vI a), (1, vI b), (2, vI c)]) rfl ?_
 refine CE.seq (CE.region ?_)
 refine WL.det (op_assign rfl) rfl rfl rfl ?_
 refine WL.end (NE.code (CE.seq (CE.region ?_)))
 iterate 2 refine WL.det (op_move rfl) rfl rfl rfl ?_
 refine WL.det (op_gei rfl rfl) rfl rfl rfl ?_
 refine WL.det (op_move rfl) rfl rfl rfl ?_
 rcases Bool.eq_false_or_eq_true (decide (b ≤ a)) with hb1 | hb1
 ·have hp1 := of_decide_eq_true hb1
  refine WL.yes rfl rfl rfl (ltb rfl) rfl hb1 ?_
  refine WL.det (op_move rfl) rfl rfl rfl ?_
  refine WL.yes rfl rfl rfl (ltb rfl) rfl hb1 ?_
  refine WL.det (op_move rfl) rfl rfl rfl ?_
  refine WL.yes rfl rfl rfl (ltb rfl) rfl hb1 ?_
  refine WL.det (op_lei rfl rfl) rfl rfl rfl ?_
  refine WL.det (op_pick_t rfl hb1 rfl) rfl rfl rfl ?_
  refine WL.det (op_assign rfl) rfl rfl rfl ?_
  refine WL.end (NE.code (CE.ret' ?_))
  refine XE.leave1 Try.results54 rfl ?_
  refine ⟨?_, rfl⟩
  all_goals (simp_all [vIn]; try omega)
 ·have hp1 := of_decide_eq_false hb1
  iterate 3 refine WL.no rfl rfl rfl (ltb rfl) rfl hb1 rfl (ltb rfl) ?_
  refine WL.det (op_pick_f rfl hb1 rfl) rfl rfl rfl ?_
  refine WL.det (op_assign rfl) rfl rfl rfl ?_
  refine WL.end (NE.code (CE.ret' ?_))
  refine XE.leave1 Try.results54 rfl ?_
  refine ⟨?_, rfl⟩
  all_goals (simp_all [vIn]; try omega)

theorem c_length32 (n : Nat) (c : Nat) (A : Option Addr) (w : World) : Cl Try.prog 59 #[.slice A n c] w fun v w' => v = vI ((n : Nat) : Int) ∧ w = w' := by
 refine Cl.of Try.func59 Try.ntmps59 rfl rfl (ρ := [(0, .slice A n c)]) rfl ?_
 refine CE.seq (CE.region ?_)
 refine WL.det (op_assign rfl) rfl rfl rfl ?_
 refine WL.end (NE.code (CE.seq (CE.region ?_)))
 refine WL.det (op_move rfl) rfl rfl rfl ?_
 refine WL.det (op_len rfl Try.runUnderlying38) rfl rfl rfl ?_
 refine WL.det (op_assign rfl) rfl rfl rfl ?_
 refine WL.end (NE.code (CE.ret' ?_))
 refine XE.leave1 Try.results59 rfl ?_
 refine ⟨rfl, rfl⟩

end Go.Proofs.Ytnpkhjafnjpnmaa
