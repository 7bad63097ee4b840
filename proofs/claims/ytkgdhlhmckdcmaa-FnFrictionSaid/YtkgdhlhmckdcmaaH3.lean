/- What the functions on jets compute. -/
import Derived.Test.YtkgdhlhmckdcmaaH0
set_option linter.unusedVariables false
set_option linter.unusedSimpArgs false
namespace Go.Proofs.Ytkgdhlhmckdcmaa

def clampF (x b : Nat) : Nat := if fGt .f32 x b then b else if fLt .f32 x (Op.negFloat .f32 b) then Op.negFloat .f32 b else x
def jetF (x : Nat) : Nat := clampF (fop .mul .f32 x (fop .sub .f32 (fop .mul .f32 x x) 1065353216)) 1065353216
def vJet (n : Nat) (j : Int) (m : Nat) (jj : Int) (xs ys : List Nat) (lk : Int) (lc0 lc1 lc2 ls0 ls1 : Nat) (dk : Int) (dc0 dc1 dc2 ds0 ds1 ne fa : Nat) : Bool :=
  (vRingF n j xs && vRingF m jj ys) && (vFil lk lc0 lc1 lc2 ls0 ls1 && (lk == 1)) && (vFil dk dc0 dc1 dc2 ds0 ds1 && (dk == 5)) && allF [ne, fa] 2
set_option maxRecDepth 100000 in
set_option maxHeartbeats 2000000 in
theorem c_clamp (a : Nat) (x : Nat) (b : Nat) (ha : cn .f32 a = cn .f32 x) (la : a < wid .f32) (lb : b < wid .f32) (w : World) : Cl Try.prog 77 #[vF a, vF b] w fun v w' => ∃ (r : Nat), v = vF r ∧ (cn .f32 r = cn .f32 (clampF x b)) ∧ (r < wid .f32) ∧ Mod [] w w' := by
  refine Cl.of Try.func77 Try.ntmps77 rfl rfl (ρ := [(0, vF a), (1, vF b)]) rfl ?_
  refine CE.seq ?_
  refine CE.region ?_
  refine WL.det (op_assign rfl) rfl rfl rfl ?_
  refine WL.end ?_
  refine NE.code ?_
  refine CE.seq ?_
  refine CE.block ?_
  refine CE.seq ?_
  refine CE.region ?_
  refine WL.det (op_move rfl) rfl rfl rfl ?_
  refine WL.det (op_move rfl) rfl rfl rfl ?_
  refine WL.det (op_fgt (c := fGt .f32 x b) rfl rfl ha rfl rfl) rfl rfl rfl ?_
  refine WL.det (op_assign rfl) rfl rfl rfl ?_
  refine WL.end ?_
  refine NE.code ?_
  rcases Bool.eq_false_or_eq_true (fGt .f32 x b) with hb1 | hb1
  · refine CE.cond_t rfl hb1 ?_
    refine CE.seq ?_
    refine CE.region ?_
    refine WL.det (op_move rfl) rfl rfl rfl ?_
    refine WL.det (op_assign rfl) rfl rfl rfl ?_
    refine WL.end ?_
    refine NE.code ?_
    refine CE.ret' ?_
    refine XE.ret_blk ?_
    refine XE.ret_then ?_
    refine XE.leave1 Try.results77 rfl ?_
    refine ⟨b, rfl, ?_, lb, (Mod.refl [] w)⟩
    all_goals first | assumption | exact negFloat_lt lb | (simp_all [clampF]; done)
  · refine CE.cond_f rfl hb1 ?_
    refine CE.seq ?_
    refine CE.region ?_
    refine WL.det (op_move rfl) rfl rfl rfl ?_
    refine WL.det (op_move rfl) rfl rfl rfl ?_
    refine WL.det (op_negf rfl) rfl rfl rfl ?_
    refine WL.det (op_flt (c := fLt .f32 x (Op.negFloat .f32 b)) rfl rfl ha (negf_congr rfl) rfl) rfl rfl rfl ?_
    refine WL.det (op_assign rfl) rfl rfl rfl ?_
    refine WL.end ?_
    refine NE.code ?_
    rcases Bool.eq_false_or_eq_true (fLt .f32 x (Op.negFloat .f32 b)) with hb2 | hb2
    · refine CE.cond_t rfl hb2 ?_
      refine CE.seq ?_
      refine CE.region ?_
      refine WL.det (op_move rfl) rfl rfl rfl ?_
      refine WL.det (op_negf rfl) rfl rfl rfl ?_
      refine WL.det (op_assign rfl) rfl rfl rfl ?_
      refine WL.end ?_
      refine NE.code ?_
      refine CE.ret' ?_
      refine XE.ret_blk ?_
      refine XE.ret_then ?_
      refine XE.leave1 Try.results77 rfl ?_
      refine ⟨(Op.negFloat .f32 b), rfl, ?_, (negFloat_lt lb), (Mod.refl [] w)⟩
      all_goals first | assumption | exact negFloat_lt lb | (simp_all [clampF]; done)
    · refine CE.cond_f rfl hb2 ?_
      refine CE.skip' ?_
      refine NE.blk ?_
      refine NE.code ?_
      refine CE.seq ?_
      refine CE.region ?_
      refine WL.det (op_move rfl) rfl rfl rfl ?_
      refine WL.det (op_assign rfl) rfl rfl rfl ?_
      refine WL.end ?_
      refine NE.code ?_
      refine CE.ret' ?_
      refine XE.leave1 Try.results77 rfl ?_
      refine ⟨a, rfl, ?_, la, (Mod.refl [] w)⟩
      all_goals first | assumption | exact negFloat_lt lb | (simp_all [clampF]; done)

set_option maxRecDepth 100000 in
set_option maxHeartbeats 2000000 in
theorem c_jetAt (a : Nat) (x : Nat) (ha : cn .f32 a = cn .f32 x) (la : a < wid .f32) (w : World) : Cl Try.prog 29 #[vF a] w fun v w' => ∃ (r : Nat), v = vF r ∧ (cn .f32 r = cn .f32 (jetF x)) ∧ (r < wid .f32) ∧ Mod [] w w' := by
  refine Cl.of Try.func29 Try.ntmps29 rfl rfl (ρ := [(0, vF a)]) rfl ?_
  refine CE.seq ?_
  refine CE.region ?_
  refine WL.det (op_assign rfl) rfl rfl rfl ?_
  refine WL.end ?_
  refine NE.code ?_
  refine CE.seq ?_
  refine CE.region ?_
  refine WL.det (op_move rfl) rfl rfl rfl ?_
  refine WL.det (op_move rfl) rfl rfl rfl ?_
  refine WL.det (op_move rfl) rfl rfl rfl ?_
  refine WL.op (op_farith (e := (fop .mul .f32 x x)) (.inr (.inr (.inl rfl))) rfl rfl ha ha rfl) rfl rfl (ltb rfl) ?_
  rintro _ w1 ⟨⟨f1, rfl, hf1, lf1⟩, m1⟩
  refine WL.op (op_farith (e := (fop .sub .f32 (fop .mul .f32 x x) 1065353216)) (.inr (.inl rfl)) rfl rfl hf1 rfl rfl) rfl rfl (ltb rfl) ?_
  rintro _ w2 ⟨⟨f2, rfl, hf2, lf2⟩, m2⟩
  refine WL.op (op_farith (e := (fop .mul .f32 x (fop .sub .f32 (fop .mul .f32 x x) 1065353216))) (.inr (.inr (.inl rfl))) rfl rfl ha hf2 rfl) rfl rfl (ltb rfl) ?_
  rintro _ w3 ⟨⟨f3, rfl, hf3, lf3⟩, m3⟩
  refine WL.call (oc_call (vs := [vF f3, vF 1065353216]) (cap := []) rfl rfl rfl Try.call77 (c_clamp f3 (fop .mul .f32 x (fop .sub .f32 (fop .mul .f32 x x) 1065353216)) 1065353216 hf3 lf3 (by decide +kernel) w3)) rfl rfl (ltb rfl) ?_
  rintro _ w4 ⟨r1, rfl, h1, h2, m4⟩
  refine WL.det (op_assign rfl) rfl rfl rfl ?_
  refine WL.end ?_
  refine NE.code ?_
  refine CE.ret' ?_
  refine XE.leave1 Try.results29 rfl ?_
  refine ⟨r1, rfl, ?_, h2, (((((Mod.refl [] w).nt m1).nt m2).nt m3).nt m4)⟩
  all_goals first | assumption | rfl

end Go.Proofs.Ytkgdhlhmckdcmaa
