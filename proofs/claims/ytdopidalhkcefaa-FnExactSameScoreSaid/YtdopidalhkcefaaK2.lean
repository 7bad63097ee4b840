/- What the functions on scores compute: comparisons. -/
import Derived.Test.YtdopidalhkcefaaK1
set_option linter.unusedVariables false
set_option linter.unusedSimpArgs false
namespace Go.Proofs.Ytdopidalhkcefaa

set_option maxRecDepth 100000 in
set_option maxHeartbeats 2000000 in
theorem c_sameEvent (e0 : Int) (e1 : Int) (e2 : Int) (e3 : Int) (e4 : Int) (e5 : Nat) (e0' : Int) (e1' : Int) (e2' : Int) (e3' : Int) (e4' : Int) (e5' : Nat) (w : World) : Cl Try.prog 36 #[.agg #[vI e0, vI e1, vI e2, vI e3, vI e4, vF e5], .agg #[vI e0', vI e1', vI e2', vI e3', vI e4', vF e5']] w fun v w' => v = .bool (evSame (EvR.mk e0 e1 e2 e3 e4 e5) (EvR.mk e0' e1' e2' e3' e4' e5')) ∧ Mod [] w w' := by
  refine Cl.of Try.func36 Try.ntmps36 rfl rfl (ρ := [(0, .agg #[vI e0, vI e1, vI e2, vI e3, vI e4, vF e5]), (1, .agg #[vI e0', vI e1', vI e2', vI e3', vI e4', vF e5'])]) rfl ?_
  refine CE.seq ?_
  refine CE.region ?_
  refine WL.op (op_box (cs := [vI e0, vI e1, vI e2, vI e3, vI e4, vF e5]) rfl rfl) rfl rfl (ltb rfl) ?_
  rintro _ w1 ⟨rfl, r1, m1, z1⟩
  refine WL.op (op_box (cs := [vI e0', vI e1', vI e2', vI e3', vI e4', vF e5']) rfl rfl) rfl rfl (ltb rfl) ?_
  rintro _ w2 ⟨rfl, r2, m2, z2⟩
  refine WL.det (op_assign rfl) rfl rfl rfl ?_
  refine WL.end ?_
  refine NE.code ?_
  refine CE.seq ?_
  refine CE.region ?_
  refine WL.det (op_fieldAddr (off' := 0) rfl Try.runUnderlying73 rfl rfl Try.sizeOf2 rfl) rfl rfl rfl ?_
  refine WL.det (op_load1 (i := 0) rfl Try.isAgg2 (r1.ext m2).rng rfl rfl) rfl rfl rfl ?_
  refine WL.det (op_fieldAddr (off' := 0) rfl Try.runUnderlying73 rfl rfl Try.sizeOf2 rfl) rfl rfl rfl ?_
  refine WL.det (op_load1 (i := 0) rfl Try.isAgg2 r2.rng rfl rfl) rfl rfl rfl ?_
  refine WL.det (op_eqi rfl rfl) rfl rfl rfl ?_
  refine WL.det (op_move rfl) rfl rfl rfl ?_
  rcases Bool.eq_false_or_eq_true ((e0 == e0')) with hb1 | hb1
  · have hp1 := hb1; try simp only [Bool.and_eq_true, Bool.or_eq_true, Bool.not_eq_true', Bool.not_eq_false', Bool.and_eq_false_iff, Bool.or_eq_false_iff, decide_eq_true_eq, decide_eq_false_iff_not, beq_iff_eq, bne_iff_ne, beq_eq_false_iff_ne, bne_eq_false_iff_eq, ne_eq, Bool.false_eq_true, not_false_eq_true, not_true_eq_false, vIn_t, vIn_f] at hp1
    refine WL.yes rfl rfl rfl (ltb rfl) rfl hb1 ?_
    refine WL.det (op_fieldAddr (off' := 1) rfl Try.runUnderlying73 rfl rfl Try.sizeOf2 rfl) rfl rfl rfl ?_
    refine WL.yes rfl rfl rfl (ltb rfl) rfl hb1 ?_
    refine WL.det (op_load1 (i := 1) rfl Try.isAgg2 (r1.ext m2).rng rfl rfl) rfl rfl rfl ?_
    refine WL.yes rfl rfl rfl (ltb rfl) rfl hb1 ?_
    refine WL.det (op_fieldAddr (off' := 1) rfl Try.runUnderlying73 rfl rfl Try.sizeOf2 rfl) rfl rfl rfl ?_
    refine WL.yes rfl rfl rfl (ltb rfl) rfl hb1 ?_
    refine WL.det (op_load1 (i := 1) rfl Try.isAgg2 r2.rng rfl rfl) rfl rfl rfl ?_
    refine WL.yes rfl rfl rfl (ltb rfl) rfl hb1 ?_
    refine WL.det (op_eqi rfl rfl) rfl rfl rfl ?_
    refine WL.det (op_pick_t rfl hb1 rfl) rfl rfl rfl ?_
    refine WL.det (op_move rfl) rfl rfl rfl ?_
    rcases Bool.eq_false_or_eq_true ((e1 == e1')) with hb2 | hb2
    · have hp2 := hb2; try simp only [Bool.and_eq_true, Bool.or_eq_true, Bool.not_eq_true', Bool.not_eq_false', Bool.and_eq_false_iff, Bool.or_eq_false_iff, decide_eq_true_eq, decide_eq_false_iff_not, beq_iff_eq, bne_iff_ne, beq_eq_false_iff_ne, bne_eq_false_iff_eq, ne_eq, Bool.false_eq_true, not_false_eq_true, not_true_eq_false, vIn_t, vIn_f] at hp2
      refine WL.yes rfl rfl rfl (ltb rfl) rfl hb2 ?_
      refine WL.det (op_fieldAddr (off' := 2) rfl Try.runUnderlying73 rfl rfl Try.sizeOf2 rfl) rfl rfl rfl ?_
      refine WL.yes rfl rfl rfl (ltb rfl) rfl hb2 ?_
      refine WL.det (op_load1 (i := 2) rfl Try.isAgg2 (r1.ext m2).rng rfl rfl) rfl rfl rfl ?_
      refine WL.yes rfl rfl rfl (ltb rfl) rfl hb2 ?_
      refine WL.det (op_fieldAddr (off' := 2) rfl Try.runUnderlying73 rfl rfl Try.sizeOf2 rfl) rfl rfl rfl ?_
      refine WL.yes rfl rfl rfl (ltb rfl) rfl hb2 ?_
      refine WL.det (op_load1 (i := 2) rfl Try.isAgg2 r2.rng rfl rfl) rfl rfl rfl ?_
      refine WL.yes rfl rfl rfl (ltb rfl) rfl hb2 ?_
      refine WL.det (op_eqi rfl rfl) rfl rfl rfl ?_
      refine WL.det (op_pick_t rfl hb2 rfl) rfl rfl rfl ?_
      refine WL.det (op_move rfl) rfl rfl rfl ?_
      rcases Bool.eq_false_or_eq_true ((e2 == e2')) with hb3 | hb3
      · have hp3 := hb3; try simp only [Bool.and_eq_true, Bool.or_eq_true, Bool.not_eq_true', Bool.not_eq_false', Bool.and_eq_false_iff, Bool.or_eq_false_iff, decide_eq_true_eq, decide_eq_false_iff_not, beq_iff_eq, bne_iff_ne, beq_eq_false_iff_ne, bne_eq_false_iff_eq, ne_eq, Bool.false_eq_true, not_false_eq_true, not_true_eq_false, vIn_t, vIn_f] at hp3
        refine WL.yes rfl rfl rfl (ltb rfl) rfl hb3 ?_
        refine WL.det (op_fieldAddr (off' := 3) rfl Try.runUnderlying73 rfl rfl Try.sizeOf2 rfl) rfl rfl rfl ?_
        refine WL.yes rfl rfl rfl (ltb rfl) rfl hb3 ?_
        refine WL.det (op_load1 (i := 3) rfl Try.isAgg2 (r1.ext m2).rng rfl rfl) rfl rfl rfl ?_
        refine WL.yes rfl rfl rfl (ltb rfl) rfl hb3 ?_
        refine WL.det (op_fieldAddr (off' := 3) rfl Try.runUnderlying73 rfl rfl Try.sizeOf2 rfl) rfl rfl rfl ?_
        refine WL.yes rfl rfl rfl (ltb rfl) rfl hb3 ?_
        refine WL.det (op_load1 (i := 3) rfl Try.isAgg2 r2.rng rfl rfl) rfl rfl rfl ?_
        refine WL.yes rfl rfl rfl (ltb rfl) rfl hb3 ?_
        refine WL.det (op_eqi rfl rfl) rfl rfl rfl ?_
        refine WL.det (op_pick_t rfl hb3 rfl) rfl rfl rfl ?_
        refine WL.det (op_move rfl) rfl rfl rfl ?_
        rcases Bool.eq_false_or_eq_true ((e3 == e3')) with hb4 | hb4
        · have hp4 := hb4; try simp only [Bool.and_eq_true, Bool.or_eq_true, Bool.not_eq_true', Bool.not_eq_false', Bool.and_eq_false_iff, Bool.or_eq_false_iff, decide_eq_true_eq, decide_eq_false_iff_not, beq_iff_eq, bne_iff_ne, beq_eq_false_iff_ne, bne_eq_false_iff_eq, ne_eq, Bool.false_eq_true, not_false_eq_true, not_true_eq_false, vIn_t, vIn_f] at hp4
          refine WL.yes rfl rfl rfl (ltb rfl) rfl hb4 ?_
          refine WL.det (op_fieldAddr (off' := 4) rfl Try.runUnderlying73 rfl rfl Try.sizeOf2 rfl) rfl rfl rfl ?_
          refine WL.yes rfl rfl rfl (ltb rfl) rfl hb4 ?_
          refine WL.det (op_load1 (i := 4) rfl Try.isAgg2 (r1.ext m2).rng rfl rfl) rfl rfl rfl ?_
          refine WL.yes rfl rfl rfl (ltb rfl) rfl hb4 ?_
          refine WL.det (op_fieldAddr (off' := 4) rfl Try.runUnderlying73 rfl rfl Try.sizeOf2 rfl) rfl rfl rfl ?_
          refine WL.yes rfl rfl rfl (ltb rfl) rfl hb4 ?_
          refine WL.det (op_load1 (i := 4) rfl Try.isAgg2 r2.rng rfl rfl) rfl rfl rfl ?_
          refine WL.yes rfl rfl rfl (ltb rfl) rfl hb4 ?_
          refine WL.det (op_eqi rfl rfl) rfl rfl rfl ?_
          refine WL.det (op_pick_t rfl hb4 rfl) rfl rfl rfl ?_
          refine WL.det (op_move rfl) rfl rfl rfl ?_
          rcases Bool.eq_false_or_eq_true ((e4 == e4')) with hb5 | hb5
          · have hp5 := hb5; try simp only [Bool.and_eq_true, Bool.or_eq_true, Bool.not_eq_true', Bool.not_eq_false', Bool.and_eq_false_iff, Bool.or_eq_false_iff, decide_eq_true_eq, decide_eq_false_iff_not, beq_iff_eq, bne_iff_ne, beq_eq_false_iff_ne, bne_eq_false_iff_eq, ne_eq, Bool.false_eq_true, not_false_eq_true, not_true_eq_false, vIn_t, vIn_f] at hp5
            refine WL.yes rfl rfl rfl (ltb rfl) rfl hb5 ?_
            refine WL.det (op_fieldAddr (off' := 5) rfl Try.runUnderlying73 rfl rfl Try.sizeOf22 rfl) rfl rfl rfl ?_
            refine WL.yes rfl rfl rfl (ltb rfl) rfl hb5 ?_
            refine WL.det (op_load1 (i := 5) rfl Try.isAgg22 (r1.ext m2).rng rfl rfl) rfl rfl rfl ?_
            refine WL.yes rfl rfl rfl (ltb rfl) rfl hb5 ?_
            refine WL.det (op_fieldAddr (off' := 5) rfl Try.runUnderlying73 rfl rfl Try.sizeOf22 rfl) rfl rfl rfl ?_
            refine WL.yes rfl rfl rfl (ltb rfl) rfl hb5 ?_
            refine WL.det (op_load1 (i := 5) rfl Try.isAgg22 r2.rng rfl rfl) rfl rfl rfl ?_
            refine WL.yes rfl rfl rfl (ltb rfl) rfl hb5 ?_
            refine WL.call (oc_call (vs := [vF e5, vF e5']) (cap := []) rfl rfl rfl Try.call58 (c_SameSample e5 e5 e5' e5' rfl rfl w2)) rfl rfl (ltb rfl) ?_
            rintro _ _ ⟨rfl, rfl⟩
            refine WL.det (op_pick_t rfl hb5 rfl) rfl rfl rfl ?_
            refine WL.det (op_assign rfl) rfl rfl rfl ?_
            refine WL.end ?_
            refine NE.code ?_
            refine CE.ret' ?_
            refine XE.leave1 Try.results36 rfl ?_
            refine ⟨?_, (((Mod.refl [] w).nt m1).nt m2)⟩
            all_goals simp_all [evSame]
          · have hp5 := hb5; try simp only [Bool.and_eq_true, Bool.or_eq_true, Bool.not_eq_true', Bool.not_eq_false', Bool.and_eq_false_iff, Bool.or_eq_false_iff, decide_eq_true_eq, decide_eq_false_iff_not, beq_iff_eq, bne_iff_ne, beq_eq_false_iff_ne, bne_eq_false_iff_eq, ne_eq, Bool.false_eq_true, not_false_eq_true, not_true_eq_false, vIn_t, vIn_f] at hp5
            refine WL.no rfl rfl rfl (ltb rfl) rfl hb5 rfl (ltb rfl) ?_
            refine WL.no rfl rfl rfl (ltb rfl) rfl hb5 rfl (ltb rfl) ?_
            refine WL.no rfl rfl rfl (ltb rfl) rfl hb5 rfl (ltb rfl) ?_
            refine WL.no rfl rfl rfl (ltb rfl) rfl hb5 rfl (ltb rfl) ?_
            refine WL.no rfl rfl rfl (ltb rfl) rfl hb5 rfl (ltb rfl) ?_
            refine WL.det (op_pick_f rfl hb5 rfl) rfl rfl rfl ?_
            refine WL.det (op_assign rfl) rfl rfl rfl ?_
            refine WL.end ?_
            refine NE.code ?_
            refine CE.ret' ?_
            refine XE.leave1 Try.results36 rfl ?_
            refine ⟨?_, (((Mod.refl [] w).nt m1).nt m2)⟩
            all_goals simp_all [evSame]
        · have hp4 := hb4; try simp only [Bool.and_eq_true, Bool.or_eq_true, Bool.not_eq_true', Bool.not_eq_false', Bool.and_eq_false_iff, Bool.or_eq_false_iff, decide_eq_true_eq, decide_eq_false_iff_not, beq_iff_eq, bne_iff_ne, beq_eq_false_iff_ne, bne_eq_false_iff_eq, ne_eq, Bool.false_eq_true, not_false_eq_true, not_true_eq_false, vIn_t, vIn_f] at hp4
          refine WL.no rfl rfl rfl (ltb rfl) rfl hb4 rfl (ltb rfl) ?_
          refine WL.no rfl rfl rfl (ltb rfl) rfl hb4 rfl (ltb rfl) ?_
          refine WL.no rfl rfl rfl (ltb rfl) rfl hb4 rfl (ltb rfl) ?_
          refine WL.no rfl rfl rfl (ltb rfl) rfl hb4 rfl (ltb rfl) ?_
          refine WL.no rfl rfl rfl (ltb rfl) rfl hb4 rfl (ltb rfl) ?_
          refine WL.det (op_pick_f rfl hb4 rfl) rfl rfl rfl ?_
          refine WL.det (op_move rfl) rfl rfl rfl ?_
          refine WL.no rfl rfl rfl (ltb rfl) rfl rfl rfl (ltb rfl) ?_
          refine WL.no rfl rfl rfl (ltb rfl) rfl rfl rfl (ltb rfl) ?_
          refine WL.no rfl rfl rfl (ltb rfl) rfl rfl rfl (ltb rfl) ?_
          refine WL.no rfl rfl rfl (ltb rfl) rfl rfl rfl (ltb rfl) ?_
          refine WL.no rfl rfl rfl (ltb rfl) rfl rfl rfl (ltb rfl) ?_
          refine WL.det (op_pick_f rfl rfl rfl) rfl rfl rfl ?_
          refine WL.det (op_assign rfl) rfl rfl rfl ?_
          refine WL.end ?_
          refine NE.code ?_
          refine CE.ret' ?_
          refine XE.leave1 Try.results36 rfl ?_
          refine ⟨?_, (((Mod.refl [] w).nt m1).nt m2)⟩
          all_goals simp_all [evSame]
      · have hp3 := hb3; try simp only [Bool.and_eq_true, Bool.or_eq_true, Bool.not_eq_true', Bool.not_eq_false', Bool.and_eq_false_iff, Bool.or_eq_false_iff, decide_eq_true_eq, decide_eq_false_iff_not, beq_iff_eq, bne_iff_ne, beq_eq_false_iff_ne, bne_eq_false_iff_eq, ne_eq, Bool.false_eq_true, not_false_eq_true, not_true_eq_false, vIn_t, vIn_f] at hp3
        refine WL.no rfl rfl rfl (ltb rfl) rfl hb3 rfl (ltb rfl) ?_
        refine WL.no rfl rfl rfl (ltb rfl) rfl hb3 rfl (ltb rfl) ?_
        refine WL.no rfl rfl rfl (ltb rfl) rfl hb3 rfl (ltb rfl) ?_
        refine WL.no rfl rfl rfl (ltb rfl) rfl hb3 rfl (ltb rfl) ?_
        refine WL.no rfl rfl rfl (ltb rfl) rfl hb3 rfl (ltb rfl) ?_
        refine WL.det (op_pick_f rfl hb3 rfl) rfl rfl rfl ?_
        refine WL.det (op_move rfl) rfl rfl rfl ?_
        refine WL.no rfl rfl rfl (ltb rfl) rfl rfl rfl (ltb rfl) ?_
        refine WL.no rfl rfl rfl (ltb rfl) rfl rfl rfl (ltb rfl) ?_
        refine WL.no rfl rfl rfl (ltb rfl) rfl rfl rfl (ltb rfl) ?_
        refine WL.no rfl rfl rfl (ltb rfl) rfl rfl rfl (ltb rfl) ?_
        refine WL.no rfl rfl rfl (ltb rfl) rfl rfl rfl (ltb rfl) ?_
        refine WL.det (op_pick_f rfl rfl rfl) rfl rfl rfl ?_
        refine WL.det (op_move rfl) rfl rfl rfl ?_
        refine WL.no rfl rfl rfl (ltb rfl) rfl rfl rfl (ltb rfl) ?_
        refine WL.no rfl rfl rfl (ltb rfl) rfl rfl rfl (ltb rfl) ?_
        refine WL.no rfl rfl rfl (ltb rfl) rfl rfl rfl (ltb rfl) ?_
        refine WL.no rfl rfl rfl (ltb rfl) rfl rfl rfl (ltb rfl) ?_
        refine WL.no rfl rfl rfl (ltb rfl) rfl rfl rfl (ltb rfl) ?_
        refine WL.det (op_pick_f rfl rfl rfl) rfl rfl rfl ?_
        refine WL.det (op_assign rfl) rfl rfl rfl ?_
        refine WL.end ?_
        refine NE.code ?_
        refine CE.ret' ?_
        refine XE.leave1 Try.results36 rfl ?_
        refine ⟨?_, (((Mod.refl [] w).nt m1).nt m2)⟩
        all_goals simp_all [evSame]
    · have hp2 := hb2; try simp only [Bool.and_eq_true, Bool.or_eq_true, Bool.not_eq_true', Bool.not_eq_false', Bool.and_eq_false_iff, Bool.or_eq_false_iff, decide_eq_true_eq, decide_eq_false_iff_not, beq_iff_eq, bne_iff_ne, beq_eq_false_iff_ne, bne_eq_false_iff_eq, ne_eq, Bool.false_eq_true, not_false_eq_true, not_true_eq_false, vIn_t, vIn_f] at hp2
      refine WL.no rfl rfl rfl (ltb rfl) rfl hb2 rfl (ltb rfl) ?_
      refine WL.no rfl rfl rfl (ltb rfl) rfl hb2 rfl (ltb rfl) ?_
      refine WL.no rfl rfl rfl (ltb rfl) rfl hb2 rfl (ltb rfl) ?_
      refine WL.no rfl rfl rfl (ltb rfl) rfl hb2 rfl (ltb rfl) ?_
      refine WL.no rfl rfl rfl (ltb rfl) rfl hb2 rfl (ltb rfl) ?_
      refine WL.det (op_pick_f rfl hb2 rfl) rfl rfl rfl ?_
      refine WL.det (op_move rfl) rfl rfl rfl ?_
      refine WL.no rfl rfl rfl (ltb rfl) rfl rfl rfl (ltb rfl) ?_
      refine WL.no rfl rfl rfl (ltb rfl) rfl rfl rfl (ltb rfl) ?_
      refine WL.no rfl rfl rfl (ltb rfl) rfl rfl rfl (ltb rfl) ?_
      refine WL.no rfl rfl rfl (ltb rfl) rfl rfl rfl (ltb rfl) ?_
      refine WL.no rfl rfl rfl (ltb rfl) rfl rfl rfl (ltb rfl) ?_
      refine WL.det (op_pick_f rfl rfl rfl) rfl rfl rfl ?_
      refine WL.det (op_move rfl) rfl rfl rfl ?_
      refine WL.no rfl rfl rfl (ltb rfl) rfl rfl rfl (ltb rfl) ?_
      refine WL.no rfl rfl rfl (ltb rfl) rfl rfl rfl (ltb rfl) ?_
      refine WL.no rfl rfl rfl (ltb rfl) rfl rfl rfl (ltb rfl) ?_
      refine WL.no rfl rfl rfl (ltb rfl) rfl rfl rfl (ltb rfl) ?_
      refine WL.no rfl rfl rfl (ltb rfl) rfl rfl rfl (ltb rfl) ?_
      refine WL.det (op_pick_f rfl rfl rfl) rfl rfl rfl ?_
      refine WL.det (op_move rfl) rfl rfl rfl ?_
      refine WL.no rfl rfl rfl (ltb rfl) rfl rfl rfl (ltb rfl) ?_
      refine WL.no rfl rfl rfl (ltb rfl) rfl rfl rfl (ltb rfl) ?_
      refine WL.no rfl rfl rfl (ltb rfl) rfl rfl rfl (ltb rfl) ?_
      refine WL.no rfl rfl rfl (ltb rfl) rfl rfl rfl (ltb rfl) ?_
      refine WL.no rfl rfl rfl (ltb rfl) rfl rfl rfl (ltb rfl) ?_
      refine WL.det (op_pick_f rfl rfl rfl) rfl rfl rfl ?_
      refine WL.det (op_assign rfl) rfl rfl rfl ?_
      refine WL.end ?_
      refine NE.code ?_
      refine CE.ret' ?_
      refine XE.leave1 Try.results36 rfl ?_
      refine ⟨?_, (((Mod.refl [] w).nt m1).nt m2)⟩
      all_goals simp_all [evSame]
  · have hp1 := hb1; try simp only [Bool.and_eq_true, Bool.or_eq_true, Bool.not_eq_true', Bool.not_eq_false', Bool.and_eq_false_iff, Bool.or_eq_false_iff, decide_eq_true_eq, decide_eq_false_iff_not, beq_iff_eq, bne_iff_ne, beq_eq_false_iff_ne, bne_eq_false_iff_eq, ne_eq, Bool.false_eq_true, not_false_eq_true, not_true_eq_false, vIn_t, vIn_f] at hp1
    refine WL.no rfl rfl rfl (ltb rfl) rfl hb1 rfl (ltb rfl) ?_
    refine WL.no rfl rfl rfl (ltb rfl) rfl hb1 rfl (ltb rfl) ?_
    refine WL.no rfl rfl rfl (ltb rfl) rfl hb1 rfl (ltb rfl) ?_
    refine WL.no rfl rfl rfl (ltb rfl) rfl hb1 rfl (ltb rfl) ?_
    refine WL.no rfl rfl rfl (ltb rfl) rfl hb1 rfl (ltb rfl) ?_
    refine WL.det (op_pick_f rfl hb1 rfl) rfl rfl rfl ?_
    refine WL.det (op_move rfl) rfl rfl rfl ?_
    refine WL.no rfl rfl rfl (ltb rfl) rfl rfl rfl (ltb rfl) ?_
    refine WL.no rfl rfl rfl (ltb rfl) rfl rfl rfl (ltb rfl) ?_
    refine WL.no rfl rfl rfl (ltb rfl) rfl rfl rfl (ltb rfl) ?_
    refine WL.no rfl rfl rfl (ltb rfl) rfl rfl rfl (ltb rfl) ?_
    refine WL.no rfl rfl rfl (ltb rfl) rfl rfl rfl (ltb rfl) ?_
    refine WL.det (op_pick_f rfl rfl rfl) rfl rfl rfl ?_
    refine WL.det (op_move rfl) rfl rfl rfl ?_
    refine WL.no rfl rfl rfl (ltb rfl) rfl rfl rfl (ltb rfl) ?_
    refine WL.no rfl rfl rfl (ltb rfl) rfl rfl rfl (ltb rfl) ?_
    refine WL.no rfl rfl rfl (ltb rfl) rfl rfl rfl (ltb rfl) ?_
    refine WL.no rfl rfl rfl (ltb rfl) rfl rfl rfl (ltb rfl) ?_
    refine WL.no rfl rfl rfl (ltb rfl) rfl rfl rfl (ltb rfl) ?_
    refine WL.det (op_pick_f rfl rfl rfl) rfl rfl rfl ?_
    refine WL.det (op_move rfl) rfl rfl rfl ?_
    refine WL.no rfl rfl rfl (ltb rfl) rfl rfl rfl (ltb rfl) ?_
    refine WL.no rfl rfl rfl (ltb rfl) rfl rfl rfl (ltb rfl) ?_
    refine WL.no rfl rfl rfl (ltb rfl) rfl rfl rfl (ltb rfl) ?_
    refine WL.no rfl rfl rfl (ltb rfl) rfl rfl rfl (ltb rfl) ?_
    refine WL.no rfl rfl rfl (ltb rfl) rfl rfl rfl (ltb rfl) ?_
    refine WL.det (op_pick_f rfl rfl rfl) rfl rfl rfl ?_
    refine WL.det (op_move rfl) rfl rfl rfl ?_
    refine WL.no rfl rfl rfl (ltb rfl) rfl rfl rfl (ltb rfl) ?_
    refine WL.no rfl rfl rfl (ltb rfl) rfl rfl rfl (ltb rfl) ?_
    refine WL.no rfl rfl rfl (ltb rfl) rfl rfl rfl (ltb rfl) ?_
    refine WL.no rfl rfl rfl (ltb rfl) rfl rfl rfl (ltb rfl) ?_
    refine WL.no rfl rfl rfl (ltb rfl) rfl rfl rfl (ltb rfl) ?_
    refine WL.det (op_pick_f rfl rfl rfl) rfl rfl rfl ?_
    refine WL.det (op_assign rfl) rfl rfl rfl ?_
    refine WL.end ?_
    refine NE.code ?_
    refine CE.ret' ?_
    refine XE.leave1 Try.results36 rfl ?_
    refine ⟨?_, (((Mod.refl [] w).nt m1).nt m2)⟩
    all_goals simp_all [evSame]

set_option maxRecDepth 100000 in
set_option maxHeartbeats 2000000 in
theorem c_sameIns1 (nm : ByteArray) (kd : Int) (fa : Nat) (fb : Nat) (fc : Nat) (nm' : ByteArray) (kd' : Int) (fa' : Nat) (fb' : Nat) (fc' : Nat) (w : World) : Cl Try.prog 68 #[.agg #[.string nm, vI kd, vF fa, vF fb, vF fc], .agg #[.string nm', vI kd', vF fa', vF fb', vF fc']] w fun v w' => v = .bool (inSame (InR.mk nm kd fa fb fc) (InR.mk nm' kd' fa' fb' fc')) ∧ Mod [] w w' := by
  refine Cl.of Try.func68 Try.ntmps68 rfl rfl (ρ := [(0, .agg #[.string nm, vI kd, vF fa, vF fb, vF fc]), (1, .agg #[.string nm', vI kd', vF fa', vF fb', vF fc'])]) rfl ?_
  refine CE.seq ?_
  refine CE.region ?_
  refine WL.op (op_box (cs := [.string nm, vI kd, vF fa, vF fb, vF fc]) rfl rfl) rfl rfl (ltb rfl) ?_
  rintro _ w1 ⟨rfl, r1, m1, z1⟩
  refine WL.op (op_box (cs := [.string nm', vI kd', vF fa', vF fb', vF fc']) rfl rfl) rfl rfl (ltb rfl) ?_
  rintro _ w2 ⟨rfl, r2, m2, z2⟩
  refine WL.det (op_assign rfl) rfl rfl rfl ?_
  refine WL.end ?_
  refine NE.code ?_
  refine CE.seq ?_
  refine CE.region ?_
  refine WL.det (op_fieldAddr (off' := 0) rfl Try.runUnderlying93 rfl rfl Try.sizeOf9 rfl) rfl rfl rfl ?_
  refine WL.det (op_load1 (i := 0) rfl Try.isAgg9 (r1.ext m2).rng rfl rfl) rfl rfl rfl ?_
  refine WL.det (op_fieldAddr (off' := 0) rfl Try.runUnderlying93 rfl rfl Try.sizeOf9 rfl) rfl rfl rfl ?_
  refine WL.det (op_load1 (i := 0) rfl Try.isAgg9 r2.rng rfl rfl) rfl rfl rfl ?_
  refine WL.det (op_eqs rfl rfl) rfl rfl rfl ?_
  refine WL.det (op_move rfl) rfl rfl rfl ?_
  rcases Bool.eq_false_or_eq_true (sEq nm nm') with hb1 | hb1
  · refine WL.yes rfl rfl rfl (ltb rfl) rfl hb1 ?_
    refine WL.det (op_fieldAddr (off' := 1) rfl Try.runUnderlying93 rfl rfl Try.sizeOf2 rfl) rfl rfl rfl ?_
    refine WL.yes rfl rfl rfl (ltb rfl) rfl hb1 ?_
    refine WL.det (op_load1 (i := 1) rfl Try.isAgg2 (r1.ext m2).rng rfl rfl) rfl rfl rfl ?_
    refine WL.yes rfl rfl rfl (ltb rfl) rfl hb1 ?_
    refine WL.det (op_fieldAddr (off' := 1) rfl Try.runUnderlying93 rfl rfl Try.sizeOf2 rfl) rfl rfl rfl ?_
    refine WL.yes rfl rfl rfl (ltb rfl) rfl hb1 ?_
    refine WL.det (op_load1 (i := 1) rfl Try.isAgg2 r2.rng rfl rfl) rfl rfl rfl ?_
    refine WL.yes rfl rfl rfl (ltb rfl) rfl hb1 ?_
    refine WL.det (op_eqi rfl rfl) rfl rfl rfl ?_
    refine WL.det (op_pick_t rfl hb1 rfl) rfl rfl rfl ?_
    refine WL.det (op_move rfl) rfl rfl rfl ?_
    rcases Bool.eq_false_or_eq_true ((kd == kd')) with hb2 | hb2
    · have hp2 := hb2; try simp only [Bool.and_eq_true, Bool.or_eq_true, Bool.not_eq_true', Bool.not_eq_false', Bool.and_eq_false_iff, Bool.or_eq_false_iff, decide_eq_true_eq, decide_eq_false_iff_not, beq_iff_eq, bne_iff_ne, beq_eq_false_iff_ne, bne_eq_false_iff_eq, ne_eq, Bool.false_eq_true, not_false_eq_true, not_true_eq_false, vIn_t, vIn_f] at hp2
      refine WL.yes rfl rfl rfl (ltb rfl) rfl hb2 ?_
      refine WL.det (op_fieldAddr (off' := 2) rfl Try.runUnderlying93 rfl rfl Try.sizeOf22 rfl) rfl rfl rfl ?_
      refine WL.yes rfl rfl rfl (ltb rfl) rfl hb2 ?_
      refine WL.det (op_load1 (i := 2) rfl Try.isAgg22 (r1.ext m2).rng rfl rfl) rfl rfl rfl ?_
      refine WL.yes rfl rfl rfl (ltb rfl) rfl hb2 ?_
      refine WL.det (op_fieldAddr (off' := 2) rfl Try.runUnderlying93 rfl rfl Try.sizeOf22 rfl) rfl rfl rfl ?_
      refine WL.yes rfl rfl rfl (ltb rfl) rfl hb2 ?_
      refine WL.det (op_load1 (i := 2) rfl Try.isAgg22 r2.rng rfl rfl) rfl rfl rfl ?_
      refine WL.yes rfl rfl rfl (ltb rfl) rfl hb2 ?_
      refine WL.call (oc_call (vs := [vF fa, vF fa']) (cap := []) rfl rfl rfl Try.call58 (c_SameSample fa fa fa' fa' rfl rfl w2)) rfl rfl (ltb rfl) ?_
      rintro _ _ ⟨rfl, rfl⟩
      refine WL.det (op_pick_t rfl hb2 rfl) rfl rfl rfl ?_
      refine WL.det (op_move rfl) rfl rfl rfl ?_
      rcases Bool.eq_false_or_eq_true ((cn .f32 fa == cn .f32 fa')) with hb3 | hb3
      · have hp3 := hb3; try simp only [Bool.and_eq_true, Bool.or_eq_true, Bool.not_eq_true', Bool.not_eq_false', Bool.and_eq_false_iff, Bool.or_eq_false_iff, decide_eq_true_eq, decide_eq_false_iff_not, beq_iff_eq, bne_iff_ne, beq_eq_false_iff_ne, bne_eq_false_iff_eq, ne_eq, Bool.false_eq_true, not_false_eq_true, not_true_eq_false, vIn_t, vIn_f] at hp3
        refine WL.yes rfl rfl rfl (ltb rfl) rfl hb3 ?_
        refine WL.det (op_fieldAddr (off' := 3) rfl Try.runUnderlying93 rfl rfl Try.sizeOf22 rfl) rfl rfl rfl ?_
        refine WL.yes rfl rfl rfl (ltb rfl) rfl hb3 ?_
        refine WL.det (op_load1 (i := 3) rfl Try.isAgg22 (r1.ext m2).rng rfl rfl) rfl rfl rfl ?_
        refine WL.yes rfl rfl rfl (ltb rfl) rfl hb3 ?_
        refine WL.det (op_fieldAddr (off' := 3) rfl Try.runUnderlying93 rfl rfl Try.sizeOf22 rfl) rfl rfl rfl ?_
        refine WL.yes rfl rfl rfl (ltb rfl) rfl hb3 ?_
        refine WL.det (op_load1 (i := 3) rfl Try.isAgg22 r2.rng rfl rfl) rfl rfl rfl ?_
        refine WL.yes rfl rfl rfl (ltb rfl) rfl hb3 ?_
        refine WL.call (oc_call (vs := [vF fb, vF fb']) (cap := []) rfl rfl rfl Try.call58 (c_SameSample fb fb fb' fb' rfl rfl w2)) rfl rfl (ltb rfl) ?_
        rintro _ _ ⟨rfl, rfl⟩
        refine WL.det (op_pick_t rfl hb3 rfl) rfl rfl rfl ?_
        refine WL.det (op_move rfl) rfl rfl rfl ?_
        rcases Bool.eq_false_or_eq_true ((cn .f32 fb == cn .f32 fb')) with hb4 | hb4
        · have hp4 := hb4; try simp only [Bool.and_eq_true, Bool.or_eq_true, Bool.not_eq_true', Bool.not_eq_false', Bool.and_eq_false_iff, Bool.or_eq_false_iff, decide_eq_true_eq, decide_eq_false_iff_not, beq_iff_eq, bne_iff_ne, beq_eq_false_iff_ne, bne_eq_false_iff_eq, ne_eq, Bool.false_eq_true, not_false_eq_true, not_true_eq_false, vIn_t, vIn_f] at hp4
          refine WL.yes rfl rfl rfl (ltb rfl) rfl hb4 ?_
          refine WL.det (op_fieldAddr (off' := 4) rfl Try.runUnderlying93 rfl rfl Try.sizeOf22 rfl) rfl rfl rfl ?_
          refine WL.yes rfl rfl rfl (ltb rfl) rfl hb4 ?_
          refine WL.det (op_load1 (i := 4) rfl Try.isAgg22 (r1.ext m2).rng rfl rfl) rfl rfl rfl ?_
          refine WL.yes rfl rfl rfl (ltb rfl) rfl hb4 ?_
          refine WL.det (op_fieldAddr (off' := 4) rfl Try.runUnderlying93 rfl rfl Try.sizeOf22 rfl) rfl rfl rfl ?_
          refine WL.yes rfl rfl rfl (ltb rfl) rfl hb4 ?_
          refine WL.det (op_load1 (i := 4) rfl Try.isAgg22 r2.rng rfl rfl) rfl rfl rfl ?_
          refine WL.yes rfl rfl rfl (ltb rfl) rfl hb4 ?_
          refine WL.call (oc_call (vs := [vF fc, vF fc']) (cap := []) rfl rfl rfl Try.call58 (c_SameSample fc fc fc' fc' rfl rfl w2)) rfl rfl (ltb rfl) ?_
          rintro _ _ ⟨rfl, rfl⟩
          refine WL.det (op_pick_t rfl hb4 rfl) rfl rfl rfl ?_
          refine WL.det (op_assign rfl) rfl rfl rfl ?_
          refine WL.end ?_
          refine NE.code ?_
          refine CE.ret' ?_
          refine XE.leave1 Try.results68 rfl ?_
          refine ⟨?_, (((Mod.refl [] w).nt m1).nt m2)⟩
          all_goals simp_all [inSame]
        · have hp4 := hb4; try simp only [Bool.and_eq_true, Bool.or_eq_true, Bool.not_eq_true', Bool.not_eq_false', Bool.and_eq_false_iff, Bool.or_eq_false_iff, decide_eq_true_eq, decide_eq_false_iff_not, beq_iff_eq, bne_iff_ne, beq_eq_false_iff_ne, bne_eq_false_iff_eq, ne_eq, Bool.false_eq_true, not_false_eq_true, not_true_eq_false, vIn_t, vIn_f] at hp4
          refine WL.no rfl rfl rfl (ltb rfl) rfl hb4 rfl (ltb rfl) ?_
          refine WL.no rfl rfl rfl (ltb rfl) rfl hb4 rfl (ltb rfl) ?_
          refine WL.no rfl rfl rfl (ltb rfl) rfl hb4 rfl (ltb rfl) ?_
          refine WL.no rfl rfl rfl (ltb rfl) rfl hb4 rfl (ltb rfl) ?_
          refine WL.no rfl rfl rfl (ltb rfl) rfl hb4 rfl (ltb rfl) ?_
          refine WL.det (op_pick_f rfl hb4 rfl) rfl rfl rfl ?_
          refine WL.det (op_assign rfl) rfl rfl rfl ?_
          refine WL.end ?_
          refine NE.code ?_
          refine CE.ret' ?_
          refine XE.leave1 Try.results68 rfl ?_
          refine ⟨?_, (((Mod.refl [] w).nt m1).nt m2)⟩
          all_goals simp_all [inSame]
      · have hp3 := hb3; try simp only [Bool.and_eq_true, Bool.or_eq_true, Bool.not_eq_true', Bool.not_eq_false', Bool.and_eq_false_iff, Bool.or_eq_false_iff, decide_eq_true_eq, decide_eq_false_iff_not, beq_iff_eq, bne_iff_ne, beq_eq_false_iff_ne, bne_eq_false_iff_eq, ne_eq, Bool.false_eq_true, not_false_eq_true, not_true_eq_false, vIn_t, vIn_f] at hp3
        refine WL.no rfl rfl rfl (ltb rfl) rfl hb3 rfl (ltb rfl) ?_
        refine WL.no rfl rfl rfl (ltb rfl) rfl hb3 rfl (ltb rfl) ?_
        refine WL.no rfl rfl rfl (ltb rfl) rfl hb3 rfl (ltb rfl) ?_
        refine WL.no rfl rfl rfl (ltb rfl) rfl hb3 rfl (ltb rfl) ?_
        refine WL.no rfl rfl rfl (ltb rfl) rfl hb3 rfl (ltb rfl) ?_
        refine WL.det (op_pick_f rfl hb3 rfl) rfl rfl rfl ?_
        refine WL.det (op_move rfl) rfl rfl rfl ?_
        refine WL.no rfl rfl rfl (ltb rfl) rfl rfl rfl (ltb rfl) ?_
        refine WL.no rfl rfl rfl (ltb rfl) rfl rfl rfl (ltb rfl) ?_
        refine WL.no rfl rfl rfl (ltb rfl) rfl rfl rfl (ltb rfl) ?_
        refine WL.no rfl rfl rfl (ltb rfl) rfl rfl rfl (ltb rfl) ?_
        refine WL.no rfl rfl rfl (ltb rfl) rfl rfl rfl (ltb rfl) ?_
        refine WL.det (op_pick_f rfl rfl rfl) rfl rfl rfl ?_
        refine WL.det (op_assign rfl) rfl rfl rfl ?_
        refine WL.end ?_
        refine NE.code ?_
        refine CE.ret' ?_
        refine XE.leave1 Try.results68 rfl ?_
        refine ⟨?_, (((Mod.refl [] w).nt m1).nt m2)⟩
        all_goals simp_all [inSame]
    · have hp2 := hb2; try simp only [Bool.and_eq_true, Bool.or_eq_true, Bool.not_eq_true', Bool.not_eq_false', Bool.and_eq_false_iff, Bool.or_eq_false_iff, decide_eq_true_eq, decide_eq_false_iff_not, beq_iff_eq, bne_iff_ne, beq_eq_false_iff_ne, bne_eq_false_iff_eq, ne_eq, Bool.false_eq_true, not_false_eq_true, not_true_eq_false, vIn_t, vIn_f] at hp2
      refine WL.no rfl rfl rfl (ltb rfl) rfl hb2 rfl (ltb rfl) ?_
      refine WL.no rfl rfl rfl (ltb rfl) rfl hb2 rfl (ltb rfl) ?_
      refine WL.no rfl rfl rfl (ltb rfl) rfl hb2 rfl (ltb rfl) ?_
      refine WL.no rfl rfl rfl (ltb rfl) rfl hb2 rfl (ltb rfl) ?_
      refine WL.no rfl rfl rfl (ltb rfl) rfl hb2 rfl (ltb rfl) ?_
      refine WL.det (op_pick_f rfl hb2 rfl) rfl rfl rfl ?_
      refine WL.det (op_move rfl) rfl rfl rfl ?_
      refine WL.no rfl rfl rfl (ltb rfl) rfl rfl rfl (ltb rfl) ?_
      refine WL.no rfl rfl rfl (ltb rfl) rfl rfl rfl (ltb rfl) ?_
      refine WL.no rfl rfl rfl (ltb rfl) rfl rfl rfl (ltb rfl) ?_
      refine WL.no rfl rfl rfl (ltb rfl) rfl rfl rfl (ltb rfl) ?_
      refine WL.no rfl rfl rfl (ltb rfl) rfl rfl rfl (ltb rfl) ?_
      refine WL.det (op_pick_f rfl rfl rfl) rfl rfl rfl ?_
      refine WL.det (op_move rfl) rfl rfl rfl ?_
      refine WL.no rfl rfl rfl (ltb rfl) rfl rfl rfl (ltb rfl) ?_
      refine WL.no rfl rfl rfl (ltb rfl) rfl rfl rfl (ltb rfl) ?_
      refine WL.no rfl rfl rfl (ltb rfl) rfl rfl rfl (ltb rfl) ?_
      refine WL.no rfl rfl rfl (ltb rfl) rfl rfl rfl (ltb rfl) ?_
      refine WL.no rfl rfl rfl (ltb rfl) rfl rfl rfl (ltb rfl) ?_
      refine WL.det (op_pick_f rfl rfl rfl) rfl rfl rfl ?_
      refine WL.det (op_assign rfl) rfl rfl rfl ?_
      refine WL.end ?_
      refine NE.code ?_
      refine CE.ret' ?_
      refine XE.leave1 Try.results68 rfl ?_
      refine ⟨?_, (((Mod.refl [] w).nt m1).nt m2)⟩
      all_goals simp_all [inSame]
  · refine WL.no rfl rfl rfl (ltb rfl) rfl hb1 rfl (ltb rfl) ?_
    refine WL.no rfl rfl rfl (ltb rfl) rfl hb1 rfl (ltb rfl) ?_
    refine WL.no rfl rfl rfl (ltb rfl) rfl hb1 rfl (ltb rfl) ?_
    refine WL.no rfl rfl rfl (ltb rfl) rfl hb1 rfl (ltb rfl) ?_
    refine WL.no rfl rfl rfl (ltb rfl) rfl hb1 rfl (ltb rfl) ?_
    refine WL.det (op_pick_f rfl hb1 rfl) rfl rfl rfl ?_
    refine WL.det (op_move rfl) rfl rfl rfl ?_
    refine WL.no rfl rfl rfl (ltb rfl) rfl rfl rfl (ltb rfl) ?_
    refine WL.no rfl rfl rfl (ltb rfl) rfl rfl rfl (ltb rfl) ?_
    refine WL.no rfl rfl rfl (ltb rfl) rfl rfl rfl (ltb rfl) ?_
    refine WL.no rfl rfl rfl (ltb rfl) rfl rfl rfl (ltb rfl) ?_
    refine WL.no rfl rfl rfl (ltb rfl) rfl rfl rfl (ltb rfl) ?_
    refine WL.det (op_pick_f rfl rfl rfl) rfl rfl rfl ?_
    refine WL.det (op_move rfl) rfl rfl rfl ?_
    refine WL.no rfl rfl rfl (ltb rfl) rfl rfl rfl (ltb rfl) ?_
    refine WL.no rfl rfl rfl (ltb rfl) rfl rfl rfl (ltb rfl) ?_
    refine WL.no rfl rfl rfl (ltb rfl) rfl rfl rfl (ltb rfl) ?_
    refine WL.no rfl rfl rfl (ltb rfl) rfl rfl rfl (ltb rfl) ?_
    refine WL.no rfl rfl rfl (ltb rfl) rfl rfl rfl (ltb rfl) ?_
    refine WL.det (op_pick_f rfl rfl rfl) rfl rfl rfl ?_
    refine WL.det (op_move rfl) rfl rfl rfl ?_
    refine WL.no rfl rfl rfl (ltb rfl) rfl rfl rfl (ltb rfl) ?_
    refine WL.no rfl rfl rfl (ltb rfl) rfl rfl rfl (ltb rfl) ?_
    refine WL.no rfl rfl rfl (ltb rfl) rfl rfl rfl (ltb rfl) ?_
    refine WL.no rfl rfl rfl (ltb rfl) rfl rfl rfl (ltb rfl) ?_
    refine WL.no rfl rfl rfl (ltb rfl) rfl rfl rfl (ltb rfl) ?_
    refine WL.det (op_pick_f rfl rfl rfl) rfl rfl rfl ?_
    refine WL.det (op_assign rfl) rfl rfl rfl ?_
    refine WL.end ?_
    refine NE.code ?_
    refine CE.ret' ?_
    refine XE.leave1 Try.results68 rfl ?_
    refine ⟨?_, (((Mod.refl [] w).nt m1).nt m2)⟩
    all_goals simp_all [inSame]

set_option maxRecDepth 100000 in
set_option maxHeartbeats 2000000 in
theorem c_l02SameList (n : Nat) (c : Nat) (A : Option Addr) (b : Nat) (o : Nat) (es : List Nat) (n' : Nat) (c' : Nat) (A' : Option Addr) (b' : Nat) (o' : Nat) (es' : List Nat) (ln : es.length = n) (hA : 0 < n → A = some ⟨b, o, none⟩) (ln' : es'.length = n') (hA' : 0 < n' → A' = some ⟨b', o', none⟩) (hnn : n ≤ 1048576) (hnn' : n' ≤ 1048576) (w : World) (r : Rng w b o (fl es)) (r' : Rng w b' o' (fl es')) : Cl Try.prog 54 #[.slice A n c, .slice A' n' c'] w fun v w' => v = .bool (sameL sameW 0 es n es' n') ∧ Mod [] w w' := by
  refine Cl.of Try.func54 Try.ntmps54 rfl rfl (ρ := [(0, .slice A n c), (1, .slice A' n' c')]) rfl ?_
  refine CE.seq ?_
  refine CE.region ?_
  refine WL.det (op_assign rfl) rfl rfl rfl ?_
  refine WL.end ?_
  refine NE.code ?_
  refine CE.seq ?_
  refine CE.seq ?_
  refine CE.region ?_
  refine WL.det (op_move rfl) rfl rfl rfl ?_
  refine WL.det (op_len rfl Try.runUnderlying23) rfl rfl rfl ?_
  refine WL.det (op_move rfl) rfl rfl rfl ?_
  refine WL.det (op_len rfl Try.runUnderlying23) rfl rfl rfl ?_
  refine WL.det (op_nei rfl rfl) rfl rfl rfl ?_
  refine WL.end ?_
  refine NE.code ?_
  rcases Bool.eq_false_or_eq_true ((((n : Nat) : Int) != ((n' : Nat) : Int))) with hb1 | hb1
  · have hp1 := hb1; try simp only [Bool.and_eq_true, Bool.or_eq_true, Bool.not_eq_true', Bool.not_eq_false', Bool.and_eq_false_iff, Bool.or_eq_false_iff, decide_eq_true_eq, decide_eq_false_iff_not, beq_iff_eq, bne_iff_ne, beq_eq_false_iff_ne, bne_eq_false_iff_eq, ne_eq, Bool.false_eq_true, not_false_eq_true, not_true_eq_false, vIn_t, vIn_f] at hp1
    refine CE.cond_t rfl hb1 ?_
    refine CE.seq ?_
    refine CE.region ?_
    refine WL.det (op_assign rfl) rfl rfl rfl ?_
    refine WL.end ?_
    refine NE.code ?_
    refine CE.ret' ?_
    refine XE.ret_then ?_
    refine XE.leave1 Try.results54 rfl ?_
    refine ⟨?_, (Mod.refl [] w)⟩
    all_goals first | exact congrArg Value.bool (sameL_ne (by omega)).symm | exact congrArg Value.bool (sameL_out (i := i) (by omega) (by first | assumption | simp_all [evSame, inSame])).symm | exact congrArg Value.bool (sameL_all (by omega) hu (by omega)).symm
  · have hp1 := hb1; try simp only [Bool.and_eq_true, Bool.or_eq_true, Bool.not_eq_true', Bool.not_eq_false', Bool.and_eq_false_iff, Bool.or_eq_false_iff, decide_eq_true_eq, decide_eq_false_iff_not, beq_iff_eq, bne_iff_ne, beq_eq_false_iff_ne, bne_eq_false_iff_eq, ne_eq, Bool.false_eq_true, not_false_eq_true, not_true_eq_false, vIn_t, vIn_f] at hp1
    refine CE.cond_f rfl hb1 ?_
    refine CE.skip' ?_
    refine NE.code ?_
    refine CE.seq ?_
    refine CE.seq ?_
    refine CE.region ?_
    refine WL.det (op_assign rfl) rfl rfl rfl ?_
    refine WL.end ?_
    refine NE.code ?_
    refine CE.block ?_
    refine CE.loop (fun (i : Nat) => [(5, vI ((i : Nat) : Int)), (0, .slice A n c), (1, .slice A' n' c'), (4, .bool false)]) (fun (i : Nat) => fun W => (i ≤ n) ∧ (allR sameW 0 es es' i = true) ∧ Mod [] w W) (fun (i : Nat) => n - i) 0 (⟨rfl, rfl, rfl, rfl, trivial⟩) ⟨(by omega), (by rfl), Mod.refl _ _⟩ ?_
    rintro i w1 ⟨hi, hu, m1⟩
    show CE _ _ _ _ [(5, vI ((i : Nat) : Int)), (0, .slice A n c), (1, .slice A' n' c'), (4, .bool false)] _
    refine CE.seq ?_
    refine CE.seq ?_
    refine CE.region ?_
    refine WL.det (op_move rfl) rfl rfl rfl ?_
    refine WL.det (op_move rfl) rfl rfl rfl ?_
    refine WL.det (op_len rfl Try.runUnderlying23) rfl rfl rfl ?_
    refine WL.det (op_lti rfl rfl) rfl rfl rfl ?_
    refine WL.end ?_
    refine NE.code ?_
    rcases Bool.eq_false_or_eq_true (decide (((i : Nat) : Int) < ((n : Nat) : Int))) with hb2 | hb2
    · have hp2 := hb2; try simp only [Bool.and_eq_true, Bool.or_eq_true, Bool.not_eq_true', Bool.not_eq_false', Bool.and_eq_false_iff, Bool.or_eq_false_iff, decide_eq_true_eq, decide_eq_false_iff_not, beq_iff_eq, bne_iff_ne, beq_eq_false_iff_ne, bne_eq_false_iff_eq, ne_eq, Bool.false_eq_true, not_false_eq_true, not_true_eq_false, vIn_t, vIn_f] at hp2
      refine CE.cond_t rfl hb2 ?_
      refine CE.skip' ?_
      refine NE.code ?_
      refine CE.seq ?_
      refine CE.block ?_
      refine CE.seq ?_
      refine CE.draw (fun _ => none) [0, 1, 2, 3, 4, 5, 6, 7] [8, 9] [] (by kernel_rfl) (by kernel_rfl) ?_
      have md1 : Mod [] w1 w1.drew := (Mod.refl _ _).drew
      generalize w1.drew = w2 at md1 ⊢
      refine DR.det (i := 0) rfl rfl (by kernel_rfl) (.free rfl) rfl rfl (fun wD mD => op_move rfl) ?_
      refine DR.det (i := 1) rfl rfl (by kernel_rfl) (.free rfl) rfl rfl (fun wD mD => op_move rfl) ?_
      refine DR.det (i := 2) rfl rfl (by kernel_rfl) (.free rfl) rfl rfl (fun wD mD => op_indexSl (off' := o + i) rfl (hA (by omega)) rfl Try.runUnderlying23 Try.sizeOf22 (by omega) (by omega) (by omega)) ?_
      refine DR.det (i := 3) rfl rfl (by kernel_rfl) (.free rfl) rfl rfl (fun wD mD => op_load1 (i := i) rfl Try.isAgg22 (((r.ext m1).ext md1).ext mD) rfl (fl_get (by have eL : List.length es = n := ln; omega))) ?_
      refine DR.det (i := 4) rfl rfl (by kernel_rfl) (.free rfl) rfl rfl (fun wD mD => op_move rfl) ?_
      refine DR.det (i := 5) rfl rfl (by kernel_rfl) (.free rfl) rfl rfl (fun wD mD => op_move rfl) ?_
      refine DR.det (i := 6) rfl rfl (by kernel_rfl) (.free rfl) rfl rfl (fun wD mD => op_indexSl (off' := o' + i) rfl (hA' (by omega)) rfl Try.runUnderlying23 Try.sizeOf22 (by omega) (by omega) (by omega)) ?_
      refine DR.det (i := 7) rfl rfl (by kernel_rfl) (.free rfl) rfl rfl (fun wD mD => op_load1 (i := i) rfl Try.isAgg22 (((r'.ext m1).ext md1).ext mD) rfl (fl_get (by have eL : List.length es' = n' := ln'; omega))) ?_
      refine DR.done rfl ?_
      intro w3 m2
      refine WO.call rfl (.free rfl) rfl (ltb rfl) (oc_call (vs := [vF (es.getD i 0), vF (es'.getD i 0)]) (cap := []) rfl rfl rfl Try.call28 (c_l01Same (es.getD i 0) (es.getD i 0) (es'.getD i 0) (es'.getD i 0) rfl rfl w3)) ?_
      rintro _ _ ⟨rfl, rfl⟩
      refine WO.det (op_not rfl) rfl (.free rfl) rfl rfl ?_
      refine WO.end ?_
      refine NE.code ?_
      rcases Bool.eq_false_or_eq_true (cn .f32 (es.getD i 0) == cn .f32 (es'.getD i 0)) with hb3 | hb3
      · have hp3 := hb3; try simp only [Bool.and_eq_true, Bool.or_eq_true, Bool.not_eq_true', Bool.not_eq_false', Bool.and_eq_false_iff, Bool.or_eq_false_iff, decide_eq_true_eq, decide_eq_false_iff_not, beq_iff_eq, bne_iff_ne, beq_eq_false_iff_ne, bne_eq_false_iff_eq, ne_eq, Bool.false_eq_true, not_false_eq_true, not_true_eq_false, vIn_t, vIn_f] at hp3
        refine CE.cond_f rfl (bnot_t hb3) ?_
        refine CE.skip' ?_
        refine NE.blk ?_
        refine NE.code ?_
        refine CE.region ?_
        refine WL.det (op_move rfl) rfl rfl rfl ?_
        refine WL.det (op_add (r := ((i + 1 : Nat) : Int)) rfl rfl (w_i64 (by omega) (by omega))) rfl rfl rfl ?_
        refine WL.det (op_assign rfl) rfl rfl rfl ?_
        refine WL.end ?_
        exact NE.again (i + 1) (⟨rfl, rfl, rfl, rfl, trivial⟩) ⟨(by omega), (by exact allR_step hu (by assumption)), ((m1.nt md1).nt m2)⟩ (by first | (dsimp only; omega) | omega)
      · have hp3 := hb3; try simp only [Bool.and_eq_true, Bool.or_eq_true, Bool.not_eq_true', Bool.not_eq_false', Bool.and_eq_false_iff, Bool.or_eq_false_iff, decide_eq_true_eq, decide_eq_false_iff_not, beq_iff_eq, bne_iff_ne, beq_eq_false_iff_ne, bne_eq_false_iff_eq, ne_eq, Bool.false_eq_true, not_false_eq_true, not_true_eq_false, vIn_t, vIn_f] at hp3
        refine CE.cond_t rfl (bnot_f hb3) ?_
        refine CE.seq ?_
        refine CE.region ?_
        refine WL.det (op_assign rfl) rfl rfl rfl ?_
        refine WL.end ?_
        refine NE.code ?_
        refine CE.ret' ?_
        refine XE.ret_blk ?_
        refine XE.ret_then ?_
        refine XE.ret_then ?_
        refine XE.ret_blk ?_
        refine XE.ret_then ?_
        refine XE.leave1 Try.results54 rfl ?_
        refine ⟨?_, ((((Mod.refl [] w).nt m1).nt md1).nt m2)⟩
        all_goals first | exact congrArg Value.bool (sameL_ne (by omega)).symm | exact congrArg Value.bool (sameL_out (i := i) (by omega) (by first | assumption | simp_all [evSame, inSame])).symm | exact congrArg Value.bool (sameL_all (by omega) hu (by omega)).symm
    · have hp2 := hb2; try simp only [Bool.and_eq_true, Bool.or_eq_true, Bool.not_eq_true', Bool.not_eq_false', Bool.and_eq_false_iff, Bool.or_eq_false_iff, decide_eq_true_eq, decide_eq_false_iff_not, beq_iff_eq, bne_iff_ne, beq_eq_false_iff_ne, bne_eq_false_iff_eq, ne_eq, Bool.false_eq_true, not_false_eq_true, not_true_eq_false, vIn_t, vIn_f] at hp2
      refine CE.cond_f rfl hb2 ?_
      refine CE.exit' ?_
      refine XE.exit_then ?_
      refine XE.exit_then ?_
      refine XE.exit_here ?_
      refine NE.code ?_
      refine CE.seq ?_
      refine CE.region ?_
      refine WL.det (op_assign rfl) rfl rfl rfl ?_
      refine WL.end ?_
      refine NE.code ?_
      refine CE.ret' ?_
      refine XE.leave1 Try.results54 rfl ?_
      refine ⟨?_, ((Mod.refl [] w).nt m1)⟩
      all_goals first | exact congrArg Value.bool (sameL_ne (by omega)).symm | exact congrArg Value.bool (sameL_out (i := i) (by omega) (by first | assumption | simp_all [evSame, inSame])).symm | exact congrArg Value.bool (sameL_all (by omega) hu (by omega)).symm

set_option maxRecDepth 100000 in
set_option maxHeartbeats 2000000 in
theorem c_eqfF (n : Nat) (c : Nat) (A : Option Addr) (b : Nat) (o : Nat) (es : List Nat) (n' : Nat) (c' : Nat) (A' : Option Addr) (b' : Nat) (o' : Nat) (es' : List Nat) (ln : es.length = n) (hA : 0 < n → A = some ⟨b, o, none⟩) (ln' : es'.length = n') (hA' : 0 < n' → A' = some ⟨b', o', none⟩) (hnn : n ≤ 1048576) (hnn' : n' ≤ 1048576) (w : World) (r : Rng w b o (fl es)) (r' : Rng w b' o' (fl es')) : Cl Try.prog 69 #[.slice A n c, .slice A' n' c', .func (.func 58) #[] #[]] w fun v w' => v = .bool (sameL sameW 0 es n es' n') ∧ Mod [] w w' := by
  refine Cl.of Try.func69 Try.ntmps69 rfl rfl (ρ := [(0, .slice A n c), (1, .slice A' n' c'), (2, .func (.func 58) #[] #[])]) rfl ?_
  refine CE.seq ?_
  refine CE.region ?_
  refine WL.det (op_assign rfl) rfl rfl rfl ?_
  refine WL.end ?_
  refine NE.code ?_
  refine CE.seq ?_
  refine CE.seq ?_
  refine CE.region ?_
  refine WL.det (op_move rfl) rfl rfl rfl ?_
  refine WL.det (op_len rfl Try.runUnderlying23) rfl rfl rfl ?_
  refine WL.det (op_move rfl) rfl rfl rfl ?_
  refine WL.det (op_len rfl Try.runUnderlying23) rfl rfl rfl ?_
  refine WL.det (op_nei rfl rfl) rfl rfl rfl ?_
  refine WL.end ?_
  refine NE.code ?_
  rcases Bool.eq_false_or_eq_true ((((n : Nat) : Int) != ((n' : Nat) : Int))) with hb1 | hb1
  · have hp1 := hb1; try simp only [Bool.and_eq_true, Bool.or_eq_true, Bool.not_eq_true', Bool.not_eq_false', Bool.and_eq_false_iff, Bool.or_eq_false_iff, decide_eq_true_eq, decide_eq_false_iff_not, beq_iff_eq, bne_iff_ne, beq_eq_false_iff_ne, bne_eq_false_iff_eq, ne_eq, Bool.false_eq_true, not_false_eq_true, not_true_eq_false, vIn_t, vIn_f] at hp1
    refine CE.cond_t rfl hb1 ?_
    refine CE.seq ?_
    refine CE.region ?_
    refine WL.det (op_assign rfl) rfl rfl rfl ?_
    refine WL.end ?_
    refine NE.code ?_
    refine CE.ret' ?_
    refine XE.ret_then ?_
    refine XE.leave1 Try.results69 rfl ?_
    refine ⟨?_, (Mod.refl [] w)⟩
    all_goals first | exact congrArg Value.bool (sameL_ne (by omega)).symm | exact congrArg Value.bool (sameL_out (i := i) (by omega) (by first | assumption | simp_all [evSame, inSame])).symm | exact congrArg Value.bool (sameL_all (by omega) hu (by omega)).symm
  · have hp1 := hb1; try simp only [Bool.and_eq_true, Bool.or_eq_true, Bool.not_eq_true', Bool.not_eq_false', Bool.and_eq_false_iff, Bool.or_eq_false_iff, decide_eq_true_eq, decide_eq_false_iff_not, beq_iff_eq, bne_iff_ne, beq_eq_false_iff_ne, bne_eq_false_iff_eq, ne_eq, Bool.false_eq_true, not_false_eq_true, not_true_eq_false, vIn_t, vIn_f] at hp1
    refine CE.cond_f rfl hb1 ?_
    refine CE.skip' ?_
    refine NE.code ?_
    refine CE.seq ?_
    refine CE.seq ?_
    refine CE.region ?_
    refine WL.det (op_move rfl) rfl rfl rfl ?_
    refine WL.det (op_len rfl Try.runUnderlying23) rfl rfl rfl ?_
    refine WL.det (op_move rfl) rfl rfl rfl ?_
    refine WL.end ?_
    refine NE.code ?_
    refine CE.block ?_
    refine CE.loop (fun (i : Nat) => [(17, vI ((i : Nat) : Int)), (1, .slice A' n' c'), (2, .func (.func 58) #[] #[]), (6, .bool false), (15, .slice A n c), (16, vI ((n : Nat) : Int))]) (fun (i : Nat) => fun W => (i ≤ n) ∧ (allR sameW 0 es es' i = true) ∧ Mod [] w W) (fun (i : Nat) => n - i) 0 (⟨rfl, rfl, rfl, rfl, rfl, rfl, trivial⟩) ⟨(by omega), (by rfl), Mod.refl _ _⟩ ?_
    rintro i w1 ⟨hi, hu, m1⟩
    show CE _ _ _ _ [(17, vI ((i : Nat) : Int)), (1, .slice A' n' c'), (2, .func (.func 58) #[] #[]), (6, .bool false), (15, .slice A n c), (16, vI ((n : Nat) : Int))] _
    refine CE.seq ?_
    refine CE.region ?_
    refine WL.det (op_lti rfl rfl) rfl rfl rfl ?_
    refine WL.end ?_
    refine NE.code ?_
    refine CE.seq ?_
    rcases Bool.eq_false_or_eq_true (decide (((i : Nat) : Int) < ((n : Nat) : Int))) with hb2 | hb2
    · have hp2 := hb2; try simp only [Bool.and_eq_true, Bool.or_eq_true, Bool.not_eq_true', Bool.not_eq_false', Bool.and_eq_false_iff, Bool.or_eq_false_iff, decide_eq_true_eq, decide_eq_false_iff_not, beq_iff_eq, bne_iff_ne, beq_eq_false_iff_ne, bne_eq_false_iff_eq, ne_eq, Bool.false_eq_true, not_false_eq_true, not_true_eq_false, vIn_t, vIn_f] at hp2
      refine CE.cond_t rfl hb2 ?_
      refine CE.skip' ?_
      refine NE.code ?_
      refine CE.seq ?_
      refine CE.block ?_
      refine CE.seq ?_
      refine CE.region ?_
      refine WL.det (op_move rfl) rfl rfl rfl ?_
      refine WL.det (op_indexSl (off' := o + i) rfl (hA (by omega)) rfl Try.runUnderlying23 Try.sizeOf22 (by omega) (by omega) (by omega)) rfl rfl rfl ?_
      refine WL.det (op_load1 (i := i) rfl Try.isAgg22 (r.ext m1) rfl (fl_get (by have eL : List.length es = n := ln; omega))) rfl rfl rfl ?_
      refine WL.det (op_assign rfl) rfl rfl rfl ?_
      refine WL.det (op_assign rfl) rfl rfl rfl ?_
      refine WL.end ?_
      refine NE.code ?_
      refine CE.seq ?_
      refine CE.region ?_
      refine WL.det (op_move rfl) rfl rfl rfl ?_
      refine WL.det (op_move rfl) rfl rfl rfl ?_
      refine WL.det (op_indexSl (off' := o' + i) rfl (hA' (by omega)) rfl Try.runUnderlying23 Try.sizeOf22 (by omega) (by omega) (by omega)) rfl rfl rfl ?_
      refine WL.det (op_load1 (i := i) rfl Try.isAgg22 (r'.ext m1) rfl (fl_get (by have eL : List.length es' = n' := ln'; omega))) rfl rfl rfl ?_
      refine WL.det (op_assign rfl) rfl rfl rfl ?_
      refine WL.end ?_
      refine NE.code ?_
      refine CE.seq ?_
      refine CE.region ?_
      refine WL.det (op_move rfl) rfl rfl rfl ?_
      refine WL.det (op_move rfl) rfl rfl rfl ?_
      refine WL.det (op_move rfl) rfl rfl rfl ?_
      refine WL.call (oc_call (vs := [vF (es.getD i 0), vF (es'.getD i 0)]) (cap := []) rfl rfl rfl Try.call58 (c_SameSample (es.getD i 0) (es.getD i 0) (es'.getD i 0) (es'.getD i 0) rfl rfl w1)) rfl rfl (ltb rfl) ?_
      rintro _ _ ⟨rfl, rfl⟩
      refine WL.det (op_not rfl) rfl rfl rfl ?_
      refine WL.end ?_
      refine NE.code ?_
      rcases Bool.eq_false_or_eq_true (cn .f32 (es.getD i 0) == cn .f32 (es'.getD i 0)) with hb3 | hb3
      · have hp3 := hb3; try simp only [Bool.and_eq_true, Bool.or_eq_true, Bool.not_eq_true', Bool.not_eq_false', Bool.and_eq_false_iff, Bool.or_eq_false_iff, decide_eq_true_eq, decide_eq_false_iff_not, beq_iff_eq, bne_iff_ne, beq_eq_false_iff_ne, bne_eq_false_iff_eq, ne_eq, Bool.false_eq_true, not_false_eq_true, not_true_eq_false, vIn_t, vIn_f] at hp3
        refine CE.cond_f rfl (bnot_t hb3) ?_
        refine CE.skip' ?_
        refine NE.blk ?_
        refine NE.code ?_
        refine CE.region ?_
        refine WL.det (op_add (r := ((i + 1 : Nat) : Int)) rfl rfl (w_i64 (by omega) (by omega))) rfl rfl rfl ?_
        refine WL.det (op_move rfl) rfl rfl rfl ?_
        refine WL.end ?_
        exact NE.again (i + 1) (⟨rfl, rfl, rfl, rfl, rfl, rfl, trivial⟩) ⟨(by omega), (by exact allR_step hu (by assumption)), m1⟩ (by first | (dsimp only; omega) | omega)
      · have hp3 := hb3; try simp only [Bool.and_eq_true, Bool.or_eq_true, Bool.not_eq_true', Bool.not_eq_false', Bool.and_eq_false_iff, Bool.or_eq_false_iff, decide_eq_true_eq, decide_eq_false_iff_not, beq_iff_eq, bne_iff_ne, beq_eq_false_iff_ne, bne_eq_false_iff_eq, ne_eq, Bool.false_eq_true, not_false_eq_true, not_true_eq_false, vIn_t, vIn_f] at hp3
        refine CE.cond_t rfl (bnot_f hb3) ?_
        refine CE.seq ?_
        refine CE.region ?_
        refine WL.det (op_assign rfl) rfl rfl rfl ?_
        refine WL.end ?_
        refine NE.code ?_
        refine CE.ret' ?_
        refine XE.ret_blk ?_
        refine XE.ret_then ?_
        refine XE.ret_then ?_
        refine XE.ret_blk ?_
        refine XE.ret_then ?_
        refine XE.leave1 Try.results69 rfl ?_
        refine ⟨?_, ((Mod.refl [] w).nt m1)⟩
        all_goals first | exact congrArg Value.bool (sameL_ne (by omega)).symm | exact congrArg Value.bool (sameL_out (i := i) (by omega) (by first | assumption | simp_all [evSame, inSame])).symm | exact congrArg Value.bool (sameL_all (by omega) hu (by omega)).symm
    · have hp2 := hb2; try simp only [Bool.and_eq_true, Bool.or_eq_true, Bool.not_eq_true', Bool.not_eq_false', Bool.and_eq_false_iff, Bool.or_eq_false_iff, decide_eq_true_eq, decide_eq_false_iff_not, beq_iff_eq, bne_iff_ne, beq_eq_false_iff_ne, bne_eq_false_iff_eq, ne_eq, Bool.false_eq_true, not_false_eq_true, not_true_eq_false, vIn_t, vIn_f] at hp2
      refine CE.cond_f rfl hb2 ?_
      refine CE.exit' ?_
      refine XE.exit_then ?_
      refine XE.exit_then ?_
      refine XE.exit_here ?_
      refine NE.code ?_
      refine CE.seq ?_
      refine CE.region ?_
      refine WL.det (op_assign rfl) rfl rfl rfl ?_
      refine WL.end ?_
      refine NE.code ?_
      refine CE.ret' ?_
      refine XE.leave1 Try.results69 rfl ?_
      refine ⟨?_, ((Mod.refl [] w).nt m1)⟩
      all_goals first | exact congrArg Value.bool (sameL_ne (by omega)).symm | exact congrArg Value.bool (sameL_out (i := i) (by omega) (by first | assumption | simp_all [evSame, inSame])).symm | exact congrArg Value.bool (sameL_all (by omega) hu (by omega)).symm

set_option maxRecDepth 100000 in
set_option maxHeartbeats 2000000 in
theorem c_eqfI (n : Nat) (c : Nat) (A : Option Addr) (b : Nat) (o : Nat) (es : List InR) (n' : Nat) (c' : Nat) (A' : Option Addr) (b' : Nat) (o' : Nat) (es' : List InR) (ln : es.length = n) (hA : 0 < n → A = some ⟨b, o, none⟩) (ln' : es'.length = n') (hA' : 0 < n' → A' = some ⟨b', o', none⟩) (hnn : n ≤ 1048576) (hnn' : n' ≤ 1048576) (w : World) (r : Rng w b o (cat InR.cells es)) (r' : Rng w b' o' (cat InR.cells es')) : Cl Try.prog 67 #[.slice A n c, .slice A' n' c', .func (.func 68) #[] #[]] w fun v w' => v = .bool (sameL inSame InR.d es n es' n') ∧ Mod [] w w' := by
  refine Cl.of Try.func67 Try.ntmps67 rfl rfl (ρ := [(0, .slice A n c), (1, .slice A' n' c'), (2, .func (.func 68) #[] #[])]) rfl ?_
  refine CE.seq ?_
  refine CE.region ?_
  refine WL.det (op_assign rfl) rfl rfl rfl ?_
  refine WL.end ?_
  refine NE.code ?_
  refine CE.seq ?_
  refine CE.seq ?_
  refine CE.region ?_
  refine WL.det (op_move rfl) rfl rfl rfl ?_
  refine WL.det (op_len rfl Try.runUnderlying52) rfl rfl rfl ?_
  refine WL.det (op_move rfl) rfl rfl rfl ?_
  refine WL.det (op_len rfl Try.runUnderlying52) rfl rfl rfl ?_
  refine WL.det (op_nei rfl rfl) rfl rfl rfl ?_
  refine WL.end ?_
  refine NE.code ?_
  rcases Bool.eq_false_or_eq_true ((((n : Nat) : Int) != ((n' : Nat) : Int))) with hb1 | hb1
  · have hp1 := hb1; try simp only [Bool.and_eq_true, Bool.or_eq_true, Bool.not_eq_true', Bool.not_eq_false', Bool.and_eq_false_iff, Bool.or_eq_false_iff, decide_eq_true_eq, decide_eq_false_iff_not, beq_iff_eq, bne_iff_ne, beq_eq_false_iff_ne, bne_eq_false_iff_eq, ne_eq, Bool.false_eq_true, not_false_eq_true, not_true_eq_false, vIn_t, vIn_f] at hp1
    refine CE.cond_t rfl hb1 ?_
    refine CE.seq ?_
    refine CE.region ?_
    refine WL.det (op_assign rfl) rfl rfl rfl ?_
    refine WL.end ?_
    refine NE.code ?_
    refine CE.ret' ?_
    refine XE.ret_then ?_
    refine XE.leave1 Try.results67 rfl ?_
    refine ⟨?_, (Mod.refl [] w)⟩
    all_goals first | exact congrArg Value.bool (sameL_ne (by omega)).symm | exact congrArg Value.bool (sameL_out (i := i) (by omega) (by first | assumption | simp_all [evSame, inSame])).symm | exact congrArg Value.bool (sameL_all (by omega) hu (by omega)).symm
  · have hp1 := hb1; try simp only [Bool.and_eq_true, Bool.or_eq_true, Bool.not_eq_true', Bool.not_eq_false', Bool.and_eq_false_iff, Bool.or_eq_false_iff, decide_eq_true_eq, decide_eq_false_iff_not, beq_iff_eq, bne_iff_ne, beq_eq_false_iff_ne, bne_eq_false_iff_eq, ne_eq, Bool.false_eq_true, not_false_eq_true, not_true_eq_false, vIn_t, vIn_f] at hp1
    refine CE.cond_f rfl hb1 ?_
    refine CE.skip' ?_
    refine NE.code ?_
    refine CE.seq ?_
    refine CE.seq ?_
    refine CE.region ?_
    refine WL.det (op_move rfl) rfl rfl rfl ?_
    refine WL.det (op_len rfl Try.runUnderlying52) rfl rfl rfl ?_
    refine WL.det (op_move rfl) rfl rfl rfl ?_
    refine WL.end ?_
    refine NE.code ?_
    refine CE.block ?_
    refine CE.loop (fun (i : Nat) => [(17, vI ((i : Nat) : Int)), (1, .slice A' n' c'), (2, .func (.func 68) #[] #[]), (6, .bool false), (15, .slice A n c), (16, vI ((n : Nat) : Int))]) (fun (i : Nat) => fun W => (i ≤ n) ∧ (allR inSame InR.d es es' i = true) ∧ Mod [] w W) (fun (i : Nat) => n - i) 0 (⟨rfl, rfl, rfl, rfl, rfl, rfl, trivial⟩) ⟨(by omega), (by rfl), Mod.refl _ _⟩ ?_
    rintro i w1 ⟨hi, hu, m1⟩
    show CE _ _ _ _ [(17, vI ((i : Nat) : Int)), (1, .slice A' n' c'), (2, .func (.func 68) #[] #[]), (6, .bool false), (15, .slice A n c), (16, vI ((n : Nat) : Int))] _
    refine CE.seq ?_
    refine CE.region ?_
    refine WL.det (op_lti rfl rfl) rfl rfl rfl ?_
    refine WL.end ?_
    refine NE.code ?_
    refine CE.seq ?_
    rcases Bool.eq_false_or_eq_true (decide (((i : Nat) : Int) < ((n : Nat) : Int))) with hb2 | hb2
    · have hp2 := hb2; try simp only [Bool.and_eq_true, Bool.or_eq_true, Bool.not_eq_true', Bool.not_eq_false', Bool.and_eq_false_iff, Bool.or_eq_false_iff, decide_eq_true_eq, decide_eq_false_iff_not, beq_iff_eq, bne_iff_ne, beq_eq_false_iff_ne, bne_eq_false_iff_eq, ne_eq, Bool.false_eq_true, not_false_eq_true, not_true_eq_false, vIn_t, vIn_f] at hp2
      refine CE.cond_t rfl hb2 ?_
      refine CE.skip' ?_
      refine NE.code ?_
      refine CE.seq ?_
      refine CE.block ?_
      refine CE.seq ?_
      refine CE.region ?_
      refine WL.det (op_move rfl) rfl rfl rfl ?_
      refine WL.det (op_indexSl (off' := o + i * 5) rfl (hA (by omega)) rfl Try.runUnderlying52 Try.sizeOf93 (by omega) (by omega) (by omega)) rfl rfl rfl ?_
      refine WL.det (op_loadA (i := i * 5) (cs := [.string ((es.getD i InR.d).name), vI ((es.getD i InR.d).kind), vF ((es.getD i InR.d).a), vF ((es.getD i InR.d).b), vF ((es.getD i InR.d).c)]) rfl Try.isAgg93 Try.sizeOf93 (r.ext m1) rfl (cat_at (f := InR.cells) (m := 5) (i := i) (d := InR.d) (fun _ => rfl) (by have eL : List.length es = n := ln; omega)) rfl) rfl rfl rfl ?_
      refine WL.op (op_alloc (cs := [.string ByteArray.empty, vI 0, vF 0, vF 0, vF 0]) Try.zeroValue93 rfl) rfl rfl (ltb rfl) ?_
      rintro _ w2 ⟨rfl, r1, m2, z1⟩
      refine WL.det (op_assign rfl) rfl rfl rfl ?_
      refine WL.op0 (op_store (i := 0) (cs := [.string ((es.getD i InR.d).name), vI ((es.getD i InR.d).kind), vF ((es.getD i InR.d).a), vF ((es.getD i InR.d).b), vF ((es.getD i InR.d).c)]) rfl rfl rfl Try.sizeOf93 rfl r1 rfl (lB rfl) rfl) rfl rfl ?_
      rintro _ w3 ⟨r2, m3, z2⟩
      have r3 : Row w3 w1.heap.size 0 [.string ((es.getD i InR.d).name), vI ((es.getD i InR.d).kind), vF ((es.getD i InR.d).a), vF ((es.getD i InR.d).b), vF ((es.getD i InR.d).c)] := Row.congr r2 rfl
      refine WL.end ?_
      refine NE.code ?_
      refine CE.seq ?_
      refine CE.region ?_
      refine WL.det (op_move rfl) rfl rfl rfl ?_
      refine WL.det (op_move rfl) rfl rfl rfl ?_
      refine WL.det (op_indexSl (off' := o' + i * 5) rfl (hA' (by omega)) rfl Try.runUnderlying52 Try.sizeOf93 (by omega) (by omega) (by omega)) rfl rfl rfl ?_
      refine WL.det (op_loadA (i := i * 5) (cs := [.string ((es'.getD i InR.d).name), vI ((es'.getD i InR.d).kind), vF ((es'.getD i InR.d).a), vF ((es'.getD i InR.d).b), vF ((es'.getD i InR.d).c)]) rfl Try.isAgg93 Try.sizeOf93 (Rng.youngS r' ((r'.ext m1).ext m2) m3 (allge_cons (lT m1.size lR) allge_nil)) rfl (cat_at (f := InR.cells) (m := 5) (i := i) (d := InR.d) (fun _ => rfl) (by have eL : List.length es' = n' := ln'; omega)) rfl) rfl rfl rfl ?_
      refine WL.op (op_alloc (cs := [.string ByteArray.empty, vI 0, vF 0, vF 0, vF 0]) Try.zeroValue93 rfl) rfl rfl (ltb rfl) ?_
      rintro _ w4 ⟨rfl, r4, m4, z3⟩
      refine WL.op0 (op_store (i := 0) (cs := [.string ((es'.getD i InR.d).name), vI ((es'.getD i InR.d).kind), vF ((es'.getD i InR.d).a), vF ((es'.getD i InR.d).b), vF ((es'.getD i InR.d).c)]) rfl rfl rfl Try.sizeOf93 rfl r4 rfl (lB rfl) rfl) rfl rfl ?_
      rintro _ w5 ⟨r5, m5, z4⟩
      have r6 : Row w5 w3.heap.size 0 [.string ((es'.getD i InR.d).name), vI ((es'.getD i InR.d).kind), vF ((es'.getD i InR.d).a), vF ((es'.getD i InR.d).b), vF ((es'.getD i InR.d).c)] := Row.congr r5 rfl
      refine WL.end ?_
      refine NE.code ?_
      refine CE.seq ?_
      refine CE.region ?_
      refine WL.det (op_move rfl) rfl rfl rfl ?_
      refine WL.det (op_loadA (i := 0) (cs := [.string ((es.getD i InR.d).name), vI ((es.getD i InR.d).kind), vF ((es.getD i InR.d).a), vF ((es.getD i InR.d).b), vF ((es.getD i InR.d).c)]) rfl Try.isAgg93 Try.sizeOf93 ((r3.ext m4).mod m5 (nC (lE (lL (lL r1.lt m3.size) lR)) nN)).rng rfl rfl rfl) rfl rfl rfl ?_
      refine WL.det (op_loadA (i := 0) (cs := [.string ((es'.getD i InR.d).name), vI ((es'.getD i InR.d).kind), vF ((es'.getD i InR.d).a), vF ((es'.getD i InR.d).b), vF ((es'.getD i InR.d).c)]) rfl Try.isAgg93 Try.sizeOf93 r6.rng rfl rfl rfl) rfl rfl rfl ?_
      refine WL.call (oc_call (vs := [.agg #[.string ((es.getD i InR.d).name), vI ((es.getD i InR.d).kind), vF ((es.getD i InR.d).a), vF ((es.getD i InR.d).b), vF ((es.getD i InR.d).c)], .agg #[.string ((es'.getD i InR.d).name), vI ((es'.getD i InR.d).kind), vF ((es'.getD i InR.d).a), vF ((es'.getD i InR.d).b), vF ((es'.getD i InR.d).c)]]) (cap := []) rfl rfl rfl Try.call68 (c_sameIns1 ((es.getD i InR.d).name) ((es.getD i InR.d).kind) ((es.getD i InR.d).a) ((es.getD i InR.d).b) ((es.getD i InR.d).c) ((es'.getD i InR.d).name) ((es'.getD i InR.d).kind) ((es'.getD i InR.d).a) ((es'.getD i InR.d).b) ((es'.getD i InR.d).c) w5)) rfl rfl (ltb rfl) ?_
      rintro _ w6 ⟨rfl, m6⟩
      refine WL.det (op_not rfl) rfl rfl rfl ?_
      refine WL.end ?_
      refine NE.code ?_
      rcases Bool.eq_false_or_eq_true (inSame (InR.mk ((es.getD i InR.d).name) ((es.getD i InR.d).kind) ((es.getD i InR.d).a) ((es.getD i InR.d).b) ((es.getD i InR.d).c)) (InR.mk ((es'.getD i InR.d).name) ((es'.getD i InR.d).kind) ((es'.getD i InR.d).a) ((es'.getD i InR.d).b) ((es'.getD i InR.d).c))) with hb3 | hb3
      · refine CE.cond_f rfl (bnot_t hb3) ?_
        refine CE.skip' ?_
        refine NE.blk ?_
        refine NE.code ?_
        refine CE.region ?_
        refine WL.det (op_add (r := ((i + 1 : Nat) : Int)) rfl rfl (w_i64 (by omega) (by omega))) rfl rfl rfl ?_
        refine WL.det (op_move rfl) rfl rfl rfl ?_
        refine WL.end ?_
        exact NE.again (i + 1) (⟨rfl, rfl, rfl, rfl, rfl, rfl, trivial⟩) ⟨(by omega), (by exact allR_step hu (by assumption)), (((((m1.nt m2).then m3 ((aC (.inr (lT m1.size lR)) aN))).nt m4).then m5 ((aC (.inr (lT (lT (lT m1.size m2.size) m3.size) lR)) aN))).nt m6)⟩ (by first | (dsimp only; omega) | omega)
      · refine CE.cond_t rfl (bnot_f hb3) ?_
        refine CE.seq ?_
        refine CE.region ?_
        refine WL.det (op_assign rfl) rfl rfl rfl ?_
        refine WL.end ?_
        refine NE.code ?_
        refine CE.ret' ?_
        refine XE.ret_blk ?_
        refine XE.ret_then ?_
        refine XE.ret_then ?_
        refine XE.ret_blk ?_
        refine XE.ret_then ?_
        refine XE.leave1 Try.results67 rfl ?_
        refine ⟨?_, (((((((Mod.refl [] w).nt m1).nt m2).then m3 ((aC (.inr (lT m1.size lR)) aN))).nt m4).then m5 ((aC (.inr (lT (lT (lT m1.size m2.size) m3.size) lR)) aN))).nt m6)⟩
        all_goals first | exact congrArg Value.bool (sameL_ne (by omega)).symm | exact congrArg Value.bool (sameL_out (i := i) (by omega) (by first | assumption | simp_all [evSame, inSame])).symm | exact congrArg Value.bool (sameL_all (by omega) hu (by omega)).symm
    · have hp2 := hb2; try simp only [Bool.and_eq_true, Bool.or_eq_true, Bool.not_eq_true', Bool.not_eq_false', Bool.and_eq_false_iff, Bool.or_eq_false_iff, decide_eq_true_eq, decide_eq_false_iff_not, beq_iff_eq, bne_iff_ne, beq_eq_false_iff_ne, bne_eq_false_iff_eq, ne_eq, Bool.false_eq_true, not_false_eq_true, not_true_eq_false, vIn_t, vIn_f] at hp2
      refine CE.cond_f rfl hb2 ?_
      refine CE.exit' ?_
      refine XE.exit_then ?_
      refine XE.exit_then ?_
      refine XE.exit_here ?_
      refine NE.code ?_
      refine CE.seq ?_
      refine CE.region ?_
      refine WL.det (op_assign rfl) rfl rfl rfl ?_
      refine WL.end ?_
      refine NE.code ?_
      refine CE.ret' ?_
      refine XE.leave1 Try.results67 rfl ?_
      refine ⟨?_, ((Mod.refl [] w).nt m1)⟩
      all_goals first | exact congrArg Value.bool (sameL_ne (by omega)).symm | exact congrArg Value.bool (sameL_out (i := i) (by omega) (by first | assumption | simp_all [evSame, inSame])).symm | exact congrArg Value.bool (sameL_all (by omega) hu (by omega)).symm

set_option maxRecDepth 100000 in
set_option maxHeartbeats 2000000 in
theorem c_eqfE (n : Nat) (c : Nat) (A : Option Addr) (b : Nat) (o : Nat) (es : List EvR) (n' : Nat) (c' : Nat) (A' : Option Addr) (b' : Nat) (o' : Nat) (es' : List EvR) (ln : es.length = n) (hA : 0 < n → A = some ⟨b, o, none⟩) (ln' : es'.length = n') (hA' : 0 < n' → A' = some ⟨b', o', none⟩) (hnn : n ≤ 1048576) (hnn' : n' ≤ 1048576) (w : World) (r : Rng w b o (cat EvR.cells es)) (r' : Rng w b' o' (cat EvR.cells es')) : Cl Try.prog 35 #[.slice A n c, .slice A' n' c', .func (.func 36) #[] #[]] w fun v w' => v = .bool (sameL evSame EvR.d es n es' n') ∧ Mod [] w w' := by
  refine Cl.of Try.func35 Try.ntmps35 rfl rfl (ρ := [(0, .slice A n c), (1, .slice A' n' c'), (2, .func (.func 36) #[] #[])]) rfl ?_
  refine CE.seq ?_
  refine CE.region ?_
  refine WL.det (op_assign rfl) rfl rfl rfl ?_
  refine WL.end ?_
  refine NE.code ?_
  refine CE.seq ?_
  refine CE.seq ?_
  refine CE.region ?_
  refine WL.det (op_move rfl) rfl rfl rfl ?_
  refine WL.det (op_len rfl Try.runUnderlying53) rfl rfl rfl ?_
  refine WL.det (op_move rfl) rfl rfl rfl ?_
  refine WL.det (op_len rfl Try.runUnderlying53) rfl rfl rfl ?_
  refine WL.det (op_nei rfl rfl) rfl rfl rfl ?_
  refine WL.end ?_
  refine NE.code ?_
  rcases Bool.eq_false_or_eq_true ((((n : Nat) : Int) != ((n' : Nat) : Int))) with hb1 | hb1
  · have hp1 := hb1; try simp only [Bool.and_eq_true, Bool.or_eq_true, Bool.not_eq_true', Bool.not_eq_false', Bool.and_eq_false_iff, Bool.or_eq_false_iff, decide_eq_true_eq, decide_eq_false_iff_not, beq_iff_eq, bne_iff_ne, beq_eq_false_iff_ne, bne_eq_false_iff_eq, ne_eq, Bool.false_eq_true, not_false_eq_true, not_true_eq_false, vIn_t, vIn_f] at hp1
    refine CE.cond_t rfl hb1 ?_
    refine CE.seq ?_
    refine CE.region ?_
    refine WL.det (op_assign rfl) rfl rfl rfl ?_
    refine WL.end ?_
    refine NE.code ?_
    refine CE.ret' ?_
    refine XE.ret_then ?_
    refine XE.leave1 Try.results35 rfl ?_
    refine ⟨?_, (Mod.refl [] w)⟩
    all_goals first | exact congrArg Value.bool (sameL_ne (by omega)).symm | exact congrArg Value.bool (sameL_out (i := i) (by omega) (by first | assumption | simp_all [evSame, inSame])).symm | exact congrArg Value.bool (sameL_all (by omega) hu (by omega)).symm
  · have hp1 := hb1; try simp only [Bool.and_eq_true, Bool.or_eq_true, Bool.not_eq_true', Bool.not_eq_false', Bool.and_eq_false_iff, Bool.or_eq_false_iff, decide_eq_true_eq, decide_eq_false_iff_not, beq_iff_eq, bne_iff_ne, beq_eq_false_iff_ne, bne_eq_false_iff_eq, ne_eq, Bool.false_eq_true, not_false_eq_true, not_true_eq_false, vIn_t, vIn_f] at hp1
    refine CE.cond_f rfl hb1 ?_
    refine CE.skip' ?_
    refine NE.code ?_
    refine CE.seq ?_
    refine CE.seq ?_
    refine CE.region ?_
    refine WL.det (op_move rfl) rfl rfl rfl ?_
    refine WL.det (op_len rfl Try.runUnderlying53) rfl rfl rfl ?_
    refine WL.det (op_move rfl) rfl rfl rfl ?_
    refine WL.end ?_
    refine NE.code ?_
    refine CE.block ?_
    refine CE.loop (fun (i : Nat) => [(17, vI ((i : Nat) : Int)), (1, .slice A' n' c'), (2, .func (.func 36) #[] #[]), (6, .bool false), (15, .slice A n c), (16, vI ((n : Nat) : Int))]) (fun (i : Nat) => fun W => (i ≤ n) ∧ (allR evSame EvR.d es es' i = true) ∧ Mod [] w W) (fun (i : Nat) => n - i) 0 (⟨rfl, rfl, rfl, rfl, rfl, rfl, trivial⟩) ⟨(by omega), (by rfl), Mod.refl _ _⟩ ?_
    rintro i w1 ⟨hi, hu, m1⟩
    show CE _ _ _ _ [(17, vI ((i : Nat) : Int)), (1, .slice A' n' c'), (2, .func (.func 36) #[] #[]), (6, .bool false), (15, .slice A n c), (16, vI ((n : Nat) : Int))] _
    refine CE.seq ?_
    refine CE.region ?_
    refine WL.det (op_lti rfl rfl) rfl rfl rfl ?_
    refine WL.end ?_
    refine NE.code ?_
    refine CE.seq ?_
    rcases Bool.eq_false_or_eq_true (decide (((i : Nat) : Int) < ((n : Nat) : Int))) with hb2 | hb2
    · have hp2 := hb2; try simp only [Bool.and_eq_true, Bool.or_eq_true, Bool.not_eq_true', Bool.not_eq_false', Bool.and_eq_false_iff, Bool.or_eq_false_iff, decide_eq_true_eq, decide_eq_false_iff_not, beq_iff_eq, bne_iff_ne, beq_eq_false_iff_ne, bne_eq_false_iff_eq, ne_eq, Bool.false_eq_true, not_false_eq_true, not_true_eq_false, vIn_t, vIn_f] at hp2
      refine CE.cond_t rfl hb2 ?_
      refine CE.skip' ?_
      refine NE.code ?_
      refine CE.seq ?_
      refine CE.block ?_
      refine CE.seq ?_
      refine CE.region ?_
      refine WL.det (op_move rfl) rfl rfl rfl ?_
      refine WL.det (op_indexSl (off' := o + i * 6) rfl (hA (by omega)) rfl Try.runUnderlying53 Try.sizeOf73 (by omega) (by omega) (by omega)) rfl rfl rfl ?_
      refine WL.det (op_loadA (i := i * 6) (cs := [vI ((es.getD i EvR.d).at_), vI ((es.getD i EvR.d).kind), vI ((es.getD i EvR.d).note), vI ((es.getD i EvR.d).ins), vI ((es.getD i EvR.d).key), vF ((es.getD i EvR.d).force)]) rfl Try.isAgg73 Try.sizeOf73 (r.ext m1) rfl (cat_at (f := EvR.cells) (m := 6) (i := i) (d := EvR.d) (fun _ => rfl) (by have eL : List.length es = n := ln; omega)) rfl) rfl rfl rfl ?_
      refine WL.op (op_alloc (cs := [vI 0, vI 0, vI 0, vI 0, vI 0, vF 0]) Try.zeroValue73 rfl) rfl rfl (ltb rfl) ?_
      rintro _ w2 ⟨rfl, r1, m2, z1⟩
      refine WL.det (op_assign rfl) rfl rfl rfl ?_
      refine WL.op0 (op_store (i := 0) (cs := [vI ((es.getD i EvR.d).at_), vI ((es.getD i EvR.d).kind), vI ((es.getD i EvR.d).note), vI ((es.getD i EvR.d).ins), vI ((es.getD i EvR.d).key), vF ((es.getD i EvR.d).force)]) rfl rfl rfl Try.sizeOf73 rfl r1 rfl (lB rfl) rfl) rfl rfl ?_
      rintro _ w3 ⟨r2, m3, z2⟩
      have r3 : Row w3 w1.heap.size 0 [vI ((es.getD i EvR.d).at_), vI ((es.getD i EvR.d).kind), vI ((es.getD i EvR.d).note), vI ((es.getD i EvR.d).ins), vI ((es.getD i EvR.d).key), vF ((es.getD i EvR.d).force)] := Row.congr r2 rfl
      refine WL.end ?_
      refine NE.code ?_
      refine CE.seq ?_
      refine CE.region ?_
      refine WL.det (op_move rfl) rfl rfl rfl ?_
      refine WL.det (op_move rfl) rfl rfl rfl ?_
      refine WL.det (op_indexSl (off' := o' + i * 6) rfl (hA' (by omega)) rfl Try.runUnderlying53 Try.sizeOf73 (by omega) (by omega) (by omega)) rfl rfl rfl ?_
      refine WL.det (op_loadA (i := i * 6) (cs := [vI ((es'.getD i EvR.d).at_), vI ((es'.getD i EvR.d).kind), vI ((es'.getD i EvR.d).note), vI ((es'.getD i EvR.d).ins), vI ((es'.getD i EvR.d).key), vF ((es'.getD i EvR.d).force)]) rfl Try.isAgg73 Try.sizeOf73 (Rng.youngS r' ((r'.ext m1).ext m2) m3 (allge_cons (lT m1.size lR) allge_nil)) rfl (cat_at (f := EvR.cells) (m := 6) (i := i) (d := EvR.d) (fun _ => rfl) (by have eL : List.length es' = n' := ln'; omega)) rfl) rfl rfl rfl ?_
      refine WL.op (op_alloc (cs := [vI 0, vI 0, vI 0, vI 0, vI 0, vF 0]) Try.zeroValue73 rfl) rfl rfl (ltb rfl) ?_
      rintro _ w4 ⟨rfl, r4, m4, z3⟩
      refine WL.op0 (op_store (i := 0) (cs := [vI ((es'.getD i EvR.d).at_), vI ((es'.getD i EvR.d).kind), vI ((es'.getD i EvR.d).note), vI ((es'.getD i EvR.d).ins), vI ((es'.getD i EvR.d).key), vF ((es'.getD i EvR.d).force)]) rfl rfl rfl Try.sizeOf73 rfl r4 rfl (lB rfl) rfl) rfl rfl ?_
      rintro _ w5 ⟨r5, m5, z4⟩
      have r6 : Row w5 w3.heap.size 0 [vI ((es'.getD i EvR.d).at_), vI ((es'.getD i EvR.d).kind), vI ((es'.getD i EvR.d).note), vI ((es'.getD i EvR.d).ins), vI ((es'.getD i EvR.d).key), vF ((es'.getD i EvR.d).force)] := Row.congr r5 rfl
      refine WL.end ?_
      refine NE.code ?_
      refine CE.seq ?_
      refine CE.region ?_
      refine WL.det (op_move rfl) rfl rfl rfl ?_
      refine WL.det (op_loadA (i := 0) (cs := [vI ((es.getD i EvR.d).at_), vI ((es.getD i EvR.d).kind), vI ((es.getD i EvR.d).note), vI ((es.getD i EvR.d).ins), vI ((es.getD i EvR.d).key), vF ((es.getD i EvR.d).force)]) rfl Try.isAgg73 Try.sizeOf73 ((r3.ext m4).mod m5 (nC (lE (lL (lL r1.lt m3.size) lR)) nN)).rng rfl rfl rfl) rfl rfl rfl ?_
      refine WL.det (op_loadA (i := 0) (cs := [vI ((es'.getD i EvR.d).at_), vI ((es'.getD i EvR.d).kind), vI ((es'.getD i EvR.d).note), vI ((es'.getD i EvR.d).ins), vI ((es'.getD i EvR.d).key), vF ((es'.getD i EvR.d).force)]) rfl Try.isAgg73 Try.sizeOf73 r6.rng rfl rfl rfl) rfl rfl rfl ?_
      refine WL.call (oc_call (vs := [.agg #[vI ((es.getD i EvR.d).at_), vI ((es.getD i EvR.d).kind), vI ((es.getD i EvR.d).note), vI ((es.getD i EvR.d).ins), vI ((es.getD i EvR.d).key), vF ((es.getD i EvR.d).force)], .agg #[vI ((es'.getD i EvR.d).at_), vI ((es'.getD i EvR.d).kind), vI ((es'.getD i EvR.d).note), vI ((es'.getD i EvR.d).ins), vI ((es'.getD i EvR.d).key), vF ((es'.getD i EvR.d).force)]]) (cap := []) rfl rfl rfl Try.call36 (c_sameEvent ((es.getD i EvR.d).at_) ((es.getD i EvR.d).kind) ((es.getD i EvR.d).note) ((es.getD i EvR.d).ins) ((es.getD i EvR.d).key) ((es.getD i EvR.d).force) ((es'.getD i EvR.d).at_) ((es'.getD i EvR.d).kind) ((es'.getD i EvR.d).note) ((es'.getD i EvR.d).ins) ((es'.getD i EvR.d).key) ((es'.getD i EvR.d).force) w5)) rfl rfl (ltb rfl) ?_
      rintro _ w6 ⟨rfl, m6⟩
      refine WL.det (op_not rfl) rfl rfl rfl ?_
      refine WL.end ?_
      refine NE.code ?_
      rcases Bool.eq_false_or_eq_true (evSame (EvR.mk ((es.getD i EvR.d).at_) ((es.getD i EvR.d).kind) ((es.getD i EvR.d).note) ((es.getD i EvR.d).ins) ((es.getD i EvR.d).key) ((es.getD i EvR.d).force)) (EvR.mk ((es'.getD i EvR.d).at_) ((es'.getD i EvR.d).kind) ((es'.getD i EvR.d).note) ((es'.getD i EvR.d).ins) ((es'.getD i EvR.d).key) ((es'.getD i EvR.d).force))) with hb3 | hb3
      · refine CE.cond_f rfl (bnot_t hb3) ?_
        refine CE.skip' ?_
        refine NE.blk ?_
        refine NE.code ?_
        refine CE.region ?_
        refine WL.det (op_add (r := ((i + 1 : Nat) : Int)) rfl rfl (w_i64 (by omega) (by omega))) rfl rfl rfl ?_
        refine WL.det (op_move rfl) rfl rfl rfl ?_
        refine WL.end ?_
        exact NE.again (i + 1) (⟨rfl, rfl, rfl, rfl, rfl, rfl, trivial⟩) ⟨(by omega), (by exact allR_step hu (by assumption)), (((((m1.nt m2).then m3 ((aC (.inr (lT m1.size lR)) aN))).nt m4).then m5 ((aC (.inr (lT (lT (lT m1.size m2.size) m3.size) lR)) aN))).nt m6)⟩ (by first | (dsimp only; omega) | omega)
      · refine CE.cond_t rfl (bnot_f hb3) ?_
        refine CE.seq ?_
        refine CE.region ?_
        refine WL.det (op_assign rfl) rfl rfl rfl ?_
        refine WL.end ?_
        refine NE.code ?_
        refine CE.ret' ?_
        refine XE.ret_blk ?_
        refine XE.ret_then ?_
        refine XE.ret_then ?_
        refine XE.ret_blk ?_
        refine XE.ret_then ?_
        refine XE.leave1 Try.results35 rfl ?_
        refine ⟨?_, (((((((Mod.refl [] w).nt m1).nt m2).then m3 ((aC (.inr (lT m1.size lR)) aN))).nt m4).then m5 ((aC (.inr (lT (lT (lT m1.size m2.size) m3.size) lR)) aN))).nt m6)⟩
        all_goals first | exact congrArg Value.bool (sameL_ne (by omega)).symm | exact congrArg Value.bool (sameL_out (i := i) (by omega) (by first | assumption | simp_all [evSame, inSame])).symm | exact congrArg Value.bool (sameL_all (by omega) hu (by omega)).symm
    · have hp2 := hb2; try simp only [Bool.and_eq_true, Bool.or_eq_true, Bool.not_eq_true', Bool.not_eq_false', Bool.and_eq_false_iff, Bool.or_eq_false_iff, decide_eq_true_eq, decide_eq_false_iff_not, beq_iff_eq, bne_iff_ne, beq_eq_false_iff_ne, bne_eq_false_iff_eq, ne_eq, Bool.false_eq_true, not_false_eq_true, not_true_eq_false, vIn_t, vIn_f] at hp2
      refine CE.cond_f rfl hb2 ?_
      refine CE.exit' ?_
      refine XE.exit_then ?_
      refine XE.exit_then ?_
      refine XE.exit_here ?_
      refine NE.code ?_
      refine CE.seq ?_
      refine CE.region ?_
      refine WL.det (op_assign rfl) rfl rfl rfl ?_
      refine WL.end ?_
      refine NE.code ?_
      refine CE.ret' ?_
      refine XE.leave1 Try.results35 rfl ?_
      refine ⟨?_, ((Mod.refl [] w).nt m1)⟩
      all_goals first | exact congrArg Value.bool (sameL_ne (by omega)).symm | exact congrArg Value.bool (sameL_out (i := i) (by omega) (by first | assumption | simp_all [evSame, inSame])).symm | exact congrArg Value.bool (sameL_all (by omega) hu (by omega)).symm

set_option maxRecDepth 100000 in
set_option maxHeartbeats 2000000 in
theorem c_l08SameIns (n : Nat) (c : Nat) (A : Option Addr) (b : Nat) (o : Nat) (es : List InR) (n' : Nat) (c' : Nat) (A' : Option Addr) (b' : Nat) (o' : Nat) (es' : List InR) (ln : es.length = n) (hA : 0 < n → A = some ⟨b, o, none⟩) (ln' : es'.length = n') (hA' : 0 < n' → A' = some ⟨b', o', none⟩) (hnn : n ≤ 1048576) (hnn' : n' ≤ 1048576) (w : World) (r : Rng w b o (cat InR.cells es)) (r' : Rng w b' o' (cat InR.cells es')) : Cl Try.prog 30 #[.slice A n c, .slice A' n' c'] w fun v w' => v = .bool (sameL inSame InR.d es n es' n') ∧ Mod [] w w' := by
  refine Cl.of Try.func30 Try.ntmps30 rfl rfl (ρ := [(0, .slice A n c), (1, .slice A' n' c')]) rfl ?_
  refine CE.seq ?_
  refine CE.region ?_
  refine WL.det (op_assign rfl) rfl rfl rfl ?_
  refine WL.end ?_
  refine NE.code ?_
  refine CE.seq ?_
  refine CE.seq ?_
  refine CE.region ?_
  refine WL.det (op_move rfl) rfl rfl rfl ?_
  refine WL.det (op_len rfl Try.runUnderlying52) rfl rfl rfl ?_
  refine WL.det (op_move rfl) rfl rfl rfl ?_
  refine WL.det (op_len rfl Try.runUnderlying52) rfl rfl rfl ?_
  refine WL.det (op_nei rfl rfl) rfl rfl rfl ?_
  refine WL.end ?_
  refine NE.code ?_
  rcases Bool.eq_false_or_eq_true ((((n : Nat) : Int) != ((n' : Nat) : Int))) with hb1 | hb1
  · have hp1 := hb1; try simp only [Bool.and_eq_true, Bool.or_eq_true, Bool.not_eq_true', Bool.not_eq_false', Bool.and_eq_false_iff, Bool.or_eq_false_iff, decide_eq_true_eq, decide_eq_false_iff_not, beq_iff_eq, bne_iff_ne, beq_eq_false_iff_ne, bne_eq_false_iff_eq, ne_eq, Bool.false_eq_true, not_false_eq_true, not_true_eq_false, vIn_t, vIn_f] at hp1
    refine CE.cond_t rfl hb1 ?_
    refine CE.seq ?_
    refine CE.region ?_
    refine WL.det (op_assign rfl) rfl rfl rfl ?_
    refine WL.end ?_
    refine NE.code ?_
    refine CE.ret' ?_
    refine XE.ret_then ?_
    refine XE.leave1 Try.results30 rfl ?_
    refine ⟨?_, (Mod.refl [] w)⟩
    all_goals first | exact congrArg Value.bool (sameL_ne (by omega)).symm | exact congrArg Value.bool (sameL_out (i := i) (by omega) (by first | assumption | simp_all [evSame, inSame])).symm | exact congrArg Value.bool (sameL_all (by omega) hu (by omega)).symm
  · have hp1 := hb1; try simp only [Bool.and_eq_true, Bool.or_eq_true, Bool.not_eq_true', Bool.not_eq_false', Bool.and_eq_false_iff, Bool.or_eq_false_iff, decide_eq_true_eq, decide_eq_false_iff_not, beq_iff_eq, bne_iff_ne, beq_eq_false_iff_ne, bne_eq_false_iff_eq, ne_eq, Bool.false_eq_true, not_false_eq_true, not_true_eq_false, vIn_t, vIn_f] at hp1
    refine CE.cond_f rfl hb1 ?_
    refine CE.skip' ?_
    refine NE.code ?_
    refine CE.seq ?_
    refine CE.seq ?_
    refine CE.region ?_
    refine WL.det (op_assign rfl) rfl rfl rfl ?_
    refine WL.end ?_
    refine NE.code ?_
    refine CE.block ?_
    refine CE.loop (fun (i : Nat) => [(5, vI ((i : Nat) : Int)), (0, .slice A n c), (1, .slice A' n' c'), (4, .bool false)]) (fun (i : Nat) => fun W => (i ≤ n) ∧ (allR inSame InR.d es es' i = true) ∧ Mod [] w W) (fun (i : Nat) => n - i) 0 (⟨rfl, rfl, rfl, rfl, trivial⟩) ⟨(by omega), (by rfl), Mod.refl _ _⟩ ?_
    rintro i w1 ⟨hi, hu, m1⟩
    show CE _ _ _ _ [(5, vI ((i : Nat) : Int)), (0, .slice A n c), (1, .slice A' n' c'), (4, .bool false)] _
    refine CE.seq ?_
    refine CE.seq ?_
    refine CE.region ?_
    refine WL.det (op_move rfl) rfl rfl rfl ?_
    refine WL.det (op_move rfl) rfl rfl rfl ?_
    refine WL.det (op_len rfl Try.runUnderlying52) rfl rfl rfl ?_
    refine WL.det (op_lti rfl rfl) rfl rfl rfl ?_
    refine WL.end ?_
    refine NE.code ?_
    rcases Bool.eq_false_or_eq_true (decide (((i : Nat) : Int) < ((n : Nat) : Int))) with hb2 | hb2
    · have hp2 := hb2; try simp only [Bool.and_eq_true, Bool.or_eq_true, Bool.not_eq_true', Bool.not_eq_false', Bool.and_eq_false_iff, Bool.or_eq_false_iff, decide_eq_true_eq, decide_eq_false_iff_not, beq_iff_eq, bne_iff_ne, beq_eq_false_iff_ne, bne_eq_false_iff_eq, ne_eq, Bool.false_eq_true, not_false_eq_true, not_true_eq_false, vIn_t, vIn_f] at hp2
      refine CE.cond_t rfl hb2 ?_
      refine CE.skip' ?_
      refine NE.code ?_
      refine CE.seq ?_
      refine CE.block ?_
      refine CE.seq ?_
      rcases Bool.eq_false_or_eq_true (sEq ((es.getD i InR.d).name) ((es'.getD i InR.d).name)) with hb3 | hb3
      · rcases Bool.eq_false_or_eq_true ((((es.getD i InR.d).kind) != ((es'.getD i InR.d).kind))) with hb4 | hb4
        · have hp4 := hb4; try simp only [Bool.and_eq_true, Bool.or_eq_true, Bool.not_eq_true', Bool.not_eq_false', Bool.and_eq_false_iff, Bool.or_eq_false_iff, decide_eq_true_eq, decide_eq_false_iff_not, beq_iff_eq, bne_iff_ne, beq_eq_false_iff_ne, bne_eq_false_iff_eq, ne_eq, Bool.false_eq_true, not_false_eq_true, not_true_eq_false, vIn_t, vIn_f] at hp4
          refine CE.draw (fun _ => none) [0, 1, 2, 3, 4, 5, 6, 7, 8, 9, 10, 11, 12, 13, 14, 15, 16, 17, 18, 19, 20, 21, 22, 23, 24, 25, 26, 27, 28, 29, 30, 31, 32, 33, 34, 35, 36, 37, 38, 39, 40, 41, 42, 43, 44, 45, 46, 47, 48, 49, 50, 51, 52, 53, 54, 55, 56, 57, 58, 59, 60, 61, 62] [63, 64, 65] [] (by kernel_rfl) (by kernel_rfl) ?_
          have md1 : Mod [] w1 w1.drew := (Mod.refl _ _).drew
          generalize w1.drew = w2 at md1 ⊢
          refine DR.det (i := 0) rfl rfl (by kernel_rfl) (.free rfl) rfl rfl (fun wD mD => op_move rfl) ?_
          refine DR.det (i := 1) rfl rfl (by kernel_rfl) (.free rfl) rfl rfl (fun wD mD => op_move rfl) ?_
          refine DR.det (i := 2) rfl rfl (by kernel_rfl) (.free rfl) rfl rfl (fun wD mD => op_indexSl (off' := o + i * 5) rfl (hA (by omega)) rfl Try.runUnderlying52 Try.sizeOf93 (by omega) (by omega) (by omega)) ?_
          refine DR.det (i := 3) rfl rfl (by kernel_rfl) (.free rfl) rfl rfl (fun wD mD => op_fieldAddr (off' := o + i * 5) rfl Try.runUnderlying93 rfl rfl Try.sizeOf9 rfl) ?_
          refine DR.det (i := 4) rfl rfl (by kernel_rfl) (.free rfl) rfl rfl (fun wD mD => op_load1 (i := i * 5) rfl Try.isAgg9 (((r.ext m1).ext md1).ext mD) rfl (cat_get0 (f := InR.cells) (m := 5) (i := i) (d := InR.d) (fun _ => rfl) (by have eL : List.length es = n := ln; omega) rfl)) ?_
          refine DR.det (i := 5) rfl rfl (by kernel_rfl) (.free rfl) rfl rfl (fun wD mD => op_move rfl) ?_
          refine DR.det (i := 6) rfl rfl (by kernel_rfl) (.free rfl) rfl rfl (fun wD mD => op_move rfl) ?_
          refine DR.det (i := 7) rfl rfl (by kernel_rfl) (.free rfl) rfl rfl (fun wD mD => op_indexSl (off' := o' + i * 5) rfl (hA' (by omega)) rfl Try.runUnderlying52 Try.sizeOf93 (by omega) (by omega) (by omega)) ?_
          refine DR.det (i := 8) rfl rfl (by kernel_rfl) (.free rfl) rfl rfl (fun wD mD => op_fieldAddr (off' := o' + i * 5) rfl Try.runUnderlying93 rfl rfl Try.sizeOf9 rfl) ?_
          refine DR.det (i := 9) rfl rfl (by kernel_rfl) (.free rfl) rfl rfl (fun wD mD => op_load1 (i := i * 5) rfl Try.isAgg9 (((r'.ext m1).ext md1).ext mD) rfl (cat_get0 (f := InR.cells) (m := 5) (i := i) (d := InR.d) (fun _ => rfl) (by have eL : List.length es' = n' := ln'; omega) rfl)) ?_
          refine DR.det (i := 10) rfl rfl (by kernel_rfl) (.free rfl) rfl rfl (fun wD mD => op_nes rfl rfl) ?_
          refine DR.det (i := 11) rfl rfl (by kernel_rfl) (.free rfl) rfl rfl (fun wD mD => op_move rfl) ?_
          refine DR.det (i := 12) rfl rfl (by kernel_rfl) (.yes rfl rfl rfl (ltb rfl) rfl (bnot_t hb3)) rfl rfl (fun wD mD => op_move rfl) ?_
          refine DR.det (i := 13) rfl rfl (by kernel_rfl) (.yes rfl rfl rfl (ltb rfl) rfl (bnot_t hb3)) rfl rfl (fun wD mD => op_move rfl) ?_
          refine DR.det (i := 14) rfl rfl (by kernel_rfl) (.yes rfl rfl rfl (ltb rfl) rfl (bnot_t hb3)) rfl rfl (fun wD mD => op_indexSl (off' := o + i * 5) rfl (hA (by omega)) rfl Try.runUnderlying52 Try.sizeOf93 (by omega) (by omega) (by omega)) ?_
          refine DR.det (i := 15) rfl rfl (by kernel_rfl) (.yes rfl rfl rfl (ltb rfl) rfl (bnot_t hb3)) rfl rfl (fun wD mD => op_fieldAddr (off' := o + i * 5 + 1) rfl Try.runUnderlying93 rfl rfl Try.sizeOf2 rfl) ?_
          refine DR.det (i := 16) rfl rfl (by kernel_rfl) (.yes rfl rfl rfl (ltb rfl) rfl (bnot_t hb3)) rfl rfl (fun wD mD => op_load1 (i := i * 5 + 1) rfl Try.isAgg2 (((r.ext m1).ext md1).ext mD) rfl (cat_get (f := InR.cells) (m := 5) (i := i) (d := InR.d) (fun _ => rfl) (by have eL : List.length es = n := ln; omega) rfl)) ?_
          refine DR.det (i := 17) rfl rfl (by kernel_rfl) (.yes rfl rfl rfl (ltb rfl) rfl (bnot_t hb3)) rfl rfl (fun wD mD => op_move rfl) ?_
          refine DR.det (i := 18) rfl rfl (by kernel_rfl) (.yes rfl rfl rfl (ltb rfl) rfl (bnot_t hb3)) rfl rfl (fun wD mD => op_move rfl) ?_
          refine DR.det (i := 19) rfl rfl (by kernel_rfl) (.yes rfl rfl rfl (ltb rfl) rfl (bnot_t hb3)) rfl rfl (fun wD mD => op_indexSl (off' := o' + i * 5) rfl (hA' (by omega)) rfl Try.runUnderlying52 Try.sizeOf93 (by omega) (by omega) (by omega)) ?_
          refine DR.det (i := 20) rfl rfl (by kernel_rfl) (.yes rfl rfl rfl (ltb rfl) rfl (bnot_t hb3)) rfl rfl (fun wD mD => op_fieldAddr (off' := o' + i * 5 + 1) rfl Try.runUnderlying93 rfl rfl Try.sizeOf2 rfl) ?_
          refine DR.det (i := 21) rfl rfl (by kernel_rfl) (.yes rfl rfl rfl (ltb rfl) rfl (bnot_t hb3)) rfl rfl (fun wD mD => op_load1 (i := i * 5 + 1) rfl Try.isAgg2 (((r'.ext m1).ext md1).ext mD) rfl (cat_get (f := InR.cells) (m := 5) (i := i) (d := InR.d) (fun _ => rfl) (by have eL : List.length es' = n' := ln'; omega) rfl)) ?_
          refine DR.det (i := 22) rfl rfl (by kernel_rfl) (.yes rfl rfl rfl (ltb rfl) rfl (bnot_t hb3)) rfl rfl (fun wD mD => op_nei rfl rfl) ?_
          refine DR.det (i := 23) rfl rfl (by kernel_rfl) (.free rfl) rfl rfl (fun wD mD => op_pick_f rfl (bnot_t hb3) rfl) ?_
          refine DR.det (i := 24) rfl rfl (by kernel_rfl) (.free rfl) rfl rfl (fun wD mD => op_move rfl) ?_
          refine DR.skip (i := 25) rfl (by kernel_rfl) (.no rfl rfl rfl (ltb rfl) rfl hb4) rfl (ltb rfl) ?_
          refine DR.skip (i := 26) rfl (by kernel_rfl) (.no rfl rfl rfl (ltb rfl) rfl hb4) rfl (ltb rfl) ?_
          refine DR.skip (i := 27) rfl (by kernel_rfl) (.no rfl rfl rfl (ltb rfl) rfl hb4) rfl (ltb rfl) ?_
          refine DR.skip (i := 28) rfl (by kernel_rfl) (.no rfl rfl rfl (ltb rfl) rfl hb4) rfl (ltb rfl) ?_
          refine DR.skip (i := 29) rfl (by kernel_rfl) (.no rfl rfl rfl (ltb rfl) rfl hb4) rfl (ltb rfl) ?_
          refine DR.skip (i := 30) rfl (by kernel_rfl) (.no rfl rfl rfl (ltb rfl) rfl hb4) rfl (ltb rfl) ?_
          refine DR.skip (i := 31) rfl (by kernel_rfl) (.no rfl rfl rfl (ltb rfl) rfl hb4) rfl (ltb rfl) ?_
          refine DR.skip (i := 32) rfl (by kernel_rfl) (.no rfl rfl rfl (ltb rfl) rfl hb4) rfl (ltb rfl) ?_
          refine DR.skip (i := 33) rfl (by kernel_rfl) (.no rfl rfl rfl (ltb rfl) rfl hb4) rfl (ltb rfl) ?_
          refine DR.skip (i := 34) rfl (by kernel_rfl) (.no rfl rfl rfl (ltb rfl) rfl hb4) rfl (ltb rfl) ?_
          refine DR.skip (i := 35) rfl (by kernel_rfl) (.no rfl rfl rfl (ltb rfl) rfl hb4) rfl (ltb rfl) ?_
          refine DR.skip (i := 36) rfl (by kernel_rfl) (.no rfl rfl rfl (ltb rfl) rfl hb4) rfl (ltb rfl) ?_
          refine DR.det (i := 37) rfl rfl (by kernel_rfl) (.free rfl) rfl rfl (fun wD mD => op_pick_t rfl hb4 rfl) ?_
          refine DR.det (i := 38) rfl rfl (by kernel_rfl) (.free rfl) rfl rfl (fun wD mD => op_move rfl) ?_
          refine DR.skip (i := 39) rfl (by kernel_rfl) (.no rfl rfl rfl (ltb rfl) rfl rfl) rfl (ltb rfl) ?_
          refine DR.skip (i := 40) rfl (by kernel_rfl) (.no rfl rfl rfl (ltb rfl) rfl rfl) rfl (ltb rfl) ?_
          refine DR.skip (i := 41) rfl (by kernel_rfl) (.no rfl rfl rfl (ltb rfl) rfl rfl) rfl (ltb rfl) ?_
          refine DR.skip (i := 42) rfl (by kernel_rfl) (.no rfl rfl rfl (ltb rfl) rfl rfl) rfl (ltb rfl) ?_
          refine DR.skip (i := 43) rfl (by kernel_rfl) (.no rfl rfl rfl (ltb rfl) rfl rfl) rfl (ltb rfl) ?_
          refine DR.skip (i := 44) rfl (by kernel_rfl) (.no rfl rfl rfl (ltb rfl) rfl rfl) rfl (ltb rfl) ?_
          refine DR.skip (i := 45) rfl (by kernel_rfl) (.no rfl rfl rfl (ltb rfl) rfl rfl) rfl (ltb rfl) ?_
          refine DR.skip (i := 46) rfl (by kernel_rfl) (.no rfl rfl rfl (ltb rfl) rfl rfl) rfl (ltb rfl) ?_
          refine DR.skip (i := 47) rfl (by kernel_rfl) (.no rfl rfl rfl (ltb rfl) rfl rfl) rfl (ltb rfl) ?_
          refine DR.skip (i := 48) rfl (by kernel_rfl) (.no rfl rfl rfl (ltb rfl) rfl rfl) rfl (ltb rfl) ?_
          refine DR.skip (i := 49) rfl (by kernel_rfl) (.no rfl rfl rfl (ltb rfl) rfl rfl) rfl (ltb rfl) ?_
          refine DR.skip (i := 50) rfl (by kernel_rfl) (.no rfl rfl rfl (ltb rfl) rfl rfl) rfl (ltb rfl) ?_
          refine DR.det (i := 51) rfl rfl (by kernel_rfl) (.free rfl) rfl rfl (fun wD mD => op_pick_t rfl rfl rfl) ?_
          refine DR.det (i := 52) rfl rfl (by kernel_rfl) (.free rfl) rfl rfl (fun wD mD => op_move rfl) ?_
          refine DR.skip (i := 53) rfl (by kernel_rfl) (.no rfl rfl rfl (ltb rfl) rfl rfl) rfl (ltb rfl) ?_
          refine DR.skip (i := 54) rfl (by kernel_rfl) (.no rfl rfl rfl (ltb rfl) rfl rfl) rfl (ltb rfl) ?_
          refine DR.skip (i := 55) rfl (by kernel_rfl) (.no rfl rfl rfl (ltb rfl) rfl rfl) rfl (ltb rfl) ?_
          refine DR.skip (i := 56) rfl (by kernel_rfl) (.no rfl rfl rfl (ltb rfl) rfl rfl) rfl (ltb rfl) ?_
          refine DR.skip (i := 57) rfl (by kernel_rfl) (.no rfl rfl rfl (ltb rfl) rfl rfl) rfl (ltb rfl) ?_
          refine DR.skip (i := 58) rfl (by kernel_rfl) (.no rfl rfl rfl (ltb rfl) rfl rfl) rfl (ltb rfl) ?_
          refine DR.skip (i := 59) rfl (by kernel_rfl) (.no rfl rfl rfl (ltb rfl) rfl rfl) rfl (ltb rfl) ?_
          refine DR.skip (i := 60) rfl (by kernel_rfl) (.no rfl rfl rfl (ltb rfl) rfl rfl) rfl (ltb rfl) ?_
          refine DR.skip (i := 61) rfl (by kernel_rfl) (.no rfl rfl rfl (ltb rfl) rfl rfl) rfl (ltb rfl) ?_
          refine DR.skip (i := 62) rfl (by kernel_rfl) (.no rfl rfl rfl (ltb rfl) rfl rfl) rfl (ltb rfl) ?_
          refine DR.done rfl ?_
          intro w3 m2
          refine WO.skip rfl (.no rfl rfl rfl (ltb rfl) rfl rfl) rfl (ltb rfl) ?_
          refine WO.skip rfl (.no rfl rfl rfl (ltb rfl) rfl rfl) rfl (ltb rfl) ?_
          refine WO.det (op_pick_t rfl rfl rfl) rfl (.free rfl) rfl rfl ?_
          refine WO.end ?_
          refine NE.code ?_
          refine CE.cond_t rfl rfl ?_
          refine CE.seq ?_
          refine CE.region ?_
          refine WL.det (op_assign rfl) rfl rfl rfl ?_
          refine WL.end ?_
          refine NE.code ?_
          refine CE.ret' ?_
          refine XE.ret_blk ?_
          refine XE.ret_then ?_
          refine XE.ret_then ?_
          refine XE.ret_blk ?_
          refine XE.ret_then ?_
          refine XE.leave1 Try.results30 rfl ?_
          refine ⟨?_, ((((Mod.refl [] w).nt m1).nt md1).nt m2)⟩
          all_goals first | exact congrArg Value.bool (sameL_ne (by omega)).symm | exact congrArg Value.bool (sameL_out (i := i) (by omega) (by first | assumption | simp_all [evSame, inSame])).symm | exact congrArg Value.bool (sameL_all (by omega) hu (by omega)).symm
        · have hp4 := hb4; try simp only [Bool.and_eq_true, Bool.or_eq_true, Bool.not_eq_true', Bool.not_eq_false', Bool.and_eq_false_iff, Bool.or_eq_false_iff, decide_eq_true_eq, decide_eq_false_iff_not, beq_iff_eq, bne_iff_ne, beq_eq_false_iff_ne, bne_eq_false_iff_eq, ne_eq, Bool.false_eq_true, not_false_eq_true, not_true_eq_false, vIn_t, vIn_f] at hp4
          rcases Bool.eq_false_or_eq_true (cn .f32 ((es.getD i InR.d).a) == cn .f32 ((es'.getD i InR.d).a)) with hb5 | hb5
          · have hp5 := hb5; try simp only [Bool.and_eq_true, Bool.or_eq_true, Bool.not_eq_true', Bool.not_eq_false', Bool.and_eq_false_iff, Bool.or_eq_false_iff, decide_eq_true_eq, decide_eq_false_iff_not, beq_iff_eq, bne_iff_ne, beq_eq_false_iff_ne, bne_eq_false_iff_eq, ne_eq, Bool.false_eq_true, not_false_eq_true, not_true_eq_false, vIn_t, vIn_f] at hp5
            rcases Bool.eq_false_or_eq_true (cn .f32 ((es.getD i InR.d).b) == cn .f32 ((es'.getD i InR.d).b)) with hb6 | hb6
            · have hp6 := hb6; try simp only [Bool.and_eq_true, Bool.or_eq_true, Bool.not_eq_true', Bool.not_eq_false', Bool.and_eq_false_iff, Bool.or_eq_false_iff, decide_eq_true_eq, decide_eq_false_iff_not, beq_iff_eq, bne_iff_ne, beq_eq_false_iff_ne, bne_eq_false_iff_eq, ne_eq, Bool.false_eq_true, not_false_eq_true, not_true_eq_false, vIn_t, vIn_f] at hp6
              refine CE.draw (fun | 35 => some (fun _ wA uA wB => uA = .bool (cn .f32 ((es.getD i InR.d).a) == cn .f32 ((es'.getD i InR.d).a)) ∧ wA = wB) | 49 => some (fun _ wA uA wB => uA = .bool (cn .f32 ((es.getD i InR.d).b) == cn .f32 ((es'.getD i InR.d).b)) ∧ wA = wB) | _ => none) [0, 1, 2, 3, 4, 5, 6, 7, 8, 9, 10, 11, 12, 13, 14, 15, 16, 17, 18, 19, 20, 21, 22, 23, 24, 25, 26, 27, 28, 29, 30, 31, 32, 33, 34, 35, 36, 37, 38, 39, 40, 41, 42, 43, 44, 45, 46, 47, 48, 49, 50, 51, 52, 53, 54, 55, 56, 57, 58, 59, 60, 61, 62] [63, 64, 65] [] (by kernel_rfl) (by kernel_rfl) ?_
              have md2 : Mod [] w1 w1.drew := (Mod.refl _ _).drew
              generalize w1.drew = w4 at md2 ⊢
              refine DR.det (i := 0) rfl rfl (by kernel_rfl) (.free rfl) rfl rfl (fun wD mD => op_move rfl) ?_
              refine DR.det (i := 1) rfl rfl (by kernel_rfl) (.free rfl) rfl rfl (fun wD mD => op_move rfl) ?_
              refine DR.det (i := 2) rfl rfl (by kernel_rfl) (.free rfl) rfl rfl (fun wD mD => op_indexSl (off' := o + i * 5) rfl (hA (by omega)) rfl Try.runUnderlying52 Try.sizeOf93 (by omega) (by omega) (by omega)) ?_
              refine DR.det (i := 3) rfl rfl (by kernel_rfl) (.free rfl) rfl rfl (fun wD mD => op_fieldAddr (off' := o + i * 5) rfl Try.runUnderlying93 rfl rfl Try.sizeOf9 rfl) ?_
              refine DR.det (i := 4) rfl rfl (by kernel_rfl) (.free rfl) rfl rfl (fun wD mD => op_load1 (i := i * 5) rfl Try.isAgg9 (((r.ext m1).ext md2).ext mD) rfl (cat_get0 (f := InR.cells) (m := 5) (i := i) (d := InR.d) (fun _ => rfl) (by have eL : List.length es = n := ln; omega) rfl)) ?_
              refine DR.det (i := 5) rfl rfl (by kernel_rfl) (.free rfl) rfl rfl (fun wD mD => op_move rfl) ?_
              refine DR.det (i := 6) rfl rfl (by kernel_rfl) (.free rfl) rfl rfl (fun wD mD => op_move rfl) ?_
              refine DR.det (i := 7) rfl rfl (by kernel_rfl) (.free rfl) rfl rfl (fun wD mD => op_indexSl (off' := o' + i * 5) rfl (hA' (by omega)) rfl Try.runUnderlying52 Try.sizeOf93 (by omega) (by omega) (by omega)) ?_
              refine DR.det (i := 8) rfl rfl (by kernel_rfl) (.free rfl) rfl rfl (fun wD mD => op_fieldAddr (off' := o' + i * 5) rfl Try.runUnderlying93 rfl rfl Try.sizeOf9 rfl) ?_
              refine DR.det (i := 9) rfl rfl (by kernel_rfl) (.free rfl) rfl rfl (fun wD mD => op_load1 (i := i * 5) rfl Try.isAgg9 (((r'.ext m1).ext md2).ext mD) rfl (cat_get0 (f := InR.cells) (m := 5) (i := i) (d := InR.d) (fun _ => rfl) (by have eL : List.length es' = n' := ln'; omega) rfl)) ?_
              refine DR.det (i := 10) rfl rfl (by kernel_rfl) (.free rfl) rfl rfl (fun wD mD => op_nes rfl rfl) ?_
              refine DR.det (i := 11) rfl rfl (by kernel_rfl) (.free rfl) rfl rfl (fun wD mD => op_move rfl) ?_
              refine DR.det (i := 12) rfl rfl (by kernel_rfl) (.yes rfl rfl rfl (ltb rfl) rfl (bnot_t hb3)) rfl rfl (fun wD mD => op_move rfl) ?_
              refine DR.det (i := 13) rfl rfl (by kernel_rfl) (.yes rfl rfl rfl (ltb rfl) rfl (bnot_t hb3)) rfl rfl (fun wD mD => op_move rfl) ?_
              refine DR.det (i := 14) rfl rfl (by kernel_rfl) (.yes rfl rfl rfl (ltb rfl) rfl (bnot_t hb3)) rfl rfl (fun wD mD => op_indexSl (off' := o + i * 5) rfl (hA (by omega)) rfl Try.runUnderlying52 Try.sizeOf93 (by omega) (by omega) (by omega)) ?_
              refine DR.det (i := 15) rfl rfl (by kernel_rfl) (.yes rfl rfl rfl (ltb rfl) rfl (bnot_t hb3)) rfl rfl (fun wD mD => op_fieldAddr (off' := o + i * 5 + 1) rfl Try.runUnderlying93 rfl rfl Try.sizeOf2 rfl) ?_
              refine DR.det (i := 16) rfl rfl (by kernel_rfl) (.yes rfl rfl rfl (ltb rfl) rfl (bnot_t hb3)) rfl rfl (fun wD mD => op_load1 (i := i * 5 + 1) rfl Try.isAgg2 (((r.ext m1).ext md2).ext mD) rfl (cat_get (f := InR.cells) (m := 5) (i := i) (d := InR.d) (fun _ => rfl) (by have eL : List.length es = n := ln; omega) rfl)) ?_
              refine DR.det (i := 17) rfl rfl (by kernel_rfl) (.yes rfl rfl rfl (ltb rfl) rfl (bnot_t hb3)) rfl rfl (fun wD mD => op_move rfl) ?_
              refine DR.det (i := 18) rfl rfl (by kernel_rfl) (.yes rfl rfl rfl (ltb rfl) rfl (bnot_t hb3)) rfl rfl (fun wD mD => op_move rfl) ?_
              refine DR.det (i := 19) rfl rfl (by kernel_rfl) (.yes rfl rfl rfl (ltb rfl) rfl (bnot_t hb3)) rfl rfl (fun wD mD => op_indexSl (off' := o' + i * 5) rfl (hA' (by omega)) rfl Try.runUnderlying52 Try.sizeOf93 (by omega) (by omega) (by omega)) ?_
              refine DR.det (i := 20) rfl rfl (by kernel_rfl) (.yes rfl rfl rfl (ltb rfl) rfl (bnot_t hb3)) rfl rfl (fun wD mD => op_fieldAddr (off' := o' + i * 5 + 1) rfl Try.runUnderlying93 rfl rfl Try.sizeOf2 rfl) ?_
              refine DR.det (i := 21) rfl rfl (by kernel_rfl) (.yes rfl rfl rfl (ltb rfl) rfl (bnot_t hb3)) rfl rfl (fun wD mD => op_load1 (i := i * 5 + 1) rfl Try.isAgg2 (((r'.ext m1).ext md2).ext mD) rfl (cat_get (f := InR.cells) (m := 5) (i := i) (d := InR.d) (fun _ => rfl) (by have eL : List.length es' = n' := ln'; omega) rfl)) ?_
              refine DR.det (i := 22) rfl rfl (by kernel_rfl) (.yes rfl rfl rfl (ltb rfl) rfl (bnot_t hb3)) rfl rfl (fun wD mD => op_nei rfl rfl) ?_
              refine DR.det (i := 23) rfl rfl (by kernel_rfl) (.free rfl) rfl rfl (fun wD mD => op_pick_f rfl (bnot_t hb3) rfl) ?_
              refine DR.det (i := 24) rfl rfl (by kernel_rfl) (.free rfl) rfl rfl (fun wD mD => op_move rfl) ?_
              refine DR.det (i := 25) rfl rfl (by kernel_rfl) (.yes rfl rfl rfl (ltb rfl) rfl hb4) rfl rfl (fun wD mD => op_move rfl) ?_
              refine DR.det (i := 26) rfl rfl (by kernel_rfl) (.yes rfl rfl rfl (ltb rfl) rfl hb4) rfl rfl (fun wD mD => op_move rfl) ?_
              refine DR.det (i := 27) rfl rfl (by kernel_rfl) (.yes rfl rfl rfl (ltb rfl) rfl hb4) rfl rfl (fun wD mD => op_indexSl (off' := o + i * 5) rfl (hA (by omega)) rfl Try.runUnderlying52 Try.sizeOf93 (by omega) (by omega) (by omega)) ?_
              refine DR.det (i := 28) rfl rfl (by kernel_rfl) (.yes rfl rfl rfl (ltb rfl) rfl hb4) rfl rfl (fun wD mD => op_fieldAddr (off' := o + i * 5 + 2) rfl Try.runUnderlying93 rfl rfl Try.sizeOf22 rfl) ?_
              refine DR.det (i := 29) rfl rfl (by kernel_rfl) (.yes rfl rfl rfl (ltb rfl) rfl hb4) rfl rfl (fun wD mD => op_load1 (i := i * 5 + 2) rfl Try.isAgg22 (((r.ext m1).ext md2).ext mD) rfl (cat_get (f := InR.cells) (m := 5) (i := i) (d := InR.d) (fun _ => rfl) (by have eL : List.length es = n := ln; omega) rfl)) ?_
              refine DR.det (i := 30) rfl rfl (by kernel_rfl) (.yes rfl rfl rfl (ltb rfl) rfl hb4) rfl rfl (fun wD mD => op_move rfl) ?_
              refine DR.det (i := 31) rfl rfl (by kernel_rfl) (.yes rfl rfl rfl (ltb rfl) rfl hb4) rfl rfl (fun wD mD => op_move rfl) ?_
              refine DR.det (i := 32) rfl rfl (by kernel_rfl) (.yes rfl rfl rfl (ltb rfl) rfl hb4) rfl rfl (fun wD mD => op_indexSl (off' := o' + i * 5) rfl (hA' (by omega)) rfl Try.runUnderlying52 Try.sizeOf93 (by omega) (by omega) (by omega)) ?_
              refine DR.det (i := 33) rfl rfl (by kernel_rfl) (.yes rfl rfl rfl (ltb rfl) rfl hb4) rfl rfl (fun wD mD => op_fieldAddr (off' := o' + i * 5 + 2) rfl Try.runUnderlying93 rfl rfl Try.sizeOf22 rfl) ?_
              refine DR.det (i := 34) rfl rfl (by kernel_rfl) (.yes rfl rfl rfl (ltb rfl) rfl hb4) rfl rfl (fun wD mD => op_load1 (i := i * 5 + 2) rfl Try.isAgg22 (((r'.ext m1).ext md2).ext mD) rfl (cat_get (f := InR.cells) (m := 5) (i := i) (d := InR.d) (fun _ => rfl) (by have eL : List.length es' = n' := ln'; omega) rfl)) ?_
              refine DR.call (i := 35) (fun uA => uA = .bool (cn .f32 ((es.getD i InR.d).a) == cn .f32 ((es'.getD i InR.d).a))) rfl rfl (by kernel_rfl) (.yes rfl rfl rfl (ltb rfl) rfl hb4) rfl (ltb rfl) ⟨_, rfl⟩ (vs := [.func (.func 28) #[] #[], vF ((es.getD i InR.d).a), vF ((es'.getD i InR.d).a)]) rfl (fun wD mD => oc_call (vs := [vF ((es.getD i InR.d).a), vF ((es'.getD i InR.d).a)]) (cap := []) rfl rfl rfl Try.call28 (c_l01Same ((es.getD i InR.d).a) ((es.getD i InR.d).a) ((es'.getD i InR.d).a) ((es'.getD i InR.d).a) rfl rfl wD)) ?_ ?_
              · rintro w1 _ _ m1 ⟨rfl, rfl⟩; exact ⟨rfl, Mod.refl _ _⟩
              rintro _ rfl
              refine DR.det (i := 36) rfl rfl (by kernel_rfl) (.yes rfl rfl rfl (ltb rfl) rfl hb4) rfl rfl (fun wD mD => op_not rfl) ?_
              refine DR.det (i := 37) rfl rfl (by kernel_rfl) (.free rfl) rfl rfl (fun wD mD => op_pick_f rfl hb4 rfl) ?_
              refine DR.det (i := 38) rfl rfl (by kernel_rfl) (.free rfl) rfl rfl (fun wD mD => op_move rfl) ?_
              refine DR.det (i := 39) rfl rfl (by kernel_rfl) (.yes rfl rfl rfl (ltb rfl) rfl (bnot_t hb5)) rfl rfl (fun wD mD => op_move rfl) ?_
              refine DR.det (i := 40) rfl rfl (by kernel_rfl) (.yes rfl rfl rfl (ltb rfl) rfl (bnot_t hb5)) rfl rfl (fun wD mD => op_move rfl) ?_
              refine DR.det (i := 41) rfl rfl (by kernel_rfl) (.yes rfl rfl rfl (ltb rfl) rfl (bnot_t hb5)) rfl rfl (fun wD mD => op_indexSl (off' := o + i * 5) rfl (hA (by omega)) rfl Try.runUnderlying52 Try.sizeOf93 (by omega) (by omega) (by omega)) ?_
              refine DR.det (i := 42) rfl rfl (by kernel_rfl) (.yes rfl rfl rfl (ltb rfl) rfl (bnot_t hb5)) rfl rfl (fun wD mD => op_fieldAddr (off' := o + i * 5 + 3) rfl Try.runUnderlying93 rfl rfl Try.sizeOf22 rfl) ?_
              refine DR.det (i := 43) rfl rfl (by kernel_rfl) (.yes rfl rfl rfl (ltb rfl) rfl (bnot_t hb5)) rfl rfl (fun wD mD => op_load1 (i := i * 5 + 3) rfl Try.isAgg22 (((r.ext m1).ext md2).ext mD) rfl (cat_get (f := InR.cells) (m := 5) (i := i) (d := InR.d) (fun _ => rfl) (by have eL : List.length es = n := ln; omega) rfl)) ?_
              refine DR.det (i := 44) rfl rfl (by kernel_rfl) (.yes rfl rfl rfl (ltb rfl) rfl (bnot_t hb5)) rfl rfl (fun wD mD => op_move rfl) ?_
              refine DR.det (i := 45) rfl rfl (by kernel_rfl) (.yes rfl rfl rfl (ltb rfl) rfl (bnot_t hb5)) rfl rfl (fun wD mD => op_move rfl) ?_
              refine DR.det (i := 46) rfl rfl (by kernel_rfl) (.yes rfl rfl rfl (ltb rfl) rfl (bnot_t hb5)) rfl rfl (fun wD mD => op_indexSl (off' := o' + i * 5) rfl (hA' (by omega)) rfl Try.runUnderlying52 Try.sizeOf93 (by omega) (by omega) (by omega)) ?_
              refine DR.det (i := 47) rfl rfl (by kernel_rfl) (.yes rfl rfl rfl (ltb rfl) rfl (bnot_t hb5)) rfl rfl (fun wD mD => op_fieldAddr (off' := o' + i * 5 + 3) rfl Try.runUnderlying93 rfl rfl Try.sizeOf22 rfl) ?_
              refine DR.det (i := 48) rfl rfl (by kernel_rfl) (.yes rfl rfl rfl (ltb rfl) rfl (bnot_t hb5)) rfl rfl (fun wD mD => op_load1 (i := i * 5 + 3) rfl Try.isAgg22 (((r'.ext m1).ext md2).ext mD) rfl (cat_get (f := InR.cells) (m := 5) (i := i) (d := InR.d) (fun _ => rfl) (by have eL : List.length es' = n' := ln'; omega) rfl)) ?_
              refine DR.call (i := 49) (fun uA => uA = .bool (cn .f32 ((es.getD i InR.d).b) == cn .f32 ((es'.getD i InR.d).b))) rfl rfl (by kernel_rfl) (.yes rfl rfl rfl (ltb rfl) rfl (bnot_t hb5)) rfl (ltb rfl) ⟨_, rfl⟩ (vs := [.func (.func 28) #[] #[], vF ((es.getD i InR.d).b), vF ((es'.getD i InR.d).b)]) rfl (fun wD mD => oc_call (vs := [vF ((es.getD i InR.d).b), vF ((es'.getD i InR.d).b)]) (cap := []) rfl rfl rfl Try.call28 (c_l01Same ((es.getD i InR.d).b) ((es.getD i InR.d).b) ((es'.getD i InR.d).b) ((es'.getD i InR.d).b) rfl rfl wD)) ?_ ?_
              · rintro w1 _ _ m1 ⟨rfl, rfl⟩; exact ⟨rfl, Mod.refl _ _⟩
              rintro _ rfl
              refine DR.det (i := 50) rfl rfl (by kernel_rfl) (.yes rfl rfl rfl (ltb rfl) rfl (bnot_t hb5)) rfl rfl (fun wD mD => op_not rfl) ?_
              refine DR.det (i := 51) rfl rfl (by kernel_rfl) (.free rfl) rfl rfl (fun wD mD => op_pick_f rfl (bnot_t hb5) rfl) ?_
              refine DR.det (i := 52) rfl rfl (by kernel_rfl) (.free rfl) rfl rfl (fun wD mD => op_move rfl) ?_
              refine DR.det (i := 53) rfl rfl (by kernel_rfl) (.yes rfl rfl rfl (ltb rfl) rfl (bnot_t hb6)) rfl rfl (fun wD mD => op_move rfl) ?_
              refine DR.det (i := 54) rfl rfl (by kernel_rfl) (.yes rfl rfl rfl (ltb rfl) rfl (bnot_t hb6)) rfl rfl (fun wD mD => op_move rfl) ?_
              refine DR.det (i := 55) rfl rfl (by kernel_rfl) (.yes rfl rfl rfl (ltb rfl) rfl (bnot_t hb6)) rfl rfl (fun wD mD => op_indexSl (off' := o + i * 5) rfl (hA (by omega)) rfl Try.runUnderlying52 Try.sizeOf93 (by omega) (by omega) (by omega)) ?_
              refine DR.det (i := 56) rfl rfl (by kernel_rfl) (.yes rfl rfl rfl (ltb rfl) rfl (bnot_t hb6)) rfl rfl (fun wD mD => op_fieldAddr (off' := o + i * 5 + 4) rfl Try.runUnderlying93 rfl rfl Try.sizeOf22 rfl) ?_
              refine DR.det (i := 57) rfl rfl (by kernel_rfl) (.yes rfl rfl rfl (ltb rfl) rfl (bnot_t hb6)) rfl rfl (fun wD mD => op_load1 (i := i * 5 + 4) rfl Try.isAgg22 (((r.ext m1).ext md2).ext mD) rfl (cat_get (f := InR.cells) (m := 5) (i := i) (d := InR.d) (fun _ => rfl) (by have eL : List.length es = n := ln; omega) rfl)) ?_
              refine DR.det (i := 58) rfl rfl (by kernel_rfl) (.yes rfl rfl rfl (ltb rfl) rfl (bnot_t hb6)) rfl rfl (fun wD mD => op_move rfl) ?_
              refine DR.det (i := 59) rfl rfl (by kernel_rfl) (.yes rfl rfl rfl (ltb rfl) rfl (bnot_t hb6)) rfl rfl (fun wD mD => op_move rfl) ?_
              refine DR.det (i := 60) rfl rfl (by kernel_rfl) (.yes rfl rfl rfl (ltb rfl) rfl (bnot_t hb6)) rfl rfl (fun wD mD => op_indexSl (off' := o' + i * 5) rfl (hA' (by omega)) rfl Try.runUnderlying52 Try.sizeOf93 (by omega) (by omega) (by omega)) ?_
              refine DR.det (i := 61) rfl rfl (by kernel_rfl) (.yes rfl rfl rfl (ltb rfl) rfl (bnot_t hb6)) rfl rfl (fun wD mD => op_fieldAddr (off' := o' + i * 5 + 4) rfl Try.runUnderlying93 rfl rfl Try.sizeOf22 rfl) ?_
              refine DR.det (i := 62) rfl rfl (by kernel_rfl) (.yes rfl rfl rfl (ltb rfl) rfl (bnot_t hb6)) rfl rfl (fun wD mD => op_load1 (i := i * 5 + 4) rfl Try.isAgg22 (((r'.ext m1).ext md2).ext mD) rfl (cat_get (f := InR.cells) (m := 5) (i := i) (d := InR.d) (fun _ => rfl) (by have eL : List.length es' = n' := ln'; omega) rfl)) ?_
              refine DR.done rfl ?_
              intro w5 m3
              refine WO.call rfl (.yes rfl rfl rfl (ltb rfl) rfl (bnot_t hb6)) rfl (ltb rfl) (oc_call (vs := [vF ((es.getD i InR.d).c), vF ((es'.getD i InR.d).c)]) (cap := []) rfl rfl rfl Try.call28 (c_l01Same ((es.getD i InR.d).c) ((es.getD i InR.d).c) ((es'.getD i InR.d).c) ((es'.getD i InR.d).c) rfl rfl w5)) ?_
              rintro _ _ ⟨rfl, rfl⟩
              refine WO.det (op_not rfl) rfl (.yes rfl rfl rfl (ltb rfl) rfl (bnot_t hb6)) rfl rfl ?_
              refine WO.det (op_pick_f rfl (bnot_t hb6) rfl) rfl (.free rfl) rfl rfl ?_
              refine WO.end ?_
              refine NE.code ?_
              rcases Bool.eq_false_or_eq_true (cn .f32 ((es.getD i InR.d).c) == cn .f32 ((es'.getD i InR.d).c)) with hb7 | hb7
              · have hp7 := hb7; try simp only [Bool.and_eq_true, Bool.or_eq_true, Bool.not_eq_true', Bool.not_eq_false', Bool.and_eq_false_iff, Bool.or_eq_false_iff, decide_eq_true_eq, decide_eq_false_iff_not, beq_iff_eq, bne_iff_ne, beq_eq_false_iff_ne, bne_eq_false_iff_eq, ne_eq, Bool.false_eq_true, not_false_eq_true, not_true_eq_false, vIn_t, vIn_f] at hp7
                refine CE.cond_f rfl (bnot_t hb7) ?_
                refine CE.skip' ?_
                refine NE.blk ?_
                refine NE.code ?_
                refine CE.region ?_
                refine WL.det (op_move rfl) rfl rfl rfl ?_
                refine WL.det (op_add (r := ((i + 1 : Nat) : Int)) rfl rfl (w_i64 (by omega) (by omega))) rfl rfl rfl ?_
                refine WL.det (op_assign rfl) rfl rfl rfl ?_
                refine WL.end ?_
                exact NE.again (i + 1) (⟨rfl, rfl, rfl, rfl, trivial⟩) ⟨(by omega), (by exact allR_step hu (by simp_all [inSame])), ((m1.nt md2).nt m3)⟩ (by first | (dsimp only; omega) | omega)
              · have hp7 := hb7; try simp only [Bool.and_eq_true, Bool.or_eq_true, Bool.not_eq_true', Bool.not_eq_false', Bool.and_eq_false_iff, Bool.or_eq_false_iff, decide_eq_true_eq, decide_eq_false_iff_not, beq_iff_eq, bne_iff_ne, beq_eq_false_iff_ne, bne_eq_false_iff_eq, ne_eq, Bool.false_eq_true, not_false_eq_true, not_true_eq_false, vIn_t, vIn_f] at hp7
                refine CE.cond_t rfl (bnot_f hb7) ?_
                refine CE.seq ?_
                refine CE.region ?_
                refine WL.det (op_assign rfl) rfl rfl rfl ?_
                refine WL.end ?_
                refine NE.code ?_
                refine CE.ret' ?_
                refine XE.ret_blk ?_
                refine XE.ret_then ?_
                refine XE.ret_then ?_
                refine XE.ret_blk ?_
                refine XE.ret_then ?_
                refine XE.leave1 Try.results30 rfl ?_
                refine ⟨?_, ((((Mod.refl [] w).nt m1).nt md2).nt m3)⟩
                all_goals first | exact congrArg Value.bool (sameL_ne (by omega)).symm | exact congrArg Value.bool (sameL_out (i := i) (by omega) (by first | assumption | simp_all [evSame, inSame])).symm | exact congrArg Value.bool (sameL_all (by omega) hu (by omega)).symm
            · have hp6 := hb6; try simp only [Bool.and_eq_true, Bool.or_eq_true, Bool.not_eq_true', Bool.not_eq_false', Bool.and_eq_false_iff, Bool.or_eq_false_iff, decide_eq_true_eq, decide_eq_false_iff_not, beq_iff_eq, bne_iff_ne, beq_eq_false_iff_ne, bne_eq_false_iff_eq, ne_eq, Bool.false_eq_true, not_false_eq_true, not_true_eq_false, vIn_t, vIn_f] at hp6
              refine CE.draw (fun | 35 => some (fun _ wA uA wB => uA = .bool (cn .f32 ((es.getD i InR.d).a) == cn .f32 ((es'.getD i InR.d).a)) ∧ wA = wB) | 49 => some (fun _ wA uA wB => uA = .bool (cn .f32 ((es.getD i InR.d).b) == cn .f32 ((es'.getD i InR.d).b)) ∧ wA = wB) | _ => none) [0, 1, 2, 3, 4, 5, 6, 7, 8, 9, 10, 11, 12, 13, 14, 15, 16, 17, 18, 19, 20, 21, 22, 23, 24, 25, 26, 27, 28, 29, 30, 31, 32, 33, 34, 35, 36, 37, 38, 39, 40, 41, 42, 43, 44, 45, 46, 47, 48, 49, 50, 51, 52, 53, 54, 55, 56, 57, 58, 59, 60, 61, 62] [63, 64, 65] [] (by kernel_rfl) (by kernel_rfl) ?_
              have md3 : Mod [] w1 w1.drew := (Mod.refl _ _).drew
              generalize w1.drew = w6 at md3 ⊢
              refine DR.det (i := 0) rfl rfl (by kernel_rfl) (.free rfl) rfl rfl (fun wD mD => op_move rfl) ?_
              refine DR.det (i := 1) rfl rfl (by kernel_rfl) (.free rfl) rfl rfl (fun wD mD => op_move rfl) ?_
              refine DR.det (i := 2) rfl rfl (by kernel_rfl) (.free rfl) rfl rfl (fun wD mD => op_indexSl (off' := o + i * 5) rfl (hA (by omega)) rfl Try.runUnderlying52 Try.sizeOf93 (by omega) (by omega) (by omega)) ?_
              refine DR.det (i := 3) rfl rfl (by kernel_rfl) (.free rfl) rfl rfl (fun wD mD => op_fieldAddr (off' := o + i * 5) rfl Try.runUnderlying93 rfl rfl Try.sizeOf9 rfl) ?_
              refine DR.det (i := 4) rfl rfl (by kernel_rfl) (.free rfl) rfl rfl (fun wD mD => op_load1 (i := i * 5) rfl Try.isAgg9 (((r.ext m1).ext md3).ext mD) rfl (cat_get0 (f := InR.cells) (m := 5) (i := i) (d := InR.d) (fun _ => rfl) (by have eL : List.length es = n := ln; omega) rfl)) ?_
              refine DR.det (i := 5) rfl rfl (by kernel_rfl) (.free rfl) rfl rfl (fun wD mD => op_move rfl) ?_
              refine DR.det (i := 6) rfl rfl (by kernel_rfl) (.free rfl) rfl rfl (fun wD mD => op_move rfl) ?_
              refine DR.det (i := 7) rfl rfl (by kernel_rfl) (.free rfl) rfl rfl (fun wD mD => op_indexSl (off' := o' + i * 5) rfl (hA' (by omega)) rfl Try.runUnderlying52 Try.sizeOf93 (by omega) (by omega) (by omega)) ?_
              refine DR.det (i := 8) rfl rfl (by kernel_rfl) (.free rfl) rfl rfl (fun wD mD => op_fieldAddr (off' := o' + i * 5) rfl Try.runUnderlying93 rfl rfl Try.sizeOf9 rfl) ?_
              refine DR.det (i := 9) rfl rfl (by kernel_rfl) (.free rfl) rfl rfl (fun wD mD => op_load1 (i := i * 5) rfl Try.isAgg9 (((r'.ext m1).ext md3).ext mD) rfl (cat_get0 (f := InR.cells) (m := 5) (i := i) (d := InR.d) (fun _ => rfl) (by have eL : List.length es' = n' := ln'; omega) rfl)) ?_
              refine DR.det (i := 10) rfl rfl (by kernel_rfl) (.free rfl) rfl rfl (fun wD mD => op_nes rfl rfl) ?_
              refine DR.det (i := 11) rfl rfl (by kernel_rfl) (.free rfl) rfl rfl (fun wD mD => op_move rfl) ?_
              refine DR.det (i := 12) rfl rfl (by kernel_rfl) (.yes rfl rfl rfl (ltb rfl) rfl (bnot_t hb3)) rfl rfl (fun wD mD => op_move rfl) ?_
              refine DR.det (i := 13) rfl rfl (by kernel_rfl) (.yes rfl rfl rfl (ltb rfl) rfl (bnot_t hb3)) rfl rfl (fun wD mD => op_move rfl) ?_
              refine DR.det (i := 14) rfl rfl (by kernel_rfl) (.yes rfl rfl rfl (ltb rfl) rfl (bnot_t hb3)) rfl rfl (fun wD mD => op_indexSl (off' := o + i * 5) rfl (hA (by omega)) rfl Try.runUnderlying52 Try.sizeOf93 (by omega) (by omega) (by omega)) ?_
              refine DR.det (i := 15) rfl rfl (by kernel_rfl) (.yes rfl rfl rfl (ltb rfl) rfl (bnot_t hb3)) rfl rfl (fun wD mD => op_fieldAddr (off' := o + i * 5 + 1) rfl Try.runUnderlying93 rfl rfl Try.sizeOf2 rfl) ?_
              refine DR.det (i := 16) rfl rfl (by kernel_rfl) (.yes rfl rfl rfl (ltb rfl) rfl (bnot_t hb3)) rfl rfl (fun wD mD => op_load1 (i := i * 5 + 1) rfl Try.isAgg2 (((r.ext m1).ext md3).ext mD) rfl (cat_get (f := InR.cells) (m := 5) (i := i) (d := InR.d) (fun _ => rfl) (by have eL : List.length es = n := ln; omega) rfl)) ?_
              refine DR.det (i := 17) rfl rfl (by kernel_rfl) (.yes rfl rfl rfl (ltb rfl) rfl (bnot_t hb3)) rfl rfl (fun wD mD => op_move rfl) ?_
              refine DR.det (i := 18) rfl rfl (by kernel_rfl) (.yes rfl rfl rfl (ltb rfl) rfl (bnot_t hb3)) rfl rfl (fun wD mD => op_move rfl) ?_
              refine DR.det (i := 19) rfl rfl (by kernel_rfl) (.yes rfl rfl rfl (ltb rfl) rfl (bnot_t hb3)) rfl rfl (fun wD mD => op_indexSl (off' := o' + i * 5) rfl (hA' (by omega)) rfl Try.runUnderlying52 Try.sizeOf93 (by omega) (by omega) (by omega)) ?_
              refine DR.det (i := 20) rfl rfl (by kernel_rfl) (.yes rfl rfl rfl (ltb rfl) rfl (bnot_t hb3)) rfl rfl (fun wD mD => op_fieldAddr (off' := o' + i * 5 + 1) rfl Try.runUnderlying93 rfl rfl Try.sizeOf2 rfl) ?_
              refine DR.det (i := 21) rfl rfl (by kernel_rfl) (.yes rfl rfl rfl (ltb rfl) rfl (bnot_t hb3)) rfl rfl (fun wD mD => op_load1 (i := i * 5 + 1) rfl Try.isAgg2 (((r'.ext m1).ext md3).ext mD) rfl (cat_get (f := InR.cells) (m := 5) (i := i) (d := InR.d) (fun _ => rfl) (by have eL : List.length es' = n' := ln'; omega) rfl)) ?_
              refine DR.det (i := 22) rfl rfl (by kernel_rfl) (.yes rfl rfl rfl (ltb rfl) rfl (bnot_t hb3)) rfl rfl (fun wD mD => op_nei rfl rfl) ?_
              refine DR.det (i := 23) rfl rfl (by kernel_rfl) (.free rfl) rfl rfl (fun wD mD => op_pick_f rfl (bnot_t hb3) rfl) ?_
              refine DR.det (i := 24) rfl rfl (by kernel_rfl) (.free rfl) rfl rfl (fun wD mD => op_move rfl) ?_
              refine DR.det (i := 25) rfl rfl (by kernel_rfl) (.yes rfl rfl rfl (ltb rfl) rfl hb4) rfl rfl (fun wD mD => op_move rfl) ?_
              refine DR.det (i := 26) rfl rfl (by kernel_rfl) (.yes rfl rfl rfl (ltb rfl) rfl hb4) rfl rfl (fun wD mD => op_move rfl) ?_
              refine DR.det (i := 27) rfl rfl (by kernel_rfl) (.yes rfl rfl rfl (ltb rfl) rfl hb4) rfl rfl (fun wD mD => op_indexSl (off' := o + i * 5) rfl (hA (by omega)) rfl Try.runUnderlying52 Try.sizeOf93 (by omega) (by omega) (by omega)) ?_
              refine DR.det (i := 28) rfl rfl (by kernel_rfl) (.yes rfl rfl rfl (ltb rfl) rfl hb4) rfl rfl (fun wD mD => op_fieldAddr (off' := o + i * 5 + 2) rfl Try.runUnderlying93 rfl rfl Try.sizeOf22 rfl) ?_
              refine DR.det (i := 29) rfl rfl (by kernel_rfl) (.yes rfl rfl rfl (ltb rfl) rfl hb4) rfl rfl (fun wD mD => op_load1 (i := i * 5 + 2) rfl Try.isAgg22 (((r.ext m1).ext md3).ext mD) rfl (cat_get (f := InR.cells) (m := 5) (i := i) (d := InR.d) (fun _ => rfl) (by have eL : List.length es = n := ln; omega) rfl)) ?_
              refine DR.det (i := 30) rfl rfl (by kernel_rfl) (.yes rfl rfl rfl (ltb rfl) rfl hb4) rfl rfl (fun wD mD => op_move rfl) ?_
              refine DR.det (i := 31) rfl rfl (by kernel_rfl) (.yes rfl rfl rfl (ltb rfl) rfl hb4) rfl rfl (fun wD mD => op_move rfl) ?_
              refine DR.det (i := 32) rfl rfl (by kernel_rfl) (.yes rfl rfl rfl (ltb rfl) rfl hb4) rfl rfl (fun wD mD => op_indexSl (off' := o' + i * 5) rfl (hA' (by omega)) rfl Try.runUnderlying52 Try.sizeOf93 (by omega) (by omega) (by omega)) ?_
              refine DR.det (i := 33) rfl rfl (by kernel_rfl) (.yes rfl rfl rfl (ltb rfl) rfl hb4) rfl rfl (fun wD mD => op_fieldAddr (off' := o' + i * 5 + 2) rfl Try.runUnderlying93 rfl rfl Try.sizeOf22 rfl) ?_
              refine DR.det (i := 34) rfl rfl (by kernel_rfl) (.yes rfl rfl rfl (ltb rfl) rfl hb4) rfl rfl (fun wD mD => op_load1 (i := i * 5 + 2) rfl Try.isAgg22 (((r'.ext m1).ext md3).ext mD) rfl (cat_get (f := InR.cells) (m := 5) (i := i) (d := InR.d) (fun _ => rfl) (by have eL : List.length es' = n' := ln'; omega) rfl)) ?_
              refine DR.call (i := 35) (fun uA => uA = .bool (cn .f32 ((es.getD i InR.d).a) == cn .f32 ((es'.getD i InR.d).a))) rfl rfl (by kernel_rfl) (.yes rfl rfl rfl (ltb rfl) rfl hb4) rfl (ltb rfl) ⟨_, rfl⟩ (vs := [.func (.func 28) #[] #[], vF ((es.getD i InR.d).a), vF ((es'.getD i InR.d).a)]) rfl (fun wD mD => oc_call (vs := [vF ((es.getD i InR.d).a), vF ((es'.getD i InR.d).a)]) (cap := []) rfl rfl rfl Try.call28 (c_l01Same ((es.getD i InR.d).a) ((es.getD i InR.d).a) ((es'.getD i InR.d).a) ((es'.getD i InR.d).a) rfl rfl wD)) ?_ ?_
              · rintro w1 _ _ m1 ⟨rfl, rfl⟩; exact ⟨rfl, Mod.refl _ _⟩
              rintro _ rfl
              refine DR.det (i := 36) rfl rfl (by kernel_rfl) (.yes rfl rfl rfl (ltb rfl) rfl hb4) rfl rfl (fun wD mD => op_not rfl) ?_
              refine DR.det (i := 37) rfl rfl (by kernel_rfl) (.free rfl) rfl rfl (fun wD mD => op_pick_f rfl hb4 rfl) ?_
              refine DR.det (i := 38) rfl rfl (by kernel_rfl) (.free rfl) rfl rfl (fun wD mD => op_move rfl) ?_
              refine DR.det (i := 39) rfl rfl (by kernel_rfl) (.yes rfl rfl rfl (ltb rfl) rfl (bnot_t hb5)) rfl rfl (fun wD mD => op_move rfl) ?_
              refine DR.det (i := 40) rfl rfl (by kernel_rfl) (.yes rfl rfl rfl (ltb rfl) rfl (bnot_t hb5)) rfl rfl (fun wD mD => op_move rfl) ?_
              refine DR.det (i := 41) rfl rfl (by kernel_rfl) (.yes rfl rfl rfl (ltb rfl) rfl (bnot_t hb5)) rfl rfl (fun wD mD => op_indexSl (off' := o + i * 5) rfl (hA (by omega)) rfl Try.runUnderlying52 Try.sizeOf93 (by omega) (by omega) (by omega)) ?_
              refine DR.det (i := 42) rfl rfl (by kernel_rfl) (.yes rfl rfl rfl (ltb rfl) rfl (bnot_t hb5)) rfl rfl (fun wD mD => op_fieldAddr (off' := o + i * 5 + 3) rfl Try.runUnderlying93 rfl rfl Try.sizeOf22 rfl) ?_
              refine DR.det (i := 43) rfl rfl (by kernel_rfl) (.yes rfl rfl rfl (ltb rfl) rfl (bnot_t hb5)) rfl rfl (fun wD mD => op_load1 (i := i * 5 + 3) rfl Try.isAgg22 (((r.ext m1).ext md3).ext mD) rfl (cat_get (f := InR.cells) (m := 5) (i := i) (d := InR.d) (fun _ => rfl) (by have eL : List.length es = n := ln; omega) rfl)) ?_
              refine DR.det (i := 44) rfl rfl (by kernel_rfl) (.yes rfl rfl rfl (ltb rfl) rfl (bnot_t hb5)) rfl rfl (fun wD mD => op_move rfl) ?_
              refine DR.det (i := 45) rfl rfl (by kernel_rfl) (.yes rfl rfl rfl (ltb rfl) rfl (bnot_t hb5)) rfl rfl (fun wD mD => op_move rfl) ?_
              refine DR.det (i := 46) rfl rfl (by kernel_rfl) (.yes rfl rfl rfl (ltb rfl) rfl (bnot_t hb5)) rfl rfl (fun wD mD => op_indexSl (off' := o' + i * 5) rfl (hA' (by omega)) rfl Try.runUnderlying52 Try.sizeOf93 (by omega) (by omega) (by omega)) ?_
              refine DR.det (i := 47) rfl rfl (by kernel_rfl) (.yes rfl rfl rfl (ltb rfl) rfl (bnot_t hb5)) rfl rfl (fun wD mD => op_fieldAddr (off' := o' + i * 5 + 3) rfl Try.runUnderlying93 rfl rfl Try.sizeOf22 rfl) ?_
              refine DR.det (i := 48) rfl rfl (by kernel_rfl) (.yes rfl rfl rfl (ltb rfl) rfl (bnot_t hb5)) rfl rfl (fun wD mD => op_load1 (i := i * 5 + 3) rfl Try.isAgg22 (((r'.ext m1).ext md3).ext mD) rfl (cat_get (f := InR.cells) (m := 5) (i := i) (d := InR.d) (fun _ => rfl) (by have eL : List.length es' = n' := ln'; omega) rfl)) ?_
              refine DR.call (i := 49) (fun uA => uA = .bool (cn .f32 ((es.getD i InR.d).b) == cn .f32 ((es'.getD i InR.d).b))) rfl rfl (by kernel_rfl) (.yes rfl rfl rfl (ltb rfl) rfl (bnot_t hb5)) rfl (ltb rfl) ⟨_, rfl⟩ (vs := [.func (.func 28) #[] #[], vF ((es.getD i InR.d).b), vF ((es'.getD i InR.d).b)]) rfl (fun wD mD => oc_call (vs := [vF ((es.getD i InR.d).b), vF ((es'.getD i InR.d).b)]) (cap := []) rfl rfl rfl Try.call28 (c_l01Same ((es.getD i InR.d).b) ((es.getD i InR.d).b) ((es'.getD i InR.d).b) ((es'.getD i InR.d).b) rfl rfl wD)) ?_ ?_
              · rintro w1 _ _ m1 ⟨rfl, rfl⟩; exact ⟨rfl, Mod.refl _ _⟩
              rintro _ rfl
              refine DR.det (i := 50) rfl rfl (by kernel_rfl) (.yes rfl rfl rfl (ltb rfl) rfl (bnot_t hb5)) rfl rfl (fun wD mD => op_not rfl) ?_
              refine DR.det (i := 51) rfl rfl (by kernel_rfl) (.free rfl) rfl rfl (fun wD mD => op_pick_f rfl (bnot_t hb5) rfl) ?_
              refine DR.det (i := 52) rfl rfl (by kernel_rfl) (.free rfl) rfl rfl (fun wD mD => op_move rfl) ?_
              refine DR.skip (i := 53) rfl (by kernel_rfl) (.no rfl rfl rfl (ltb rfl) rfl (bnot_f hb6)) rfl (ltb rfl) ?_
              refine DR.skip (i := 54) rfl (by kernel_rfl) (.no rfl rfl rfl (ltb rfl) rfl (bnot_f hb6)) rfl (ltb rfl) ?_
              refine DR.skip (i := 55) rfl (by kernel_rfl) (.no rfl rfl rfl (ltb rfl) rfl (bnot_f hb6)) rfl (ltb rfl) ?_
              refine DR.skip (i := 56) rfl (by kernel_rfl) (.no rfl rfl rfl (ltb rfl) rfl (bnot_f hb6)) rfl (ltb rfl) ?_
              refine DR.skip (i := 57) rfl (by kernel_rfl) (.no rfl rfl rfl (ltb rfl) rfl (bnot_f hb6)) rfl (ltb rfl) ?_
              refine DR.skip (i := 58) rfl (by kernel_rfl) (.no rfl rfl rfl (ltb rfl) rfl (bnot_f hb6)) rfl (ltb rfl) ?_
              refine DR.skip (i := 59) rfl (by kernel_rfl) (.no rfl rfl rfl (ltb rfl) rfl (bnot_f hb6)) rfl (ltb rfl) ?_
              refine DR.skip (i := 60) rfl (by kernel_rfl) (.no rfl rfl rfl (ltb rfl) rfl (bnot_f hb6)) rfl (ltb rfl) ?_
              refine DR.skip (i := 61) rfl (by kernel_rfl) (.no rfl rfl rfl (ltb rfl) rfl (bnot_f hb6)) rfl (ltb rfl) ?_
              refine DR.skip (i := 62) rfl (by kernel_rfl) (.no rfl rfl rfl (ltb rfl) rfl (bnot_f hb6)) rfl (ltb rfl) ?_
              refine DR.done rfl ?_
              intro w7 m4
              refine WO.skip rfl (.no rfl rfl rfl (ltb rfl) rfl (bnot_f hb6)) rfl (ltb rfl) ?_
              refine WO.skip rfl (.no rfl rfl rfl (ltb rfl) rfl (bnot_f hb6)) rfl (ltb rfl) ?_
              refine WO.det (op_pick_t rfl (bnot_f hb6) rfl) rfl (.free rfl) rfl rfl ?_
              refine WO.end ?_
              refine NE.code ?_
              refine CE.cond_t rfl rfl ?_
              refine CE.seq ?_
              refine CE.region ?_
              refine WL.det (op_assign rfl) rfl rfl rfl ?_
              refine WL.end ?_
              refine NE.code ?_
              refine CE.ret' ?_
              refine XE.ret_blk ?_
              refine XE.ret_then ?_
              refine XE.ret_then ?_
              refine XE.ret_blk ?_
              refine XE.ret_then ?_
              refine XE.leave1 Try.results30 rfl ?_
              refine ⟨?_, ((((Mod.refl [] w).nt m1).nt md3).nt m4)⟩
              all_goals first | exact congrArg Value.bool (sameL_ne (by omega)).symm | exact congrArg Value.bool (sameL_out (i := i) (by omega) (by first | assumption | simp_all [evSame, inSame])).symm | exact congrArg Value.bool (sameL_all (by omega) hu (by omega)).symm
          · have hp5 := hb5; try simp only [Bool.and_eq_true, Bool.or_eq_true, Bool.not_eq_true', Bool.not_eq_false', Bool.and_eq_false_iff, Bool.or_eq_false_iff, decide_eq_true_eq, decide_eq_false_iff_not, beq_iff_eq, bne_iff_ne, beq_eq_false_iff_ne, bne_eq_false_iff_eq, ne_eq, Bool.false_eq_true, not_false_eq_true, not_true_eq_false, vIn_t, vIn_f] at hp5
            refine CE.draw (fun | 35 => some (fun _ wA uA wB => uA = .bool (cn .f32 ((es.getD i InR.d).a) == cn .f32 ((es'.getD i InR.d).a)) ∧ wA = wB) | _ => none) [0, 1, 2, 3, 4, 5, 6, 7, 8, 9, 10, 11, 12, 13, 14, 15, 16, 17, 18, 19, 20, 21, 22, 23, 24, 25, 26, 27, 28, 29, 30, 31, 32, 33, 34, 35, 36, 37, 38, 39, 40, 41, 42, 43, 44, 45, 46, 47, 48, 49, 50, 51, 52, 53, 54, 55, 56, 57, 58, 59, 60, 61, 62] [63, 64, 65] [] (by kernel_rfl) (by kernel_rfl) ?_
            have md4 : Mod [] w1 w1.drew := (Mod.refl _ _).drew
            generalize w1.drew = w8 at md4 ⊢
            refine DR.det (i := 0) rfl rfl (by kernel_rfl) (.free rfl) rfl rfl (fun wD mD => op_move rfl) ?_
            refine DR.det (i := 1) rfl rfl (by kernel_rfl) (.free rfl) rfl rfl (fun wD mD => op_move rfl) ?_
            refine DR.det (i := 2) rfl rfl (by kernel_rfl) (.free rfl) rfl rfl (fun wD mD => op_indexSl (off' := o + i * 5) rfl (hA (by omega)) rfl Try.runUnderlying52 Try.sizeOf93 (by omega) (by omega) (by omega)) ?_
            refine DR.det (i := 3) rfl rfl (by kernel_rfl) (.free rfl) rfl rfl (fun wD mD => op_fieldAddr (off' := o + i * 5) rfl Try.runUnderlying93 rfl rfl Try.sizeOf9 rfl) ?_
            refine DR.det (i := 4) rfl rfl (by kernel_rfl) (.free rfl) rfl rfl (fun wD mD => op_load1 (i := i * 5) rfl Try.isAgg9 (((r.ext m1).ext md4).ext mD) rfl (cat_get0 (f := InR.cells) (m := 5) (i := i) (d := InR.d) (fun _ => rfl) (by have eL : List.length es = n := ln; omega) rfl)) ?_
            refine DR.det (i := 5) rfl rfl (by kernel_rfl) (.free rfl) rfl rfl (fun wD mD => op_move rfl) ?_
            refine DR.det (i := 6) rfl rfl (by kernel_rfl) (.free rfl) rfl rfl (fun wD mD => op_move rfl) ?_
            refine DR.det (i := 7) rfl rfl (by kernel_rfl) (.free rfl) rfl rfl (fun wD mD => op_indexSl (off' := o' + i * 5) rfl (hA' (by omega)) rfl Try.runUnderlying52 Try.sizeOf93 (by omega) (by omega) (by omega)) ?_
            refine DR.det (i := 8) rfl rfl (by kernel_rfl) (.free rfl) rfl rfl (fun wD mD => op_fieldAddr (off' := o' + i * 5) rfl Try.runUnderlying93 rfl rfl Try.sizeOf9 rfl) ?_
            refine DR.det (i := 9) rfl rfl (by kernel_rfl) (.free rfl) rfl rfl (fun wD mD => op_load1 (i := i * 5) rfl Try.isAgg9 (((r'.ext m1).ext md4).ext mD) rfl (cat_get0 (f := InR.cells) (m := 5) (i := i) (d := InR.d) (fun _ => rfl) (by have eL : List.length es' = n' := ln'; omega) rfl)) ?_
            refine DR.det (i := 10) rfl rfl (by kernel_rfl) (.free rfl) rfl rfl (fun wD mD => op_nes rfl rfl) ?_
            refine DR.det (i := 11) rfl rfl (by kernel_rfl) (.free rfl) rfl rfl (fun wD mD => op_move rfl) ?_
            refine DR.det (i := 12) rfl rfl (by kernel_rfl) (.yes rfl rfl rfl (ltb rfl) rfl (bnot_t hb3)) rfl rfl (fun wD mD => op_move rfl) ?_
            refine DR.det (i := 13) rfl rfl (by kernel_rfl) (.yes rfl rfl rfl (ltb rfl) rfl (bnot_t hb3)) rfl rfl (fun wD mD => op_move rfl) ?_
            refine DR.det (i := 14) rfl rfl (by kernel_rfl) (.yes rfl rfl rfl (ltb rfl) rfl (bnot_t hb3)) rfl rfl (fun wD mD => op_indexSl (off' := o + i * 5) rfl (hA (by omega)) rfl Try.runUnderlying52 Try.sizeOf93 (by omega) (by omega) (by omega)) ?_
            refine DR.det (i := 15) rfl rfl (by kernel_rfl) (.yes rfl rfl rfl (ltb rfl) rfl (bnot_t hb3)) rfl rfl (fun wD mD => op_fieldAddr (off' := o + i * 5 + 1) rfl Try.runUnderlying93 rfl rfl Try.sizeOf2 rfl) ?_
            refine DR.det (i := 16) rfl rfl (by kernel_rfl) (.yes rfl rfl rfl (ltb rfl) rfl (bnot_t hb3)) rfl rfl (fun wD mD => op_load1 (i := i * 5 + 1) rfl Try.isAgg2 (((r.ext m1).ext md4).ext mD) rfl (cat_get (f := InR.cells) (m := 5) (i := i) (d := InR.d) (fun _ => rfl) (by have eL : List.length es = n := ln; omega) rfl)) ?_
            refine DR.det (i := 17) rfl rfl (by kernel_rfl) (.yes rfl rfl rfl (ltb rfl) rfl (bnot_t hb3)) rfl rfl (fun wD mD => op_move rfl) ?_
            refine DR.det (i := 18) rfl rfl (by kernel_rfl) (.yes rfl rfl rfl (ltb rfl) rfl (bnot_t hb3)) rfl rfl (fun wD mD => op_move rfl) ?_
            refine DR.det (i := 19) rfl rfl (by kernel_rfl) (.yes rfl rfl rfl (ltb rfl) rfl (bnot_t hb3)) rfl rfl (fun wD mD => op_indexSl (off' := o' + i * 5) rfl (hA' (by omega)) rfl Try.runUnderlying52 Try.sizeOf93 (by omega) (by omega) (by omega)) ?_
            refine DR.det (i := 20) rfl rfl (by kernel_rfl) (.yes rfl rfl rfl (ltb rfl) rfl (bnot_t hb3)) rfl rfl (fun wD mD => op_fieldAddr (off' := o' + i * 5 + 1) rfl Try.runUnderlying93 rfl rfl Try.sizeOf2 rfl) ?_
            refine DR.det (i := 21) rfl rfl (by kernel_rfl) (.yes rfl rfl rfl (ltb rfl) rfl (bnot_t hb3)) rfl rfl (fun wD mD => op_load1 (i := i * 5 + 1) rfl Try.isAgg2 (((r'.ext m1).ext md4).ext mD) rfl (cat_get (f := InR.cells) (m := 5) (i := i) (d := InR.d) (fun _ => rfl) (by have eL : List.length es' = n' := ln'; omega) rfl)) ?_
            refine DR.det (i := 22) rfl rfl (by kernel_rfl) (.yes rfl rfl rfl (ltb rfl) rfl (bnot_t hb3)) rfl rfl (fun wD mD => op_nei rfl rfl) ?_
            refine DR.det (i := 23) rfl rfl (by kernel_rfl) (.free rfl) rfl rfl (fun wD mD => op_pick_f rfl (bnot_t hb3) rfl) ?_
            refine DR.det (i := 24) rfl rfl (by kernel_rfl) (.free rfl) rfl rfl (fun wD mD => op_move rfl) ?_
            refine DR.det (i := 25) rfl rfl (by kernel_rfl) (.yes rfl rfl rfl (ltb rfl) rfl hb4) rfl rfl (fun wD mD => op_move rfl) ?_
            refine DR.det (i := 26) rfl rfl (by kernel_rfl) (.yes rfl rfl rfl (ltb rfl) rfl hb4) rfl rfl (fun wD mD => op_move rfl) ?_
            refine DR.det (i := 27) rfl rfl (by kernel_rfl) (.yes rfl rfl rfl (ltb rfl) rfl hb4) rfl rfl (fun wD mD => op_indexSl (off' := o + i * 5) rfl (hA (by omega)) rfl Try.runUnderlying52 Try.sizeOf93 (by omega) (by omega) (by omega)) ?_
            refine DR.det (i := 28) rfl rfl (by kernel_rfl) (.yes rfl rfl rfl (ltb rfl) rfl hb4) rfl rfl (fun wD mD => op_fieldAddr (off' := o + i * 5 + 2) rfl Try.runUnderlying93 rfl rfl Try.sizeOf22 rfl) ?_
            refine DR.det (i := 29) rfl rfl (by kernel_rfl) (.yes rfl rfl rfl (ltb rfl) rfl hb4) rfl rfl (fun wD mD => op_load1 (i := i * 5 + 2) rfl Try.isAgg22 (((r.ext m1).ext md4).ext mD) rfl (cat_get (f := InR.cells) (m := 5) (i := i) (d := InR.d) (fun _ => rfl) (by have eL : List.length es = n := ln; omega) rfl)) ?_
            refine DR.det (i := 30) rfl rfl (by kernel_rfl) (.yes rfl rfl rfl (ltb rfl) rfl hb4) rfl rfl (fun wD mD => op_move rfl) ?_
            refine DR.det (i := 31) rfl rfl (by kernel_rfl) (.yes rfl rfl rfl (ltb rfl) rfl hb4) rfl rfl (fun wD mD => op_move rfl) ?_
            refine DR.det (i := 32) rfl rfl (by kernel_rfl) (.yes rfl rfl rfl (ltb rfl) rfl hb4) rfl rfl (fun wD mD => op_indexSl (off' := o' + i * 5) rfl (hA' (by omega)) rfl Try.runUnderlying52 Try.sizeOf93 (by omega) (by omega) (by omega)) ?_
            refine DR.det (i := 33) rfl rfl (by kernel_rfl) (.yes rfl rfl rfl (ltb rfl) rfl hb4) rfl rfl (fun wD mD => op_fieldAddr (off' := o' + i * 5 + 2) rfl Try.runUnderlying93 rfl rfl Try.sizeOf22 rfl) ?_
            refine DR.det (i := 34) rfl rfl (by kernel_rfl) (.yes rfl rfl rfl (ltb rfl) rfl hb4) rfl rfl (fun wD mD => op_load1 (i := i * 5 + 2) rfl Try.isAgg22 (((r'.ext m1).ext md4).ext mD) rfl (cat_get (f := InR.cells) (m := 5) (i := i) (d := InR.d) (fun _ => rfl) (by have eL : List.length es' = n' := ln'; omega) rfl)) ?_
            refine DR.call (i := 35) (fun uA => uA = .bool (cn .f32 ((es.getD i InR.d).a) == cn .f32 ((es'.getD i InR.d).a))) rfl rfl (by kernel_rfl) (.yes rfl rfl rfl (ltb rfl) rfl hb4) rfl (ltb rfl) ⟨_, rfl⟩ (vs := [.func (.func 28) #[] #[], vF ((es.getD i InR.d).a), vF ((es'.getD i InR.d).a)]) rfl (fun wD mD => oc_call (vs := [vF ((es.getD i InR.d).a), vF ((es'.getD i InR.d).a)]) (cap := []) rfl rfl rfl Try.call28 (c_l01Same ((es.getD i InR.d).a) ((es.getD i InR.d).a) ((es'.getD i InR.d).a) ((es'.getD i InR.d).a) rfl rfl wD)) ?_ ?_
            · rintro w1 _ _ m1 ⟨rfl, rfl⟩; exact ⟨rfl, Mod.refl _ _⟩
            rintro _ rfl
            refine DR.det (i := 36) rfl rfl (by kernel_rfl) (.yes rfl rfl rfl (ltb rfl) rfl hb4) rfl rfl (fun wD mD => op_not rfl) ?_
            refine DR.det (i := 37) rfl rfl (by kernel_rfl) (.free rfl) rfl rfl (fun wD mD => op_pick_f rfl hb4 rfl) ?_
            refine DR.det (i := 38) rfl rfl (by kernel_rfl) (.free rfl) rfl rfl (fun wD mD => op_move rfl) ?_
            refine DR.skip (i := 39) rfl (by kernel_rfl) (.no rfl rfl rfl (ltb rfl) rfl (bnot_f hb5)) rfl (ltb rfl) ?_
            refine DR.skip (i := 40) rfl (by kernel_rfl) (.no rfl rfl rfl (ltb rfl) rfl (bnot_f hb5)) rfl (ltb rfl) ?_
            refine DR.skip (i := 41) rfl (by kernel_rfl) (.no rfl rfl rfl (ltb rfl) rfl (bnot_f hb5)) rfl (ltb rfl) ?_
            refine DR.skip (i := 42) rfl (by kernel_rfl) (.no rfl rfl rfl (ltb rfl) rfl (bnot_f hb5)) rfl (ltb rfl) ?_
            refine DR.skip (i := 43) rfl (by kernel_rfl) (.no rfl rfl rfl (ltb rfl) rfl (bnot_f hb5)) rfl (ltb rfl) ?_
            refine DR.skip (i := 44) rfl (by kernel_rfl) (.no rfl rfl rfl (ltb rfl) rfl (bnot_f hb5)) rfl (ltb rfl) ?_
            refine DR.skip (i := 45) rfl (by kernel_rfl) (.no rfl rfl rfl (ltb rfl) rfl (bnot_f hb5)) rfl (ltb rfl) ?_
            refine DR.skip (i := 46) rfl (by kernel_rfl) (.no rfl rfl rfl (ltb rfl) rfl (bnot_f hb5)) rfl (ltb rfl) ?_
            refine DR.skip (i := 47) rfl (by kernel_rfl) (.no rfl rfl rfl (ltb rfl) rfl (bnot_f hb5)) rfl (ltb rfl) ?_
            refine DR.skip (i := 48) rfl (by kernel_rfl) (.no rfl rfl rfl (ltb rfl) rfl (bnot_f hb5)) rfl (ltb rfl) ?_
            refine DR.skip (i := 49) rfl (by kernel_rfl) (.no rfl rfl rfl (ltb rfl) rfl (bnot_f hb5)) rfl (ltb rfl) ?_
            refine DR.skip (i := 50) rfl (by kernel_rfl) (.no rfl rfl rfl (ltb rfl) rfl (bnot_f hb5)) rfl (ltb rfl) ?_
            refine DR.det (i := 51) rfl rfl (by kernel_rfl) (.free rfl) rfl rfl (fun wD mD => op_pick_t rfl (bnot_f hb5) rfl) ?_
            refine DR.det (i := 52) rfl rfl (by kernel_rfl) (.free rfl) rfl rfl (fun wD mD => op_move rfl) ?_
            refine DR.skip (i := 53) rfl (by kernel_rfl) (.no rfl rfl rfl (ltb rfl) rfl rfl) rfl (ltb rfl) ?_
            refine DR.skip (i := 54) rfl (by kernel_rfl) (.no rfl rfl rfl (ltb rfl) rfl rfl) rfl (ltb rfl) ?_
            refine DR.skip (i := 55) rfl (by kernel_rfl) (.no rfl rfl rfl (ltb rfl) rfl rfl) rfl (ltb rfl) ?_
            refine DR.skip (i := 56) rfl (by kernel_rfl) (.no rfl rfl rfl (ltb rfl) rfl rfl) rfl (ltb rfl) ?_
            refine DR.skip (i := 57) rfl (by kernel_rfl) (.no rfl rfl rfl (ltb rfl) rfl rfl) rfl (ltb rfl) ?_
            refine DR.skip (i := 58) rfl (by kernel_rfl) (.no rfl rfl rfl (ltb rfl) rfl rfl) rfl (ltb rfl) ?_
            refine DR.skip (i := 59) rfl (by kernel_rfl) (.no rfl rfl rfl (ltb rfl) rfl rfl) rfl (ltb rfl) ?_
            refine DR.skip (i := 60) rfl (by kernel_rfl) (.no rfl rfl rfl (ltb rfl) rfl rfl) rfl (ltb rfl) ?_
            refine DR.skip (i := 61) rfl (by kernel_rfl) (.no rfl rfl rfl (ltb rfl) rfl rfl) rfl (ltb rfl) ?_
            refine DR.skip (i := 62) rfl (by kernel_rfl) (.no rfl rfl rfl (ltb rfl) rfl rfl) rfl (ltb rfl) ?_
            refine DR.done rfl ?_
            intro w9 m5
            refine WO.skip rfl (.no rfl rfl rfl (ltb rfl) rfl rfl) rfl (ltb rfl) ?_
            refine WO.skip rfl (.no rfl rfl rfl (ltb rfl) rfl rfl) rfl (ltb rfl) ?_
            refine WO.det (op_pick_t rfl rfl rfl) rfl (.free rfl) rfl rfl ?_
            refine WO.end ?_
            refine NE.code ?_
            refine CE.cond_t rfl rfl ?_
            refine CE.seq ?_
            refine CE.region ?_
            refine WL.det (op_assign rfl) rfl rfl rfl ?_
            refine WL.end ?_
            refine NE.code ?_
            refine CE.ret' ?_
            refine XE.ret_blk ?_
            refine XE.ret_then ?_
            refine XE.ret_then ?_
            refine XE.ret_blk ?_
            refine XE.ret_then ?_
            refine XE.leave1 Try.results30 rfl ?_
            refine ⟨?_, ((((Mod.refl [] w).nt m1).nt md4).nt m5)⟩
            all_goals first | exact congrArg Value.bool (sameL_ne (by omega)).symm | exact congrArg Value.bool (sameL_out (i := i) (by omega) (by first | assumption | simp_all [evSame, inSame])).symm | exact congrArg Value.bool (sameL_all (by omega) hu (by omega)).symm
      · refine CE.draw (fun _ => none) [0, 1, 2, 3, 4, 5, 6, 7, 8, 9, 10, 11, 12, 13, 14, 15, 16, 17, 18, 19, 20, 21, 22, 23, 24, 25, 26, 27, 28, 29, 30, 31, 32, 33, 34, 35, 36, 37, 38, 39, 40, 41, 42, 43, 44, 45, 46, 47, 48, 49, 50, 51, 52, 53, 54, 55, 56, 57, 58, 59, 60, 61, 62] [63, 64, 65] [] (by kernel_rfl) (by kernel_rfl) ?_
        have md5 : Mod [] w1 w1.drew := (Mod.refl _ _).drew
        generalize w1.drew = w10 at md5 ⊢
        refine DR.det (i := 0) rfl rfl (by kernel_rfl) (.free rfl) rfl rfl (fun wD mD => op_move rfl) ?_
        refine DR.det (i := 1) rfl rfl (by kernel_rfl) (.free rfl) rfl rfl (fun wD mD => op_move rfl) ?_
        refine DR.det (i := 2) rfl rfl (by kernel_rfl) (.free rfl) rfl rfl (fun wD mD => op_indexSl (off' := o + i * 5) rfl (hA (by omega)) rfl Try.runUnderlying52 Try.sizeOf93 (by omega) (by omega) (by omega)) ?_
        refine DR.det (i := 3) rfl rfl (by kernel_rfl) (.free rfl) rfl rfl (fun wD mD => op_fieldAddr (off' := o + i * 5) rfl Try.runUnderlying93 rfl rfl Try.sizeOf9 rfl) ?_
        refine DR.det (i := 4) rfl rfl (by kernel_rfl) (.free rfl) rfl rfl (fun wD mD => op_load1 (i := i * 5) rfl Try.isAgg9 (((r.ext m1).ext md5).ext mD) rfl (cat_get0 (f := InR.cells) (m := 5) (i := i) (d := InR.d) (fun _ => rfl) (by have eL : List.length es = n := ln; omega) rfl)) ?_
        refine DR.det (i := 5) rfl rfl (by kernel_rfl) (.free rfl) rfl rfl (fun wD mD => op_move rfl) ?_
        refine DR.det (i := 6) rfl rfl (by kernel_rfl) (.free rfl) rfl rfl (fun wD mD => op_move rfl) ?_
        refine DR.det (i := 7) rfl rfl (by kernel_rfl) (.free rfl) rfl rfl (fun wD mD => op_indexSl (off' := o' + i * 5) rfl (hA' (by omega)) rfl Try.runUnderlying52 Try.sizeOf93 (by omega) (by omega) (by omega)) ?_
        refine DR.det (i := 8) rfl rfl (by kernel_rfl) (.free rfl) rfl rfl (fun wD mD => op_fieldAddr (off' := o' + i * 5) rfl Try.runUnderlying93 rfl rfl Try.sizeOf9 rfl) ?_
        refine DR.det (i := 9) rfl rfl (by kernel_rfl) (.free rfl) rfl rfl (fun wD mD => op_load1 (i := i * 5) rfl Try.isAgg9 (((r'.ext m1).ext md5).ext mD) rfl (cat_get0 (f := InR.cells) (m := 5) (i := i) (d := InR.d) (fun _ => rfl) (by have eL : List.length es' = n' := ln'; omega) rfl)) ?_
        refine DR.det (i := 10) rfl rfl (by kernel_rfl) (.free rfl) rfl rfl (fun wD mD => op_nes rfl rfl) ?_
        refine DR.det (i := 11) rfl rfl (by kernel_rfl) (.free rfl) rfl rfl (fun wD mD => op_move rfl) ?_
        refine DR.skip (i := 12) rfl (by kernel_rfl) (.no rfl rfl rfl (ltb rfl) rfl (bnot_f hb3)) rfl (ltb rfl) ?_
        refine DR.skip (i := 13) rfl (by kernel_rfl) (.no rfl rfl rfl (ltb rfl) rfl (bnot_f hb3)) rfl (ltb rfl) ?_
        refine DR.skip (i := 14) rfl (by kernel_rfl) (.no rfl rfl rfl (ltb rfl) rfl (bnot_f hb3)) rfl (ltb rfl) ?_
        refine DR.skip (i := 15) rfl (by kernel_rfl) (.no rfl rfl rfl (ltb rfl) rfl (bnot_f hb3)) rfl (ltb rfl) ?_
        refine DR.skip (i := 16) rfl (by kernel_rfl) (.no rfl rfl rfl (ltb rfl) rfl (bnot_f hb3)) rfl (ltb rfl) ?_
        refine DR.skip (i := 17) rfl (by kernel_rfl) (.no rfl rfl rfl (ltb rfl) rfl (bnot_f hb3)) rfl (ltb rfl) ?_
        refine DR.skip (i := 18) rfl (by kernel_rfl) (.no rfl rfl rfl (ltb rfl) rfl (bnot_f hb3)) rfl (ltb rfl) ?_
        refine DR.skip (i := 19) rfl (by kernel_rfl) (.no rfl rfl rfl (ltb rfl) rfl (bnot_f hb3)) rfl (ltb rfl) ?_
        refine DR.skip (i := 20) rfl (by kernel_rfl) (.no rfl rfl rfl (ltb rfl) rfl (bnot_f hb3)) rfl (ltb rfl) ?_
        refine DR.skip (i := 21) rfl (by kernel_rfl) (.no rfl rfl rfl (ltb rfl) rfl (bnot_f hb3)) rfl (ltb rfl) ?_
        refine DR.skip (i := 22) rfl (by kernel_rfl) (.no rfl rfl rfl (ltb rfl) rfl (bnot_f hb3)) rfl (ltb rfl) ?_
        refine DR.det (i := 23) rfl rfl (by kernel_rfl) (.free rfl) rfl rfl (fun wD mD => op_pick_t rfl (bnot_f hb3) rfl) ?_
        refine DR.det (i := 24) rfl rfl (by kernel_rfl) (.free rfl) rfl rfl (fun wD mD => op_move rfl) ?_
        refine DR.skip (i := 25) rfl (by kernel_rfl) (.no rfl rfl rfl (ltb rfl) rfl rfl) rfl (ltb rfl) ?_
        refine DR.skip (i := 26) rfl (by kernel_rfl) (.no rfl rfl rfl (ltb rfl) rfl rfl) rfl (ltb rfl) ?_
        refine DR.skip (i := 27) rfl (by kernel_rfl) (.no rfl rfl rfl (ltb rfl) rfl rfl) rfl (ltb rfl) ?_
        refine DR.skip (i := 28) rfl (by kernel_rfl) (.no rfl rfl rfl (ltb rfl) rfl rfl) rfl (ltb rfl) ?_
        refine DR.skip (i := 29) rfl (by kernel_rfl) (.no rfl rfl rfl (ltb rfl) rfl rfl) rfl (ltb rfl) ?_
        refine DR.skip (i := 30) rfl (by kernel_rfl) (.no rfl rfl rfl (ltb rfl) rfl rfl) rfl (ltb rfl) ?_
        refine DR.skip (i := 31) rfl (by kernel_rfl) (.no rfl rfl rfl (ltb rfl) rfl rfl) rfl (ltb rfl) ?_
        refine DR.skip (i := 32) rfl (by kernel_rfl) (.no rfl rfl rfl (ltb rfl) rfl rfl) rfl (ltb rfl) ?_
        refine DR.skip (i := 33) rfl (by kernel_rfl) (.no rfl rfl rfl (ltb rfl) rfl rfl) rfl (ltb rfl) ?_
        refine DR.skip (i := 34) rfl (by kernel_rfl) (.no rfl rfl rfl (ltb rfl) rfl rfl) rfl (ltb rfl) ?_
        refine DR.skip (i := 35) rfl (by kernel_rfl) (.no rfl rfl rfl (ltb rfl) rfl rfl) rfl (ltb rfl) ?_
        refine DR.skip (i := 36) rfl (by kernel_rfl) (.no rfl rfl rfl (ltb rfl) rfl rfl) rfl (ltb rfl) ?_
        refine DR.det (i := 37) rfl rfl (by kernel_rfl) (.free rfl) rfl rfl (fun wD mD => op_pick_t rfl rfl rfl) ?_
        refine DR.det (i := 38) rfl rfl (by kernel_rfl) (.free rfl) rfl rfl (fun wD mD => op_move rfl) ?_
        refine DR.skip (i := 39) rfl (by kernel_rfl) (.no rfl rfl rfl (ltb rfl) rfl rfl) rfl (ltb rfl) ?_
        refine DR.skip (i := 40) rfl (by kernel_rfl) (.no rfl rfl rfl (ltb rfl) rfl rfl) rfl (ltb rfl) ?_
        refine DR.skip (i := 41) rfl (by kernel_rfl) (.no rfl rfl rfl (ltb rfl) rfl rfl) rfl (ltb rfl) ?_
        refine DR.skip (i := 42) rfl (by kernel_rfl) (.no rfl rfl rfl (ltb rfl) rfl rfl) rfl (ltb rfl) ?_
        refine DR.skip (i := 43) rfl (by kernel_rfl) (.no rfl rfl rfl (ltb rfl) rfl rfl) rfl (ltb rfl) ?_
        refine DR.skip (i := 44) rfl (by kernel_rfl) (.no rfl rfl rfl (ltb rfl) rfl rfl) rfl (ltb rfl) ?_
        refine DR.skip (i := 45) rfl (by kernel_rfl) (.no rfl rfl rfl (ltb rfl) rfl rfl) rfl (ltb rfl) ?_
        refine DR.skip (i := 46) rfl (by kernel_rfl) (.no rfl rfl rfl (ltb rfl) rfl rfl) rfl (ltb rfl) ?_
        refine DR.skip (i := 47) rfl (by kernel_rfl) (.no rfl rfl rfl (ltb rfl) rfl rfl) rfl (ltb rfl) ?_
        refine DR.skip (i := 48) rfl (by kernel_rfl) (.no rfl rfl rfl (ltb rfl) rfl rfl) rfl (ltb rfl) ?_
        refine DR.skip (i := 49) rfl (by kernel_rfl) (.no rfl rfl rfl (ltb rfl) rfl rfl) rfl (ltb rfl) ?_
        refine DR.skip (i := 50) rfl (by kernel_rfl) (.no rfl rfl rfl (ltb rfl) rfl rfl) rfl (ltb rfl) ?_
        refine DR.det (i := 51) rfl rfl (by kernel_rfl) (.free rfl) rfl rfl (fun wD mD => op_pick_t rfl rfl rfl) ?_
        refine DR.det (i := 52) rfl rfl (by kernel_rfl) (.free rfl) rfl rfl (fun wD mD => op_move rfl) ?_
        refine DR.skip (i := 53) rfl (by kernel_rfl) (.no rfl rfl rfl (ltb rfl) rfl rfl) rfl (ltb rfl) ?_
        refine DR.skip (i := 54) rfl (by kernel_rfl) (.no rfl rfl rfl (ltb rfl) rfl rfl) rfl (ltb rfl) ?_
        refine DR.skip (i := 55) rfl (by kernel_rfl) (.no rfl rfl rfl (ltb rfl) rfl rfl) rfl (ltb rfl) ?_
        refine DR.skip (i := 56) rfl (by kernel_rfl) (.no rfl rfl rfl (ltb rfl) rfl rfl) rfl (ltb rfl) ?_
        refine DR.skip (i := 57) rfl (by kernel_rfl) (.no rfl rfl rfl (ltb rfl) rfl rfl) rfl (ltb rfl) ?_
        refine DR.skip (i := 58) rfl (by kernel_rfl) (.no rfl rfl rfl (ltb rfl) rfl rfl) rfl (ltb rfl) ?_
        refine DR.skip (i := 59) rfl (by kernel_rfl) (.no rfl rfl rfl (ltb rfl) rfl rfl) rfl (ltb rfl) ?_
        refine DR.skip (i := 60) rfl (by kernel_rfl) (.no rfl rfl rfl (ltb rfl) rfl rfl) rfl (ltb rfl) ?_
        refine DR.skip (i := 61) rfl (by kernel_rfl) (.no rfl rfl rfl (ltb rfl) rfl rfl) rfl (ltb rfl) ?_
        refine DR.skip (i := 62) rfl (by kernel_rfl) (.no rfl rfl rfl (ltb rfl) rfl rfl) rfl (ltb rfl) ?_
        refine DR.done rfl ?_
        intro w11 m6
        refine WO.skip rfl (.no rfl rfl rfl (ltb rfl) rfl rfl) rfl (ltb rfl) ?_
        refine WO.skip rfl (.no rfl rfl rfl (ltb rfl) rfl rfl) rfl (ltb rfl) ?_
        refine WO.det (op_pick_t rfl rfl rfl) rfl (.free rfl) rfl rfl ?_
        refine WO.end ?_
        refine NE.code ?_
        refine CE.cond_t rfl rfl ?_
        refine CE.seq ?_
        refine CE.region ?_
        refine WL.det (op_assign rfl) rfl rfl rfl ?_
        refine WL.end ?_
        refine NE.code ?_
        refine CE.ret' ?_
        refine XE.ret_blk ?_
        refine XE.ret_then ?_
        refine XE.ret_then ?_
        refine XE.ret_blk ?_
        refine XE.ret_then ?_
        refine XE.leave1 Try.results30 rfl ?_
        refine ⟨?_, ((((Mod.refl [] w).nt m1).nt md5).nt m6)⟩
        all_goals first | exact congrArg Value.bool (sameL_ne (by omega)).symm | exact congrArg Value.bool (sameL_out (i := i) (by omega) (by first | assumption | simp_all [evSame, inSame])).symm | exact congrArg Value.bool (sameL_all (by omega) hu (by omega)).symm
    · have hp2 := hb2; try simp only [Bool.and_eq_true, Bool.or_eq_true, Bool.not_eq_true', Bool.not_eq_false', Bool.and_eq_false_iff, Bool.or_eq_false_iff, decide_eq_true_eq, decide_eq_false_iff_not, beq_iff_eq, bne_iff_ne, beq_eq_false_iff_ne, bne_eq_false_iff_eq, ne_eq, Bool.false_eq_true, not_false_eq_true, not_true_eq_false, vIn_t, vIn_f] at hp2
      refine CE.cond_f rfl hb2 ?_
      refine CE.exit' ?_
      refine XE.exit_then ?_
      refine XE.exit_then ?_
      refine XE.exit_here ?_
      refine NE.code ?_
      refine CE.seq ?_
      refine CE.region ?_
      refine WL.det (op_assign rfl) rfl rfl rfl ?_
      refine WL.end ?_
      refine NE.code ?_
      refine CE.ret' ?_
      refine XE.leave1 Try.results30 rfl ?_
      refine ⟨?_, ((Mod.refl [] w).nt m1)⟩
      all_goals first | exact congrArg Value.bool (sameL_ne (by omega)).symm | exact congrArg Value.bool (sameL_out (i := i) (by omega) (by first | assumption | simp_all [evSame, inSame])).symm | exact congrArg Value.bool (sameL_all (by omega) hu (by omega)).symm

set_option maxRecDepth 100000 in
set_option maxHeartbeats 2000000 in
theorem c_sameSamples (n : Nat) (c : Nat) (A : Option Addr) (b : Nat) (o : Nat) (es : List Nat) (n' : Nat) (c' : Nat) (A' : Option Addr) (b' : Nat) (o' : Nat) (es' : List Nat) (ln : es.length = n) (hA : 0 < n → A = some ⟨b, o, none⟩) (ln' : es'.length = n') (hA' : 0 < n' → A' = some ⟨b', o', none⟩) (hnn : n ≤ 1048576) (hnn' : n' ≤ 1048576) (w : World) (r : Rng w b o (fl es)) (r' : Rng w b' o' (fl es')) : Cl Try.prog 66 #[.slice A n c, .slice A' n' c'] w fun v w' => v = .bool (sameL sameW 0 es n es' n') ∧ Mod [] w w' := by
  refine Cl.of Try.func66 Try.ntmps66 rfl rfl (ρ := [(0, .slice A n c), (1, .slice A' n' c')]) rfl ?_
  refine CE.seq ?_
  refine CE.region ?_
  refine WL.det (op_assign rfl) rfl rfl rfl ?_
  refine WL.end ?_
  refine NE.code ?_
  refine CE.seq ?_
  refine CE.region ?_
  refine WL.det (op_move rfl) rfl rfl rfl ?_
  refine WL.det (op_move rfl) rfl rfl rfl ?_
  refine WL.call (oc_call (vs := [.slice A n c, .slice A' n' c', .func (.func 58) #[] #[]]) (cap := []) rfl rfl rfl Try.call69 (c_eqfF n c A b o es n' c' A' b' o' es' ln hA ln' hA' (by omega) (by omega) w r r')) rfl rfl (ltb rfl) ?_
  rintro _ w1 ⟨rfl, m1⟩
  refine WL.det (op_assign rfl) rfl rfl rfl ?_
  refine WL.end ?_
  refine NE.code ?_
  refine CE.ret' ?_
  refine XE.leave1 Try.results66 rfl ?_
  refine ⟨rfl, ((Mod.refl [] w).nt m1)⟩

set_option maxRecDepth 100000 in
set_option maxHeartbeats 2000000 in
theorem c_sameIns (n : Nat) (c : Nat) (A : Option Addr) (b : Nat) (o : Nat) (es : List InR) (n' : Nat) (c' : Nat) (A' : Option Addr) (b' : Nat) (o' : Nat) (es' : List InR) (ln : es.length = n) (hA : 0 < n → A = some ⟨b, o, none⟩) (ln' : es'.length = n') (hA' : 0 < n' → A' = some ⟨b', o', none⟩) (hnn : n ≤ 1048576) (hnn' : n' ≤ 1048576) (w : World) (r : Rng w b o (cat InR.cells es)) (r' : Rng w b' o' (cat InR.cells es')) : Cl Try.prog 60 #[.slice A n c, .slice A' n' c'] w fun v w' => v = .bool (sameL inSame InR.d es n es' n') ∧ Mod [] w w' := by
  refine Cl.of Try.func60 Try.ntmps60 rfl rfl (ρ := [(0, .slice A n c), (1, .slice A' n' c')]) rfl ?_
  refine CE.seq ?_
  refine CE.region ?_
  refine WL.det (op_assign rfl) rfl rfl rfl ?_
  refine WL.end ?_
  refine NE.code ?_
  refine CE.seq ?_
  refine CE.region ?_
  refine WL.det (op_move rfl) rfl rfl rfl ?_
  refine WL.det (op_move rfl) rfl rfl rfl ?_
  refine WL.call (oc_call (vs := [.slice A n c, .slice A' n' c', .func (.func 68) #[] #[]]) (cap := []) rfl rfl rfl Try.call67 (c_eqfI n c A b o es n' c' A' b' o' es' ln hA ln' hA' (by omega) (by omega) w r r')) rfl rfl (ltb rfl) ?_
  rintro _ w1 ⟨rfl, m1⟩
  refine WL.det (op_assign rfl) rfl rfl rfl ?_
  refine WL.end ?_
  refine NE.code ?_
  refine CE.ret' ?_
  refine XE.leave1 Try.results60 rfl ?_
  refine ⟨rfl, ((Mod.refl [] w).nt m1)⟩

set_option maxRecDepth 100000 in
set_option maxHeartbeats 2000000 in
theorem c_sSameTuning (ba : Nat) (oc : Nat) (nD : Nat) (cD : Nat) (AD : Option Addr) (bD : Nat) (oD : Nat) (esD : List Nat) (ba' : Nat) (oc' : Nat) (nD' : Nat) (cD' : Nat) (AD' : Option Addr) (bD' : Nat) (oD' : Nat) (esD' : List Nat) (lnD : esD.length = nD) (hAD : 0 < nD → AD = some ⟨bD, oD, none⟩) (hnD : nD ≤ 1048576) (lnD' : esD'.length = nD') (hAD' : 0 < nD' → AD' = some ⟨bD', oD', none⟩) (hnD' : nD' ≤ 1048576) (w : World) (rD : Rng w bD oD (fl esD)) (rD' : Rng w bD' oD' (fl esD')) : Cl Try.prog 29 #[.agg #[vF ba, vF oc, .slice AD nD cD], .agg #[vF ba', vF oc', .slice AD' nD' cD']] w fun v w' => v = .bool (tuSame ba oc esD nD ba' oc' esD' nD') ∧ Mod [] w w' := by
  refine Cl.of Try.func29 Try.ntmps29 rfl rfl (ρ := [(0, .agg #[vF ba, vF oc, .slice AD nD cD]), (1, .agg #[vF ba', vF oc', .slice AD' nD' cD'])]) rfl ?_
  refine CE.seq ?_
  refine CE.region ?_
  refine WL.op (op_box (cs := [vF ba, vF oc, .slice AD nD cD]) rfl rfl) rfl rfl (ltb rfl) ?_
  rintro _ w1 ⟨rfl, r1, m1, z1⟩
  refine WL.op (op_box (cs := [vF ba', vF oc', .slice AD' nD' cD']) rfl rfl) rfl rfl (ltb rfl) ?_
  rintro _ w2 ⟨rfl, r2, m2, z2⟩
  refine WL.det (op_assign rfl) rfl rfl rfl ?_
  refine WL.end ?_
  refine NE.code ?_
  refine CE.seq ?_
  refine CE.region ?_
  refine WL.det (op_fieldAddr (off' := 0) rfl Try.runUnderlying51 rfl rfl Try.sizeOf22 rfl) rfl rfl rfl ?_
  refine WL.det (op_load1 (i := 0) rfl Try.isAgg22 (r1.ext m2).rng rfl rfl) rfl rfl rfl ?_
  refine WL.det (op_fieldAddr (off' := 0) rfl Try.runUnderlying51 rfl rfl Try.sizeOf22 rfl) rfl rfl rfl ?_
  refine WL.det (op_load1 (i := 0) rfl Try.isAgg22 r2.rng rfl rfl) rfl rfl rfl ?_
  refine WL.call (oc_call (vs := [vF ba, vF ba']) (cap := []) rfl rfl rfl Try.call28 (c_l01Same ba ba ba' ba' rfl rfl w2)) rfl rfl (ltb rfl) ?_
  rintro _ _ ⟨rfl, rfl⟩
  refine WL.det (op_move rfl) rfl rfl rfl ?_
  rcases Bool.eq_false_or_eq_true ((cn .f32 ba == cn .f32 ba')) with hb1 | hb1
  · have hp1 := hb1; try simp only [Bool.and_eq_true, Bool.or_eq_true, Bool.not_eq_true', Bool.not_eq_false', Bool.and_eq_false_iff, Bool.or_eq_false_iff, decide_eq_true_eq, decide_eq_false_iff_not, beq_iff_eq, bne_iff_ne, beq_eq_false_iff_ne, bne_eq_false_iff_eq, ne_eq, Bool.false_eq_true, not_false_eq_true, not_true_eq_false, vIn_t, vIn_f] at hp1
    refine WL.yes rfl rfl rfl (ltb rfl) rfl hb1 ?_
    refine WL.det (op_fieldAddr (off' := 1) rfl Try.runUnderlying51 rfl rfl Try.sizeOf22 rfl) rfl rfl rfl ?_
    refine WL.yes rfl rfl rfl (ltb rfl) rfl hb1 ?_
    refine WL.det (op_load1 (i := 1) rfl Try.isAgg22 (r1.ext m2).rng rfl rfl) rfl rfl rfl ?_
    refine WL.yes rfl rfl rfl (ltb rfl) rfl hb1 ?_
    refine WL.det (op_fieldAddr (off' := 1) rfl Try.runUnderlying51 rfl rfl Try.sizeOf22 rfl) rfl rfl rfl ?_
    refine WL.yes rfl rfl rfl (ltb rfl) rfl hb1 ?_
    refine WL.det (op_load1 (i := 1) rfl Try.isAgg22 r2.rng rfl rfl) rfl rfl rfl ?_
    refine WL.yes rfl rfl rfl (ltb rfl) rfl hb1 ?_
    refine WL.call (oc_call (vs := [vF oc, vF oc']) (cap := []) rfl rfl rfl Try.call28 (c_l01Same oc oc oc' oc' rfl rfl w2)) rfl rfl (ltb rfl) ?_
    rintro _ _ ⟨rfl, rfl⟩
    refine WL.det (op_pick_t rfl hb1 rfl) rfl rfl rfl ?_
    refine WL.det (op_move rfl) rfl rfl rfl ?_
    rcases Bool.eq_false_or_eq_true ((cn .f32 oc == cn .f32 oc')) with hb2 | hb2
    · have hp2 := hb2; try simp only [Bool.and_eq_true, Bool.or_eq_true, Bool.not_eq_true', Bool.not_eq_false', Bool.and_eq_false_iff, Bool.or_eq_false_iff, decide_eq_true_eq, decide_eq_false_iff_not, beq_iff_eq, bne_iff_ne, beq_eq_false_iff_ne, bne_eq_false_iff_eq, ne_eq, Bool.false_eq_true, not_false_eq_true, not_true_eq_false, vIn_t, vIn_f] at hp2
      refine WL.yes rfl rfl rfl (ltb rfl) rfl hb2 ?_
      refine WL.det (op_fieldAddr (off' := 2) rfl Try.runUnderlying51 rfl rfl Try.sizeOf23 rfl) rfl rfl rfl ?_
      refine WL.yes rfl rfl rfl (ltb rfl) rfl hb2 ?_
      refine WL.det (op_load1 (i := 2) rfl Try.isAgg23 (r1.ext m2).rng rfl rfl) rfl rfl rfl ?_
      refine WL.yes rfl rfl rfl (ltb rfl) rfl hb2 ?_
      refine WL.det (op_fieldAddr (off' := 2) rfl Try.runUnderlying51 rfl rfl Try.sizeOf23 rfl) rfl rfl rfl ?_
      refine WL.yes rfl rfl rfl (ltb rfl) rfl hb2 ?_
      refine WL.det (op_load1 (i := 2) rfl Try.isAgg23 r2.rng rfl rfl) rfl rfl rfl ?_
      refine WL.yes rfl rfl rfl (ltb rfl) rfl hb2 ?_
      refine WL.call (oc_call (vs := [.slice AD nD cD, .slice AD' nD' cD']) (cap := []) rfl rfl rfl Try.call54 (c_l02SameList nD cD AD bD oD esD nD' cD' AD' bD' oD' esD' lnD hAD lnD' hAD' (by omega) (by omega) w2 ((rD.ext m1).ext m2) ((rD'.ext m1).ext m2))) rfl rfl (ltb rfl) ?_
      rintro _ w3 ⟨rfl, m3⟩
      refine WL.det (op_pick_t rfl hb2 rfl) rfl rfl rfl ?_
      refine WL.det (op_assign rfl) rfl rfl rfl ?_
      refine WL.end ?_
      refine NE.code ?_
      refine CE.ret' ?_
      refine XE.leave1 Try.results29 rfl ?_
      refine ⟨?_, ((((Mod.refl [] w).nt m1).nt m2).nt m3)⟩
      all_goals simp_all [tuSame]
    · have hp2 := hb2; try simp only [Bool.and_eq_true, Bool.or_eq_true, Bool.not_eq_true', Bool.not_eq_false', Bool.and_eq_false_iff, Bool.or_eq_false_iff, decide_eq_true_eq, decide_eq_false_iff_not, beq_iff_eq, bne_iff_ne, beq_eq_false_iff_ne, bne_eq_false_iff_eq, ne_eq, Bool.false_eq_true, not_false_eq_true, not_true_eq_false, vIn_t, vIn_f] at hp2
      refine WL.no rfl rfl rfl (ltb rfl) rfl hb2 rfl (ltb rfl) ?_
      refine WL.no rfl rfl rfl (ltb rfl) rfl hb2 rfl (ltb rfl) ?_
      refine WL.no rfl rfl rfl (ltb rfl) rfl hb2 rfl (ltb rfl) ?_
      refine WL.no rfl rfl rfl (ltb rfl) rfl hb2 rfl (ltb rfl) ?_
      refine WL.no rfl rfl rfl (ltb rfl) rfl hb2 rfl (ltb rfl) ?_
      refine WL.det (op_pick_f rfl hb2 rfl) rfl rfl rfl ?_
      refine WL.det (op_assign rfl) rfl rfl rfl ?_
      refine WL.end ?_
      refine NE.code ?_
      refine CE.ret' ?_
      refine XE.leave1 Try.results29 rfl ?_
      refine ⟨?_, (((Mod.refl [] w).nt m1).nt m2)⟩
      all_goals simp_all [tuSame]
  · have hp1 := hb1; try simp only [Bool.and_eq_true, Bool.or_eq_true, Bool.not_eq_true', Bool.not_eq_false', Bool.and_eq_false_iff, Bool.or_eq_false_iff, decide_eq_true_eq, decide_eq_false_iff_not, beq_iff_eq, bne_iff_ne, beq_eq_false_iff_ne, bne_eq_false_iff_eq, ne_eq, Bool.false_eq_true, not_false_eq_true, not_true_eq_false, vIn_t, vIn_f] at hp1
    refine WL.no rfl rfl rfl (ltb rfl) rfl hb1 rfl (ltb rfl) ?_
    refine WL.no rfl rfl rfl (ltb rfl) rfl hb1 rfl (ltb rfl) ?_
    refine WL.no rfl rfl rfl (ltb rfl) rfl hb1 rfl (ltb rfl) ?_
    refine WL.no rfl rfl rfl (ltb rfl) rfl hb1 rfl (ltb rfl) ?_
    refine WL.no rfl rfl rfl (ltb rfl) rfl hb1 rfl (ltb rfl) ?_
    refine WL.det (op_pick_f rfl hb1 rfl) rfl rfl rfl ?_
    refine WL.det (op_move rfl) rfl rfl rfl ?_
    refine WL.no rfl rfl rfl (ltb rfl) rfl rfl rfl (ltb rfl) ?_
    refine WL.no rfl rfl rfl (ltb rfl) rfl rfl rfl (ltb rfl) ?_
    refine WL.no rfl rfl rfl (ltb rfl) rfl rfl rfl (ltb rfl) ?_
    refine WL.no rfl rfl rfl (ltb rfl) rfl rfl rfl (ltb rfl) ?_
    refine WL.no rfl rfl rfl (ltb rfl) rfl rfl rfl (ltb rfl) ?_
    refine WL.det (op_pick_f rfl rfl rfl) rfl rfl rfl ?_
    refine WL.det (op_assign rfl) rfl rfl rfl ?_
    refine WL.end ?_
    refine NE.code ?_
    refine CE.ret' ?_
    refine XE.leave1 Try.results29 rfl ?_
    refine ⟨?_, (((Mod.refl [] w).nt m1).nt m2)⟩
    all_goals simp_all [tuSame]

set_option maxRecDepth 100000 in
set_option maxHeartbeats 2000000 in
theorem c_iSameTuning (ba : Nat) (oc : Nat) (nD : Nat) (cD : Nat) (AD : Option Addr) (bD : Nat) (oD : Nat) (esD : List Nat) (ba' : Nat) (oc' : Nat) (nD' : Nat) (cD' : Nat) (AD' : Option Addr) (bD' : Nat) (oD' : Nat) (esD' : List Nat) (lnD : esD.length = nD) (hAD : 0 < nD → AD = some ⟨bD, oD, none⟩) (hnD : nD ≤ 1048576) (lnD' : esD'.length = nD') (hAD' : 0 < nD' → AD' = some ⟨bD', oD', none⟩) (hnD' : nD' ≤ 1048576) (w : World) (rD : Rng w bD oD (fl esD)) (rD' : Rng w bD' oD' (fl esD')) : Cl Try.prog 59 #[.agg #[vF ba, vF oc, .slice AD nD cD], .agg #[vF ba', vF oc', .slice AD' nD' cD']] w fun v w' => v = .bool (tuSame ba oc esD nD ba' oc' esD' nD') ∧ Mod [] w w' := by
  refine Cl.of Try.func59 Try.ntmps59 rfl rfl (ρ := [(0, .agg #[vF ba, vF oc, .slice AD nD cD]), (1, .agg #[vF ba', vF oc', .slice AD' nD' cD'])]) rfl ?_
  refine CE.seq ?_
  refine CE.region ?_
  refine WL.op (op_box (cs := [vF ba, vF oc, .slice AD nD cD]) rfl rfl) rfl rfl (ltb rfl) ?_
  rintro _ w1 ⟨rfl, r1, m1, z1⟩
  refine WL.op (op_box (cs := [vF ba', vF oc', .slice AD' nD' cD']) rfl rfl) rfl rfl (ltb rfl) ?_
  rintro _ w2 ⟨rfl, r2, m2, z2⟩
  refine WL.det (op_assign rfl) rfl rfl rfl ?_
  refine WL.end ?_
  refine NE.code ?_
  refine CE.seq ?_
  refine CE.region ?_
  refine WL.det (op_fieldAddr (off' := 0) rfl Try.runUnderlying51 rfl rfl Try.sizeOf22 rfl) rfl rfl rfl ?_
  refine WL.det (op_load1 (i := 0) rfl Try.isAgg22 (r1.ext m2).rng rfl rfl) rfl rfl rfl ?_
  refine WL.det (op_fieldAddr (off' := 0) rfl Try.runUnderlying51 rfl rfl Try.sizeOf22 rfl) rfl rfl rfl ?_
  refine WL.det (op_load1 (i := 0) rfl Try.isAgg22 r2.rng rfl rfl) rfl rfl rfl ?_
  refine WL.call (oc_call (vs := [vF ba, vF ba']) (cap := []) rfl rfl rfl Try.call58 (c_SameSample ba ba ba' ba' rfl rfl w2)) rfl rfl (ltb rfl) ?_
  rintro _ _ ⟨rfl, rfl⟩
  refine WL.det (op_move rfl) rfl rfl rfl ?_
  rcases Bool.eq_false_or_eq_true ((cn .f32 ba == cn .f32 ba')) with hb1 | hb1
  · have hp1 := hb1; try simp only [Bool.and_eq_true, Bool.or_eq_true, Bool.not_eq_true', Bool.not_eq_false', Bool.and_eq_false_iff, Bool.or_eq_false_iff, decide_eq_true_eq, decide_eq_false_iff_not, beq_iff_eq, bne_iff_ne, beq_eq_false_iff_ne, bne_eq_false_iff_eq, ne_eq, Bool.false_eq_true, not_false_eq_true, not_true_eq_false, vIn_t, vIn_f] at hp1
    refine WL.yes rfl rfl rfl (ltb rfl) rfl hb1 ?_
    refine WL.det (op_fieldAddr (off' := 1) rfl Try.runUnderlying51 rfl rfl Try.sizeOf22 rfl) rfl rfl rfl ?_
    refine WL.yes rfl rfl rfl (ltb rfl) rfl hb1 ?_
    refine WL.det (op_load1 (i := 1) rfl Try.isAgg22 (r1.ext m2).rng rfl rfl) rfl rfl rfl ?_
    refine WL.yes rfl rfl rfl (ltb rfl) rfl hb1 ?_
    refine WL.det (op_fieldAddr (off' := 1) rfl Try.runUnderlying51 rfl rfl Try.sizeOf22 rfl) rfl rfl rfl ?_
    refine WL.yes rfl rfl rfl (ltb rfl) rfl hb1 ?_
    refine WL.det (op_load1 (i := 1) rfl Try.isAgg22 r2.rng rfl rfl) rfl rfl rfl ?_
    refine WL.yes rfl rfl rfl (ltb rfl) rfl hb1 ?_
    refine WL.call (oc_call (vs := [vF oc, vF oc']) (cap := []) rfl rfl rfl Try.call58 (c_SameSample oc oc oc' oc' rfl rfl w2)) rfl rfl (ltb rfl) ?_
    rintro _ _ ⟨rfl, rfl⟩
    refine WL.det (op_pick_t rfl hb1 rfl) rfl rfl rfl ?_
    refine WL.det (op_move rfl) rfl rfl rfl ?_
    rcases Bool.eq_false_or_eq_true ((cn .f32 oc == cn .f32 oc')) with hb2 | hb2
    · have hp2 := hb2; try simp only [Bool.and_eq_true, Bool.or_eq_true, Bool.not_eq_true', Bool.not_eq_false', Bool.and_eq_false_iff, Bool.or_eq_false_iff, decide_eq_true_eq, decide_eq_false_iff_not, beq_iff_eq, bne_iff_ne, beq_eq_false_iff_ne, bne_eq_false_iff_eq, ne_eq, Bool.false_eq_true, not_false_eq_true, not_true_eq_false, vIn_t, vIn_f] at hp2
      refine WL.yes rfl rfl rfl (ltb rfl) rfl hb2 ?_
      refine WL.det (op_fieldAddr (off' := 2) rfl Try.runUnderlying51 rfl rfl Try.sizeOf23 rfl) rfl rfl rfl ?_
      refine WL.yes rfl rfl rfl (ltb rfl) rfl hb2 ?_
      refine WL.det (op_load1 (i := 2) rfl Try.isAgg23 (r1.ext m2).rng rfl rfl) rfl rfl rfl ?_
      refine WL.yes rfl rfl rfl (ltb rfl) rfl hb2 ?_
      refine WL.det (op_fieldAddr (off' := 2) rfl Try.runUnderlying51 rfl rfl Try.sizeOf23 rfl) rfl rfl rfl ?_
      refine WL.yes rfl rfl rfl (ltb rfl) rfl hb2 ?_
      refine WL.det (op_load1 (i := 2) rfl Try.isAgg23 r2.rng rfl rfl) rfl rfl rfl ?_
      refine WL.yes rfl rfl rfl (ltb rfl) rfl hb2 ?_
      refine WL.call (oc_call (vs := [.slice AD nD cD, .slice AD' nD' cD']) (cap := []) rfl rfl rfl Try.call66 (c_sameSamples nD cD AD bD oD esD nD' cD' AD' bD' oD' esD' lnD hAD lnD' hAD' (by omega) (by omega) w2 ((rD.ext m1).ext m2) ((rD'.ext m1).ext m2))) rfl rfl (ltb rfl) ?_
      rintro _ w3 ⟨rfl, m3⟩
      refine WL.det (op_pick_t rfl hb2 rfl) rfl rfl rfl ?_
      refine WL.det (op_assign rfl) rfl rfl rfl ?_
      refine WL.end ?_
      refine NE.code ?_
      refine CE.ret' ?_
      refine XE.leave1 Try.results59 rfl ?_
      refine ⟨?_, ((((Mod.refl [] w).nt m1).nt m2).nt m3)⟩
      all_goals simp_all [tuSame]
    · have hp2 := hb2; try simp only [Bool.and_eq_true, Bool.or_eq_true, Bool.not_eq_true', Bool.not_eq_false', Bool.and_eq_false_iff, Bool.or_eq_false_iff, decide_eq_true_eq, decide_eq_false_iff_not, beq_iff_eq, bne_iff_ne, beq_eq_false_iff_ne, bne_eq_false_iff_eq, ne_eq, Bool.false_eq_true, not_false_eq_true, not_true_eq_false, vIn_t, vIn_f] at hp2
      refine WL.no rfl rfl rfl (ltb rfl) rfl hb2 rfl (ltb rfl) ?_
      refine WL.no rfl rfl rfl (ltb rfl) rfl hb2 rfl (ltb rfl) ?_
      refine WL.no rfl rfl rfl (ltb rfl) rfl hb2 rfl (ltb rfl) ?_
      refine WL.no rfl rfl rfl (ltb rfl) rfl hb2 rfl (ltb rfl) ?_
      refine WL.no rfl rfl rfl (ltb rfl) rfl hb2 rfl (ltb rfl) ?_
      refine WL.det (op_pick_f rfl hb2 rfl) rfl rfl rfl ?_
      refine WL.det (op_assign rfl) rfl rfl rfl ?_
      refine WL.end ?_
      refine NE.code ?_
      refine CE.ret' ?_
      refine XE.leave1 Try.results59 rfl ?_
      refine ⟨?_, (((Mod.refl [] w).nt m1).nt m2)⟩
      all_goals simp_all [tuSame]
  · have hp1 := hb1; try simp only [Bool.and_eq_true, Bool.or_eq_true, Bool.not_eq_true', Bool.not_eq_false', Bool.and_eq_false_iff, Bool.or_eq_false_iff, decide_eq_true_eq, decide_eq_false_iff_not, beq_iff_eq, bne_iff_ne, beq_eq_false_iff_ne, bne_eq_false_iff_eq, ne_eq, Bool.false_eq_true, not_false_eq_true, not_true_eq_false, vIn_t, vIn_f] at hp1
    refine WL.no rfl rfl rfl (ltb rfl) rfl hb1 rfl (ltb rfl) ?_
    refine WL.no rfl rfl rfl (ltb rfl) rfl hb1 rfl (ltb rfl) ?_
    refine WL.no rfl rfl rfl (ltb rfl) rfl hb1 rfl (ltb rfl) ?_
    refine WL.no rfl rfl rfl (ltb rfl) rfl hb1 rfl (ltb rfl) ?_
    refine WL.no rfl rfl rfl (ltb rfl) rfl hb1 rfl (ltb rfl) ?_
    refine WL.det (op_pick_f rfl hb1 rfl) rfl rfl rfl ?_
    refine WL.det (op_move rfl) rfl rfl rfl ?_
    refine WL.no rfl rfl rfl (ltb rfl) rfl rfl rfl (ltb rfl) ?_
    refine WL.no rfl rfl rfl (ltb rfl) rfl rfl rfl (ltb rfl) ?_
    refine WL.no rfl rfl rfl (ltb rfl) rfl rfl rfl (ltb rfl) ?_
    refine WL.no rfl rfl rfl (ltb rfl) rfl rfl rfl (ltb rfl) ?_
    refine WL.no rfl rfl rfl (ltb rfl) rfl rfl rfl (ltb rfl) ?_
    refine WL.det (op_pick_f rfl rfl rfl) rfl rfl rfl ?_
    refine WL.det (op_assign rfl) rfl rfl rfl ?_
    refine WL.end ?_
    refine NE.code ?_
    refine CE.ret' ?_
    refine XE.leave1 Try.results59 rfl ?_
    refine ⟨?_, (((Mod.refl [] w).nt m1).nt m2)⟩
    all_goals simp_all [tuSame]

set_option maxRecDepth 100000 in
set_option maxHeartbeats 2000000 in
theorem c_sameGround (ra : Nat) (ba : Nat) (oc : Nat) (nD : Nat) (cD : Nat) (AD : Option Addr) (bD : Nat) (oD : Nat) (esD : List Nat) (nI : Nat) (cI : Nat) (AI : Option Addr) (bI : Nat) (oI : Nat) (esI : List InR) (nE : Nat) (cE : Nat) (AE : Option Addr) (bE : Nat) (oE : Nat) (esE : List EvR) (ra' : Nat) (ba' : Nat) (oc' : Nat) (nD' : Nat) (cD' : Nat) (AD' : Option Addr) (bD' : Nat) (oD' : Nat) (esD' : List Nat) (nI' : Nat) (cI' : Nat) (AI' : Option Addr) (bI' : Nat) (oI' : Nat) (esI' : List InR) (nE' : Nat) (cE' : Nat) (AE' : Option Addr) (bE' : Nat) (oE' : Nat) (esE' : List EvR) (lnD : esD.length = nD) (hAD : 0 < nD → AD = some ⟨bD, oD, none⟩) (hnD : nD ≤ 1048576) (lnI : esI.length = nI) (hAI : 0 < nI → AI = some ⟨bI, oI, none⟩) (hnI : nI ≤ 1048576) (lnE : esE.length = nE) (hAE : 0 < nE → AE = some ⟨bE, oE, none⟩) (hnE : nE ≤ 1048576) (lnD' : esD'.length = nD') (hAD' : 0 < nD' → AD' = some ⟨bD', oD', none⟩) (hnD' : nD' ≤ 1048576) (lnI' : esI'.length = nI') (hAI' : 0 < nI' → AI' = some ⟨bI', oI', none⟩) (hnI' : nI' ≤ 1048576) (lnE' : esE'.length = nE') (hAE' : 0 < nE' → AE' = some ⟨bE', oE', none⟩) (hnE' : nE' ≤ 1048576) (w : World) (rD : Rng w bD oD (fl esD)) (rI : Rng w bI oI (cat InR.cells esI)) (rE : Rng w bE oE (cat EvR.cells esE)) (rD' : Rng w bD' oD' (fl esD')) (rI' : Rng w bI' oI' (cat InR.cells esI')) (rE' : Rng w bE' oE' (cat EvR.cells esE')) : Cl Try.prog 34 #[.agg #[vF ra, vF ba, vF oc, .slice AD nD cD, .slice AI nI cI, .slice AE nE cE], .agg #[vF ra', vF ba', vF oc', .slice AD' nD' cD', .slice AI' nI' cI', .slice AE' nE' cE']] w fun v w' => v = .bool ((cn .f32 ra == cn .f32 ra') && tuSame ba oc esD nD ba' oc' esD' nD' && sameL inSame InR.d esI nI esI' nI') ∧ Mod [] w w' := by
  refine Cl.of Try.func34 Try.ntmps34 rfl rfl (ρ := [(0, .agg #[vF ra, vF ba, vF oc, .slice AD nD cD, .slice AI nI cI, .slice AE nE cE]), (1, .agg #[vF ra', vF ba', vF oc', .slice AD' nD' cD', .slice AI' nI' cI', .slice AE' nE' cE'])]) rfl ?_
  refine CE.seq ?_
  refine CE.region ?_
  refine WL.op (op_box (cs := [vF ra, vF ba, vF oc, .slice AD nD cD, .slice AI nI cI, .slice AE nE cE]) rfl rfl) rfl rfl (ltb rfl) ?_
  rintro _ w1 ⟨rfl, r1, m1, z1⟩
  refine WL.op (op_box (cs := [vF ra', vF ba', vF oc', .slice AD' nD' cD', .slice AI' nI' cI', .slice AE' nE' cE']) rfl rfl) rfl rfl (ltb rfl) ?_
  rintro _ w2 ⟨rfl, r2, m2, z2⟩
  refine WL.det (op_assign rfl) rfl rfl rfl ?_
  refine WL.end ?_
  refine NE.code ?_
  refine CE.seq ?_
  refine CE.region ?_
  refine WL.det (op_fieldAddr (off' := 0) rfl Try.runUnderlying55 rfl rfl Try.sizeOf22 rfl) rfl rfl rfl ?_
  refine WL.det (op_load1 (i := 0) rfl Try.isAgg22 (r1.ext m2).rng rfl rfl) rfl rfl rfl ?_
  refine WL.det (op_fieldAddr (off' := 0) rfl Try.runUnderlying55 rfl rfl Try.sizeOf22 rfl) rfl rfl rfl ?_
  refine WL.det (op_load1 (i := 0) rfl Try.isAgg22 r2.rng rfl rfl) rfl rfl rfl ?_
  refine WL.call (oc_call (vs := [vF ra, vF ra']) (cap := []) rfl rfl rfl Try.call58 (c_SameSample ra ra ra' ra' rfl rfl w2)) rfl rfl (ltb rfl) ?_
  rintro _ _ ⟨rfl, rfl⟩
  refine WL.det (op_move rfl) rfl rfl rfl ?_
  rcases Bool.eq_false_or_eq_true ((cn .f32 ra == cn .f32 ra')) with hb1 | hb1
  · have hp1 := hb1; try simp only [Bool.and_eq_true, Bool.or_eq_true, Bool.not_eq_true', Bool.not_eq_false', Bool.and_eq_false_iff, Bool.or_eq_false_iff, decide_eq_true_eq, decide_eq_false_iff_not, beq_iff_eq, bne_iff_ne, beq_eq_false_iff_ne, bne_eq_false_iff_eq, ne_eq, Bool.false_eq_true, not_false_eq_true, not_true_eq_false, vIn_t, vIn_f] at hp1
    refine WL.yes rfl rfl rfl (ltb rfl) rfl hb1 ?_
    refine WL.det (op_fieldAddr (off' := 1) rfl Try.runUnderlying55 rfl rfl Try.sizeOf51 rfl) rfl rfl rfl ?_
    refine WL.yes rfl rfl rfl (ltb rfl) rfl hb1 ?_
    refine WL.det (op_loadA (i := 1) (cs := [vF ba, vF oc, .slice AD nD cD]) rfl Try.isAgg51 Try.sizeOf51 (r1.ext m2).rng rfl rfl rfl) rfl rfl rfl ?_
    refine WL.yes rfl rfl rfl (ltb rfl) rfl hb1 ?_
    refine WL.det (op_fieldAddr (off' := 1) rfl Try.runUnderlying55 rfl rfl Try.sizeOf51 rfl) rfl rfl rfl ?_
    refine WL.yes rfl rfl rfl (ltb rfl) rfl hb1 ?_
    refine WL.det (op_loadA (i := 1) (cs := [vF ba', vF oc', .slice AD' nD' cD']) rfl Try.isAgg51 Try.sizeOf51 r2.rng rfl rfl rfl) rfl rfl rfl ?_
    refine WL.yes rfl rfl rfl (ltb rfl) rfl hb1 ?_
    refine WL.call (oc_call (vs := [.agg #[vF ba, vF oc, .slice AD nD cD], .agg #[vF ba', vF oc', .slice AD' nD' cD']]) (cap := []) rfl rfl rfl Try.call59 (c_iSameTuning ba oc nD cD AD bD oD esD ba' oc' nD' cD' AD' bD' oD' esD' lnD hAD (by omega) lnD' hAD' (by omega) w2 ((rD.ext m1).ext m2) ((rD'.ext m1).ext m2))) rfl rfl (ltb rfl) ?_
    rintro _ w3 ⟨rfl, m3⟩
    refine WL.det (op_pick_t rfl hb1 rfl) rfl rfl rfl ?_
    refine WL.det (op_move rfl) rfl rfl rfl ?_
    rcases Bool.eq_false_or_eq_true (tuSame ba oc esD nD ba' oc' esD' nD') with hb2 | hb2
    · refine WL.yes rfl rfl rfl (ltb rfl) rfl hb2 ?_
      refine WL.det (op_fieldAddr (off' := 4) rfl Try.runUnderlying55 rfl rfl Try.sizeOf52 rfl) rfl rfl rfl ?_
      refine WL.yes rfl rfl rfl (ltb rfl) rfl hb2 ?_
      refine WL.det (op_load1 (i := 4) rfl Try.isAgg52 ((r1.ext m2).ext m3).rng rfl rfl) rfl rfl rfl ?_
      refine WL.yes rfl rfl rfl (ltb rfl) rfl hb2 ?_
      refine WL.det (op_fieldAddr (off' := 4) rfl Try.runUnderlying55 rfl rfl Try.sizeOf52 rfl) rfl rfl rfl ?_
      refine WL.yes rfl rfl rfl (ltb rfl) rfl hb2 ?_
      refine WL.det (op_load1 (i := 4) rfl Try.isAgg52 (r2.ext m3).rng rfl rfl) rfl rfl rfl ?_
      refine WL.yes rfl rfl rfl (ltb rfl) rfl hb2 ?_
      refine WL.call (oc_call (vs := [.slice AI nI cI, .slice AI' nI' cI']) (cap := []) rfl rfl rfl Try.call60 (c_sameIns nI cI AI bI oI esI nI' cI' AI' bI' oI' esI' lnI hAI lnI' hAI' (by omega) (by omega) w3 (((rI.ext m1).ext m2).ext m3) (((rI'.ext m1).ext m2).ext m3))) rfl rfl (ltb rfl) ?_
      rintro _ w4 ⟨rfl, m4⟩
      refine WL.det (op_pick_t rfl hb2 rfl) rfl rfl rfl ?_
      refine WL.det (op_assign rfl) rfl rfl rfl ?_
      refine WL.end ?_
      refine NE.code ?_
      refine CE.ret' ?_
      refine XE.leave1 Try.results34 rfl ?_
      refine ⟨?_, (((((Mod.refl [] w).nt m1).nt m2).nt m3).nt m4)⟩
      all_goals simp_all
    · refine WL.no rfl rfl rfl (ltb rfl) rfl hb2 rfl (ltb rfl) ?_
      refine WL.no rfl rfl rfl (ltb rfl) rfl hb2 rfl (ltb rfl) ?_
      refine WL.no rfl rfl rfl (ltb rfl) rfl hb2 rfl (ltb rfl) ?_
      refine WL.no rfl rfl rfl (ltb rfl) rfl hb2 rfl (ltb rfl) ?_
      refine WL.no rfl rfl rfl (ltb rfl) rfl hb2 rfl (ltb rfl) ?_
      refine WL.det (op_pick_f rfl hb2 rfl) rfl rfl rfl ?_
      refine WL.det (op_assign rfl) rfl rfl rfl ?_
      refine WL.end ?_
      refine NE.code ?_
      refine CE.ret' ?_
      refine XE.leave1 Try.results34 rfl ?_
      refine ⟨?_, ((((Mod.refl [] w).nt m1).nt m2).nt m3)⟩
      all_goals simp_all
  · have hp1 := hb1; try simp only [Bool.and_eq_true, Bool.or_eq_true, Bool.not_eq_true', Bool.not_eq_false', Bool.and_eq_false_iff, Bool.or_eq_false_iff, decide_eq_true_eq, decide_eq_false_iff_not, beq_iff_eq, bne_iff_ne, beq_eq_false_iff_ne, bne_eq_false_iff_eq, ne_eq, Bool.false_eq_true, not_false_eq_true, not_true_eq_false, vIn_t, vIn_f] at hp1
    refine WL.no rfl rfl rfl (ltb rfl) rfl hb1 rfl (ltb rfl) ?_
    refine WL.no rfl rfl rfl (ltb rfl) rfl hb1 rfl (ltb rfl) ?_
    refine WL.no rfl rfl rfl (ltb rfl) rfl hb1 rfl (ltb rfl) ?_
    refine WL.no rfl rfl rfl (ltb rfl) rfl hb1 rfl (ltb rfl) ?_
    refine WL.no rfl rfl rfl (ltb rfl) rfl hb1 rfl (ltb rfl) ?_
    refine WL.det (op_pick_f rfl hb1 rfl) rfl rfl rfl ?_
    refine WL.det (op_move rfl) rfl rfl rfl ?_
    refine WL.no rfl rfl rfl (ltb rfl) rfl rfl rfl (ltb rfl) ?_
    refine WL.no rfl rfl rfl (ltb rfl) rfl rfl rfl (ltb rfl) ?_
    refine WL.no rfl rfl rfl (ltb rfl) rfl rfl rfl (ltb rfl) ?_
    refine WL.no rfl rfl rfl (ltb rfl) rfl rfl rfl (ltb rfl) ?_
    refine WL.no rfl rfl rfl (ltb rfl) rfl rfl rfl (ltb rfl) ?_
    refine WL.det (op_pick_f rfl rfl rfl) rfl rfl rfl ?_
    refine WL.det (op_assign rfl) rfl rfl rfl ?_
    refine WL.end ?_
    refine NE.code ?_
    refine CE.ret' ?_
    refine XE.leave1 Try.results34 rfl ?_
    refine ⟨?_, (((Mod.refl [] w).nt m1).nt m2)⟩
    all_goals simp_all

set_option maxRecDepth 100000 in
set_option maxHeartbeats 2000000 in
theorem c_iSameScore (ra : Nat) (ba : Nat) (oc : Nat) (nD : Nat) (cD : Nat) (AD : Option Addr) (bD : Nat) (oD : Nat) (esD : List Nat) (nI : Nat) (cI : Nat) (AI : Option Addr) (bI : Nat) (oI : Nat) (esI : List InR) (nE : Nat) (cE : Nat) (AE : Option Addr) (bE : Nat) (oE : Nat) (esE : List EvR) (ra' : Nat) (ba' : Nat) (oc' : Nat) (nD' : Nat) (cD' : Nat) (AD' : Option Addr) (bD' : Nat) (oD' : Nat) (esD' : List Nat) (nI' : Nat) (cI' : Nat) (AI' : Option Addr) (bI' : Nat) (oI' : Nat) (esI' : List InR) (nE' : Nat) (cE' : Nat) (AE' : Option Addr) (bE' : Nat) (oE' : Nat) (esE' : List EvR) (lnD : esD.length = nD) (hAD : 0 < nD → AD = some ⟨bD, oD, none⟩) (hnD : nD ≤ 1048576) (lnI : esI.length = nI) (hAI : 0 < nI → AI = some ⟨bI, oI, none⟩) (hnI : nI ≤ 1048576) (lnE : esE.length = nE) (hAE : 0 < nE → AE = some ⟨bE, oE, none⟩) (hnE : nE ≤ 1048576) (lnD' : esD'.length = nD') (hAD' : 0 < nD' → AD' = some ⟨bD', oD', none⟩) (hnD' : nD' ≤ 1048576) (lnI' : esI'.length = nI') (hAI' : 0 < nI' → AI' = some ⟨bI', oI', none⟩) (hnI' : nI' ≤ 1048576) (lnE' : esE'.length = nE') (hAE' : 0 < nE' → AE' = some ⟨bE', oE', none⟩) (hnE' : nE' ≤ 1048576) (w : World) (rD : Rng w bD oD (fl esD)) (rI : Rng w bI oI (cat InR.cells esI)) (rE : Rng w bE oE (cat EvR.cells esE)) (rD' : Rng w bD' oD' (fl esD')) (rI' : Rng w bI' oI' (cat InR.cells esI')) (rE' : Rng w bE' oE' (cat EvR.cells esE')) : Cl Try.prog 13 #[.agg #[vF ra, vF ba, vF oc, .slice AD nD cD, .slice AI nI cI, .slice AE nE cE], .agg #[vF ra', vF ba', vF oc', .slice AD' nD' cD', .slice AI' nI' cI', .slice AE' nE' cE']] w fun v w' => v = .bool ((((cn .f32 ra == cn .f32 ra') && tuSame ba oc esD nD ba' oc' esD' nD' && sameL inSame InR.d esI nI esI' nI')) && sameL evSame EvR.d esE nE esE' nE') ∧ Mod [] w w' := by
  refine Cl.of Try.func13 Try.ntmps13 rfl rfl (ρ := [(0, .agg #[vF ra, vF ba, vF oc, .slice AD nD cD, .slice AI nI cI, .slice AE nE cE]), (1, .agg #[vF ra', vF ba', vF oc', .slice AD' nD' cD', .slice AI' nI' cI', .slice AE' nE' cE'])]) rfl ?_
  refine CE.seq ?_
  refine CE.region ?_
  refine WL.op (op_box (cs := [vF ra, vF ba, vF oc, .slice AD nD cD, .slice AI nI cI, .slice AE nE cE]) rfl rfl) rfl rfl (ltb rfl) ?_
  rintro _ w1 ⟨rfl, r1, m1, z1⟩
  refine WL.op (op_box (cs := [vF ra', vF ba', vF oc', .slice AD' nD' cD', .slice AI' nI' cI', .slice AE' nE' cE']) rfl rfl) rfl rfl (ltb rfl) ?_
  rintro _ w2 ⟨rfl, r2, m2, z2⟩
  refine WL.det (op_assign rfl) rfl rfl rfl ?_
  refine WL.end ?_
  refine NE.code ?_
  refine CE.seq ?_
  refine CE.region ?_
  refine WL.det (op_loadA (i := 0) (cs := [vF ra, vF ba, vF oc, .slice AD nD cD, .slice AI nI cI, .slice AE nE cE]) rfl Try.isAgg55 Try.sizeOf55 (r1.ext m2).rng rfl rfl rfl) rfl rfl rfl ?_
  refine WL.det (op_loadA (i := 0) (cs := [vF ra', vF ba', vF oc', .slice AD' nD' cD', .slice AI' nI' cI', .slice AE' nE' cE']) rfl Try.isAgg55 Try.sizeOf55 r2.rng rfl rfl rfl) rfl rfl rfl ?_
  refine WL.call (oc_call (vs := [.agg #[vF ra, vF ba, vF oc, .slice AD nD cD, .slice AI nI cI, .slice AE nE cE], .agg #[vF ra', vF ba', vF oc', .slice AD' nD' cD', .slice AI' nI' cI', .slice AE' nE' cE']]) (cap := []) rfl rfl rfl Try.call34 (c_sameGround ra ba oc nD cD AD bD oD esD nI cI AI bI oI esI nE cE AE bE oE esE ra' ba' oc' nD' cD' AD' bD' oD' esD' nI' cI' AI' bI' oI' esI' nE' cE' AE' bE' oE' esE' lnD hAD (by omega) lnI hAI (by omega) lnE hAE (by omega) lnD' hAD' (by omega) lnI' hAI' (by omega) lnE' hAE' (by omega) w2 ((rD.ext m1).ext m2) ((rI.ext m1).ext m2) ((rE.ext m1).ext m2) ((rD'.ext m1).ext m2) ((rI'.ext m1).ext m2) ((rE'.ext m1).ext m2))) rfl rfl (ltb rfl) ?_
  rintro _ w3 ⟨rfl, m3⟩
  refine WL.det (op_move rfl) rfl rfl rfl ?_
  rcases Bool.eq_false_or_eq_true (((cn .f32 ra == cn .f32 ra') && tuSame ba oc esD nD ba' oc' esD' nD' && sameL inSame InR.d esI nI esI' nI')) with hb1 | hb1
  · have hp1 := hb1; try simp only [Bool.and_eq_true, Bool.or_eq_true, Bool.not_eq_true', Bool.not_eq_false', Bool.and_eq_false_iff, Bool.or_eq_false_iff, decide_eq_true_eq, decide_eq_false_iff_not, beq_iff_eq, bne_iff_ne, beq_eq_false_iff_ne, bne_eq_false_iff_eq, ne_eq, Bool.false_eq_true, not_false_eq_true, not_true_eq_false, vIn_t, vIn_f] at hp1
    refine WL.yes rfl rfl rfl (ltb rfl) rfl hb1 ?_
    refine WL.det (op_fieldAddr (off' := 5) rfl Try.runUnderlying55 rfl rfl Try.sizeOf53 rfl) rfl rfl rfl ?_
    refine WL.yes rfl rfl rfl (ltb rfl) rfl hb1 ?_
    refine WL.det (op_load1 (i := 5) rfl Try.isAgg53 ((r1.ext m2).ext m3).rng rfl rfl) rfl rfl rfl ?_
    refine WL.yes rfl rfl rfl (ltb rfl) rfl hb1 ?_
    refine WL.det (op_fieldAddr (off' := 5) rfl Try.runUnderlying55 rfl rfl Try.sizeOf53 rfl) rfl rfl rfl ?_
    refine WL.yes rfl rfl rfl (ltb rfl) rfl hb1 ?_
    refine WL.det (op_load1 (i := 5) rfl Try.isAgg53 (r2.ext m3).rng rfl rfl) rfl rfl rfl ?_
    refine WL.yes rfl rfl rfl (ltb rfl) rfl hb1 ?_
    refine WL.call (oc_call (vs := [.slice AE nE cE, .slice AE' nE' cE', .func (.func 36) #[] #[]]) (cap := []) rfl rfl rfl Try.call35 (c_eqfE nE cE AE bE oE esE nE' cE' AE' bE' oE' esE' lnE hAE lnE' hAE' (by omega) (by omega) w3 (((rE.ext m1).ext m2).ext m3) (((rE'.ext m1).ext m2).ext m3))) rfl rfl (ltb rfl) ?_
    rintro _ w4 ⟨rfl, m4⟩
    refine WL.det (op_pick_t rfl hb1 rfl) rfl rfl rfl ?_
    refine WL.det (op_assign rfl) rfl rfl rfl ?_
    refine WL.end ?_
    refine NE.code ?_
    refine CE.ret' ?_
    refine XE.leave1 Try.results13 rfl ?_
    refine ⟨?_, (((((Mod.refl [] w).nt m1).nt m2).nt m3).nt m4)⟩
    all_goals simp_all
  · have hp1 := hb1; try simp only [Bool.and_eq_true, Bool.or_eq_true, Bool.not_eq_true', Bool.not_eq_false', Bool.and_eq_false_iff, Bool.or_eq_false_iff, decide_eq_true_eq, decide_eq_false_iff_not, beq_iff_eq, bne_iff_ne, beq_eq_false_iff_ne, bne_eq_false_iff_eq, ne_eq, Bool.false_eq_true, not_false_eq_true, not_true_eq_false, vIn_t, vIn_f] at hp1
    refine WL.no rfl rfl rfl (ltb rfl) rfl hb1 rfl (ltb rfl) ?_
    refine WL.no rfl rfl rfl (ltb rfl) rfl hb1 rfl (ltb rfl) ?_
    refine WL.no rfl rfl rfl (ltb rfl) rfl hb1 rfl (ltb rfl) ?_
    refine WL.no rfl rfl rfl (ltb rfl) rfl hb1 rfl (ltb rfl) ?_
    refine WL.no rfl rfl rfl (ltb rfl) rfl hb1 rfl (ltb rfl) ?_
    refine WL.det (op_pick_f rfl hb1 rfl) rfl rfl rfl ?_
    refine WL.det (op_assign rfl) rfl rfl rfl ?_
    refine WL.end ?_
    refine NE.code ?_
    refine CE.ret' ?_
    refine XE.leave1 Try.results13 rfl ?_
    refine ⟨?_, ((((Mod.refl [] w).nt m1).nt m2).nt m3)⟩
    all_goals simp_all

set_option maxRecDepth 100000 in
set_option maxHeartbeats 2000000 in
theorem c_sSameScore (ra : Nat) (ba : Nat) (oc : Nat) (nD : Nat) (cD : Nat) (AD : Option Addr) (bD : Nat) (oD : Nat) (esD : List Nat) (nI : Nat) (cI : Nat) (AI : Option Addr) (bI : Nat) (oI : Nat) (esI : List InR) (nE : Nat) (cE : Nat) (AE : Option Addr) (bE : Nat) (oE : Nat) (esE : List EvR) (ra' : Nat) (ba' : Nat) (oc' : Nat) (nD' : Nat) (cD' : Nat) (AD' : Option Addr) (bD' : Nat) (oD' : Nat) (esD' : List Nat) (nI' : Nat) (cI' : Nat) (AI' : Option Addr) (bI' : Nat) (oI' : Nat) (esI' : List InR) (nE' : Nat) (cE' : Nat) (AE' : Option Addr) (bE' : Nat) (oE' : Nat) (esE' : List EvR) (lnD : esD.length = nD) (hAD : 0 < nD → AD = some ⟨bD, oD, none⟩) (hnD : nD ≤ 1048576) (lnI : esI.length = nI) (hAI : 0 < nI → AI = some ⟨bI, oI, none⟩) (hnI : nI ≤ 1048576) (lnE : esE.length = nE) (hAE : 0 < nE → AE = some ⟨bE, oE, none⟩) (hnE : nE ≤ 1048576) (lnD' : esD'.length = nD') (hAD' : 0 < nD' → AD' = some ⟨bD', oD', none⟩) (hnD' : nD' ≤ 1048576) (lnI' : esI'.length = nI') (hAI' : 0 < nI' → AI' = some ⟨bI', oI', none⟩) (hnI' : nI' ≤ 1048576) (lnE' : esE'.length = nE') (hAE' : 0 < nE' → AE' = some ⟨bE', oE', none⟩) (hnE' : nE' ≤ 1048576) (w : World) (rD : Rng w bD oD (fl esD)) (rI : Rng w bI oI (cat InR.cells esI)) (rE : Rng w bE oE (cat EvR.cells esE)) (rD' : Rng w bD' oD' (fl esD')) (rI' : Rng w bI' oI' (cat InR.cells esI')) (rE' : Rng w bE' oE' (cat EvR.cells esE')) : Cl Try.prog 11 #[.agg #[vF ra, vF ba, vF oc, .slice AD nD cD, .slice AI nI cI, .slice AE nE cE], .agg #[vF ra', vF ba', vF oc', .slice AD' nD' cD', .slice AI' nI' cI', .slice AE' nE' cE']] w fun v w' => v = .bool ((((cn .f32 ra == cn .f32 ra') && tuSame ba oc esD nD ba' oc' esD' nD' && sameL inSame InR.d esI nI esI' nI')) && sameL evSame EvR.d esE nE esE' nE') ∧ Mod [] w w' := by
  refine Cl.of Try.func11 Try.ntmps11 rfl rfl (ρ := [(0, .agg #[vF ra, vF ba, vF oc, .slice AD nD cD, .slice AI nI cI, .slice AE nE cE]), (1, .agg #[vF ra', vF ba', vF oc', .slice AD' nD' cD', .slice AI' nI' cI', .slice AE' nE' cE'])]) rfl ?_
  refine CE.seq ?_
  refine CE.region ?_
  refine WL.op (op_box (cs := [vF ra, vF ba, vF oc, .slice AD nD cD, .slice AI nI cI, .slice AE nE cE]) rfl rfl) rfl rfl (ltb rfl) ?_
  rintro _ w1 ⟨rfl, r1, m1, z1⟩
  refine WL.op (op_box (cs := [vF ra', vF ba', vF oc', .slice AD' nD' cD', .slice AI' nI' cI', .slice AE' nE' cE']) rfl rfl) rfl rfl (ltb rfl) ?_
  rintro _ w2 ⟨rfl, r2, m2, z2⟩
  refine WL.det (op_assign rfl) rfl rfl rfl ?_
  refine WL.end ?_
  refine NE.code ?_
  refine CE.seq ?_
  refine CE.seq ?_
  refine CE.region ?_
  refine WL.det (op_fieldAddr (off' := 0) rfl Try.runUnderlying55 rfl rfl Try.sizeOf22 rfl) rfl rfl rfl ?_
  refine WL.det (op_load1 (i := 0) rfl Try.isAgg22 (r1.ext m2).rng rfl rfl) rfl rfl rfl ?_
  refine WL.det (op_fieldAddr (off' := 0) rfl Try.runUnderlying55 rfl rfl Try.sizeOf22 rfl) rfl rfl rfl ?_
  refine WL.det (op_load1 (i := 0) rfl Try.isAgg22 r2.rng rfl rfl) rfl rfl rfl ?_
  refine WL.call (oc_call (vs := [vF ra, vF ra']) (cap := []) rfl rfl rfl Try.call28 (c_l01Same ra ra ra' ra' rfl rfl w2)) rfl rfl (ltb rfl) ?_
  rintro _ _ ⟨rfl, rfl⟩
  refine WL.det (op_not rfl) rfl rfl rfl ?_
  refine WL.det (op_move rfl) rfl rfl rfl ?_
  rcases Bool.eq_false_or_eq_true (cn .f32 ra == cn .f32 ra') with hb1 | hb1
  · have hp1 := hb1; try simp only [Bool.and_eq_true, Bool.or_eq_true, Bool.not_eq_true', Bool.not_eq_false', Bool.and_eq_false_iff, Bool.or_eq_false_iff, decide_eq_true_eq, decide_eq_false_iff_not, beq_iff_eq, bne_iff_ne, beq_eq_false_iff_ne, bne_eq_false_iff_eq, ne_eq, Bool.false_eq_true, not_false_eq_true, not_true_eq_false, vIn_t, vIn_f] at hp1
    refine WL.yes rfl rfl rfl (ltb rfl) rfl (bnot_t hb1) ?_
    refine WL.det (op_fieldAddr (off' := 1) rfl Try.runUnderlying55 rfl rfl Try.sizeOf51 rfl) rfl rfl rfl ?_
    refine WL.yes rfl rfl rfl (ltb rfl) rfl (bnot_t hb1) ?_
    refine WL.det (op_loadA (i := 1) (cs := [vF ba, vF oc, .slice AD nD cD]) rfl Try.isAgg51 Try.sizeOf51 (r1.ext m2).rng rfl rfl rfl) rfl rfl rfl ?_
    refine WL.yes rfl rfl rfl (ltb rfl) rfl (bnot_t hb1) ?_
    refine WL.det (op_fieldAddr (off' := 1) rfl Try.runUnderlying55 rfl rfl Try.sizeOf51 rfl) rfl rfl rfl ?_
    refine WL.yes rfl rfl rfl (ltb rfl) rfl (bnot_t hb1) ?_
    refine WL.det (op_loadA (i := 1) (cs := [vF ba', vF oc', .slice AD' nD' cD']) rfl Try.isAgg51 Try.sizeOf51 r2.rng rfl rfl rfl) rfl rfl rfl ?_
    refine WL.yes rfl rfl rfl (ltb rfl) rfl (bnot_t hb1) ?_
    refine WL.call (oc_call (vs := [.agg #[vF ba, vF oc, .slice AD nD cD], .agg #[vF ba', vF oc', .slice AD' nD' cD']]) (cap := []) rfl rfl rfl Try.call29 (c_sSameTuning ba oc nD cD AD bD oD esD ba' oc' nD' cD' AD' bD' oD' esD' lnD hAD (by omega) lnD' hAD' (by omega) w2 ((rD.ext m1).ext m2) ((rD'.ext m1).ext m2))) rfl rfl (ltb rfl) ?_
    rintro _ w3 ⟨rfl, m3⟩
    refine WL.yes rfl rfl rfl (ltb rfl) rfl (bnot_t hb1) ?_
    refine WL.det (op_not rfl) rfl rfl rfl ?_
    refine WL.det (op_pick_f rfl (bnot_t hb1) rfl) rfl rfl rfl ?_
    refine WL.det (op_move rfl) rfl rfl rfl ?_
    rcases Bool.eq_false_or_eq_true (tuSame ba oc esD nD ba' oc' esD' nD') with hb2 | hb2
    · refine WL.yes rfl rfl rfl (ltb rfl) rfl (bnot_t hb2) ?_
      refine WL.det (op_fieldAddr (off' := 4) rfl Try.runUnderlying55 rfl rfl Try.sizeOf52 rfl) rfl rfl rfl ?_
      refine WL.yes rfl rfl rfl (ltb rfl) rfl (bnot_t hb2) ?_
      refine WL.det (op_load1 (i := 4) rfl Try.isAgg52 ((r1.ext m2).ext m3).rng rfl rfl) rfl rfl rfl ?_
      refine WL.yes rfl rfl rfl (ltb rfl) rfl (bnot_t hb2) ?_
      refine WL.det (op_fieldAddr (off' := 4) rfl Try.runUnderlying55 rfl rfl Try.sizeOf52 rfl) rfl rfl rfl ?_
      refine WL.yes rfl rfl rfl (ltb rfl) rfl (bnot_t hb2) ?_
      refine WL.det (op_load1 (i := 4) rfl Try.isAgg52 (r2.ext m3).rng rfl rfl) rfl rfl rfl ?_
      refine WL.yes rfl rfl rfl (ltb rfl) rfl (bnot_t hb2) ?_
      refine WL.call (oc_call (vs := [.slice AI nI cI, .slice AI' nI' cI']) (cap := []) rfl rfl rfl Try.call30 (c_l08SameIns nI cI AI bI oI esI nI' cI' AI' bI' oI' esI' lnI hAI lnI' hAI' (by omega) (by omega) w3 (((rI.ext m1).ext m2).ext m3) (((rI'.ext m1).ext m2).ext m3))) rfl rfl (ltb rfl) ?_
      rintro _ w4 ⟨rfl, m4⟩
      refine WL.yes rfl rfl rfl (ltb rfl) rfl (bnot_t hb2) ?_
      refine WL.det (op_not rfl) rfl rfl rfl ?_
      refine WL.det (op_pick_f rfl (bnot_t hb2) rfl) rfl rfl rfl ?_
      refine WL.det (op_move rfl) rfl rfl rfl ?_
      rcases Bool.eq_false_or_eq_true (sameL inSame InR.d esI nI esI' nI') with hb3 | hb3
      · refine WL.yes rfl rfl rfl (ltb rfl) rfl (bnot_t hb3) ?_
        refine WL.det (op_fieldAddr (off' := 5) rfl Try.runUnderlying55 rfl rfl Try.sizeOf53 rfl) rfl rfl rfl ?_
        refine WL.yes rfl rfl rfl (ltb rfl) rfl (bnot_t hb3) ?_
        refine WL.det (op_load1 (i := 5) rfl Try.isAgg53 (((r1.ext m2).ext m3).ext m4).rng rfl rfl) rfl rfl rfl ?_
        refine WL.yes rfl rfl rfl (ltb rfl) rfl (bnot_t hb3) ?_
        refine WL.det (op_len rfl Try.runUnderlying53) rfl rfl rfl ?_
        refine WL.yes rfl rfl rfl (ltb rfl) rfl (bnot_t hb3) ?_
        refine WL.det (op_fieldAddr (off' := 5) rfl Try.runUnderlying55 rfl rfl Try.sizeOf53 rfl) rfl rfl rfl ?_
        refine WL.yes rfl rfl rfl (ltb rfl) rfl (bnot_t hb3) ?_
        refine WL.det (op_load1 (i := 5) rfl Try.isAgg53 ((r2.ext m3).ext m4).rng rfl rfl) rfl rfl rfl ?_
        refine WL.yes rfl rfl rfl (ltb rfl) rfl (bnot_t hb3) ?_
        refine WL.det (op_len rfl Try.runUnderlying53) rfl rfl rfl ?_
        refine WL.yes rfl rfl rfl (ltb rfl) rfl (bnot_t hb3) ?_
        refine WL.det (op_nei rfl rfl) rfl rfl rfl ?_
        refine WL.det (op_pick_f rfl (bnot_t hb3) rfl) rfl rfl rfl ?_
        refine WL.end ?_
        refine NE.code ?_
        rcases Bool.eq_false_or_eq_true ((((nE : Nat) : Int) != ((nE' : Nat) : Int))) with hb4 | hb4
        · have hp4 := hb4; try simp only [Bool.and_eq_true, Bool.or_eq_true, Bool.not_eq_true', Bool.not_eq_false', Bool.and_eq_false_iff, Bool.or_eq_false_iff, decide_eq_true_eq, decide_eq_false_iff_not, beq_iff_eq, bne_iff_ne, beq_eq_false_iff_ne, bne_eq_false_iff_eq, ne_eq, Bool.false_eq_true, not_false_eq_true, not_true_eq_false, vIn_t, vIn_f] at hp4
          refine CE.cond_t rfl hb4 ?_
          refine CE.seq ?_
          refine CE.region ?_
          refine WL.det (op_assign rfl) rfl rfl rfl ?_
          refine WL.end ?_
          refine NE.code ?_
          refine CE.ret' ?_
          refine XE.ret_then ?_
          refine XE.leave1 Try.results11 rfl ?_
          refine ⟨?_, (((((Mod.refl [] w).nt m1).nt m2).nt m3).nt m4)⟩
          all_goals first | (rw [sameL_ne (s := evSame) (d := EvR.d) (es := esE) (n := nE) (fs := esE') (m := nE') (by omega), Bool.and_false]; done) | (rw [sameL_out (s := evSame) (d := EvR.d) (es := esE) (n := nE) (fs := esE') (m := nE') (i := i) (by omega) (by first | exact ev_o0 (by assumption) | exact ev_o1 (by assumption) | exact ev_o2 (by assumption) | exact ev_o3 (by assumption) | exact ev_o4 (by assumption) | exact ev_o5 (by assumption)), Bool.and_false]; done) | (rw [sameL_all (s := evSame) (d := EvR.d) (es := esE) (n := nE) (fs := esE') (m := nE') (i := i) (by omega) hu (by omega), Bool.and_true]; simp_all; done) | (simp_all; done)
        · have hp4 := hb4; try simp only [Bool.and_eq_true, Bool.or_eq_true, Bool.not_eq_true', Bool.not_eq_false', Bool.and_eq_false_iff, Bool.or_eq_false_iff, decide_eq_true_eq, decide_eq_false_iff_not, beq_iff_eq, bne_iff_ne, beq_eq_false_iff_ne, bne_eq_false_iff_eq, ne_eq, Bool.false_eq_true, not_false_eq_true, not_true_eq_false, vIn_t, vIn_f] at hp4
          refine CE.cond_f rfl hb4 ?_
          refine CE.skip' ?_
          refine NE.code ?_
          refine CE.seq ?_
          refine CE.seq ?_
          refine CE.region ?_
          refine WL.det (op_assign rfl) rfl rfl rfl ?_
          refine WL.end ?_
          refine NE.code ?_
          refine CE.block ?_
          refine CE.loop (fun (i : Nat) => [(5, vI ((i : Nat) : Int)), (2, vP w.heap.size 0), (3, vP w1.heap.size 0), (4, .bool false)]) (fun (i : Nat) => fun W => (i ≤ nE) ∧ (allR evSame EvR.d esE esE' i = true) ∧ Mod [] w4 W) (fun (i : Nat) => nE - i) 0 (⟨rfl, rfl, rfl, rfl, trivial⟩) ⟨(by omega), (by rfl), Mod.refl _ _⟩ ?_
          rintro i w5 ⟨hi, hu, m5⟩
          show CE _ _ _ _ [(5, vI ((i : Nat) : Int)), (2, vP w.heap.size 0), (3, vP w1.heap.size 0), (4, .bool false)] _
          refine CE.seq ?_
          refine CE.seq ?_
          refine CE.region ?_
          refine WL.det (op_move rfl) rfl rfl rfl ?_
          refine WL.det (op_fieldAddr (off' := 5) rfl Try.runUnderlying55 rfl rfl Try.sizeOf53 rfl) rfl rfl rfl ?_
          refine WL.det (op_load1 (i := 5) rfl Try.isAgg53 ((((r1.ext m2).ext m3).ext m4).ext m5).rng rfl rfl) rfl rfl rfl ?_
          refine WL.det (op_len rfl Try.runUnderlying53) rfl rfl rfl ?_
          refine WL.det (op_lti rfl rfl) rfl rfl rfl ?_
          refine WL.end ?_
          refine NE.code ?_
          rcases Bool.eq_false_or_eq_true (decide (((i : Nat) : Int) < ((nE : Nat) : Int))) with hb5 | hb5
          · have hp5 := hb5; try simp only [Bool.and_eq_true, Bool.or_eq_true, Bool.not_eq_true', Bool.not_eq_false', Bool.and_eq_false_iff, Bool.or_eq_false_iff, decide_eq_true_eq, decide_eq_false_iff_not, beq_iff_eq, bne_iff_ne, beq_eq_false_iff_ne, bne_eq_false_iff_eq, ne_eq, Bool.false_eq_true, not_false_eq_true, not_true_eq_false, vIn_t, vIn_f] at hp5
            refine CE.cond_t rfl hb5 ?_
            refine CE.skip' ?_
            refine NE.code ?_
            refine CE.seq ?_
            refine CE.block ?_
            refine CE.seq ?_
            refine CE.region ?_
            refine WL.det (op_fieldAddr (off' := 5) rfl Try.runUnderlying55 rfl rfl Try.sizeOf53 rfl) rfl rfl rfl ?_
            refine WL.det (op_load1 (i := 5) rfl Try.isAgg53 ((((r1.ext m2).ext m3).ext m4).ext m5).rng rfl rfl) rfl rfl rfl ?_
            refine WL.det (op_move rfl) rfl rfl rfl ?_
            refine WL.det (op_indexSl (off' := oE + i * 6) rfl (hAE (by omega)) rfl Try.runUnderlying53 Try.sizeOf73 (by omega) (by omega) (by omega)) rfl rfl rfl ?_
            refine WL.det (op_loadA (i := i * 6) (cs := [vI ((esE.getD i EvR.d).at_), vI ((esE.getD i EvR.d).kind), vI ((esE.getD i EvR.d).note), vI ((esE.getD i EvR.d).ins), vI ((esE.getD i EvR.d).key), vF ((esE.getD i EvR.d).force)]) rfl Try.isAgg73 Try.sizeOf73 (((((rE.ext m1).ext m2).ext m3).ext m4).ext m5) rfl (cat_at (f := EvR.cells) (m := 6) (i := i) (d := EvR.d) (fun _ => rfl) (by have eL : List.length esE = nE := lnE; omega)) rfl) rfl rfl rfl ?_
            refine WL.op (op_alloc (cs := [vI 0, vI 0, vI 0, vI 0, vI 0, vF 0]) Try.zeroValue73 rfl) rfl rfl (ltb rfl) ?_
            rintro _ w6 ⟨rfl, r3, m6, z3⟩
            refine WL.op0 (op_store (i := 0) (cs := [vI ((esE.getD i EvR.d).at_), vI ((esE.getD i EvR.d).kind), vI ((esE.getD i EvR.d).note), vI ((esE.getD i EvR.d).ins), vI ((esE.getD i EvR.d).key), vF ((esE.getD i EvR.d).force)]) rfl rfl rfl Try.sizeOf73 rfl r3 rfl (lB rfl) rfl) rfl rfl ?_
            rintro _ w7 ⟨r4, m7, z4⟩
            have r5 : Row w7 w5.heap.size 0 [vI ((esE.getD i EvR.d).at_), vI ((esE.getD i EvR.d).kind), vI ((esE.getD i EvR.d).note), vI ((esE.getD i EvR.d).ins), vI ((esE.getD i EvR.d).key), vF ((esE.getD i EvR.d).force)] := Row.congr r4 rfl
            refine WL.end ?_
            refine NE.code ?_
            refine CE.seq ?_
            refine CE.region ?_
            refine WL.det (op_fieldAddr (off' := 5) rfl Try.runUnderlying55 rfl rfl Try.sizeOf53 rfl) rfl rfl rfl ?_
            refine WL.det (op_load1 (i := 5) rfl Try.isAgg53 (((((r2.ext m3).ext m4).ext m5).ext m6).mod m7 (nC (lE (lL (lL r2.lt (lT (lT m3.size m4.size) m5.size)) lR)) nN)).rng rfl rfl) rfl rfl rfl ?_
            refine WL.det (op_move rfl) rfl rfl rfl ?_
            refine WL.det (op_indexSl (off' := oE' + i * 6) rfl (hAE' (by omega)) rfl Try.runUnderlying53 Try.sizeOf73 (by omega) (by omega) (by omega)) rfl rfl rfl ?_
            refine WL.det (op_loadA (i := i * 6) (cs := [vI ((esE'.getD i EvR.d).at_), vI ((esE'.getD i EvR.d).kind), vI ((esE'.getD i EvR.d).note), vI ((esE'.getD i EvR.d).ins), vI ((esE'.getD i EvR.d).key), vF ((esE'.getD i EvR.d).force)]) rfl Try.isAgg73 Try.sizeOf73 (Rng.youngS rE' ((((((rE'.ext m1).ext m2).ext m3).ext m4).ext m5).ext m6) m7 (allge_cons (lT (lT (lT (lT (lT m1.size m2.size) m3.size) m4.size) m5.size) lR) allge_nil)) rfl (cat_at (f := EvR.cells) (m := 6) (i := i) (d := EvR.d) (fun _ => rfl) (by have eL : List.length esE' = nE' := lnE'; omega)) rfl) rfl rfl rfl ?_
            refine WL.op (op_alloc (cs := [vI 0, vI 0, vI 0, vI 0, vI 0, vF 0]) Try.zeroValue73 rfl) rfl rfl (ltb rfl) ?_
            rintro _ w8 ⟨rfl, r6, m8, z5⟩
            refine WL.op0 (op_store (i := 0) (cs := [vI ((esE'.getD i EvR.d).at_), vI ((esE'.getD i EvR.d).kind), vI ((esE'.getD i EvR.d).note), vI ((esE'.getD i EvR.d).ins), vI ((esE'.getD i EvR.d).key), vF ((esE'.getD i EvR.d).force)]) rfl rfl rfl Try.sizeOf73 rfl r6 rfl (lB rfl) rfl) rfl rfl ?_
            rintro _ w9 ⟨r7, m9, z6⟩
            have r8 : Row w9 w7.heap.size 0 [vI ((esE'.getD i EvR.d).at_), vI ((esE'.getD i EvR.d).kind), vI ((esE'.getD i EvR.d).note), vI ((esE'.getD i EvR.d).ins), vI ((esE'.getD i EvR.d).key), vF ((esE'.getD i EvR.d).force)] := Row.congr r7 rfl
            refine WL.end ?_
            refine NE.code ?_
            refine CE.seq ?_
            refine CE.region ?_
            refine WL.det (op_fieldAddr (off' := 0) rfl Try.runUnderlying73 rfl rfl Try.sizeOf2 rfl) rfl rfl rfl ?_
            refine WL.det (op_load1 (i := 0) rfl Try.isAgg2 ((r5.ext m8).mod m9 (nC (lE (lL (lL r3.lt m7.size) lR)) nN)).rng rfl rfl) rfl rfl rfl ?_
            refine WL.det (op_fieldAddr (off' := 0) rfl Try.runUnderlying73 rfl rfl Try.sizeOf2 rfl) rfl rfl rfl ?_
            refine WL.det (op_load1 (i := 0) rfl Try.isAgg2 r8.rng rfl rfl) rfl rfl rfl ?_
            refine WL.det (op_nei rfl rfl) rfl rfl rfl ?_
            refine WL.det (op_move rfl) rfl rfl rfl ?_
            rcases Bool.eq_false_or_eq_true ((((esE.getD i EvR.d).at_) != ((esE'.getD i EvR.d).at_))) with hb6 | hb6
            · have hp6 := hb6; try simp only [Bool.and_eq_true, Bool.or_eq_true, Bool.not_eq_true', Bool.not_eq_false', Bool.and_eq_false_iff, Bool.or_eq_false_iff, decide_eq_true_eq, decide_eq_false_iff_not, beq_iff_eq, bne_iff_ne, beq_eq_false_iff_ne, bne_eq_false_iff_eq, ne_eq, Bool.false_eq_true, not_false_eq_true, not_true_eq_false, vIn_t, vIn_f] at hp6
              refine WL.no rfl rfl rfl (ltb rfl) rfl hb6 rfl (ltb rfl) ?_
              refine WL.no rfl rfl rfl (ltb rfl) rfl hb6 rfl (ltb rfl) ?_
              refine WL.no rfl rfl rfl (ltb rfl) rfl hb6 rfl (ltb rfl) ?_
              refine WL.no rfl rfl rfl (ltb rfl) rfl hb6 rfl (ltb rfl) ?_
              refine WL.no rfl rfl rfl (ltb rfl) rfl hb6 rfl (ltb rfl) ?_
              refine WL.det (op_pick_t rfl hb6 rfl) rfl rfl rfl ?_
              refine WL.det (op_move rfl) rfl rfl rfl ?_
              refine WL.no rfl rfl rfl (ltb rfl) rfl rfl rfl (ltb rfl) ?_
              refine WL.no rfl rfl rfl (ltb rfl) rfl rfl rfl (ltb rfl) ?_
              refine WL.no rfl rfl rfl (ltb rfl) rfl rfl rfl (ltb rfl) ?_
              refine WL.no rfl rfl rfl (ltb rfl) rfl rfl rfl (ltb rfl) ?_
              refine WL.no rfl rfl rfl (ltb rfl) rfl rfl rfl (ltb rfl) ?_
              refine WL.det (op_pick_t rfl rfl rfl) rfl rfl rfl ?_
              refine WL.det (op_move rfl) rfl rfl rfl ?_
              refine WL.no rfl rfl rfl (ltb rfl) rfl rfl rfl (ltb rfl) ?_
              refine WL.no rfl rfl rfl (ltb rfl) rfl rfl rfl (ltb rfl) ?_
              refine WL.no rfl rfl rfl (ltb rfl) rfl rfl rfl (ltb rfl) ?_
              refine WL.no rfl rfl rfl (ltb rfl) rfl rfl rfl (ltb rfl) ?_
              refine WL.no rfl rfl rfl (ltb rfl) rfl rfl rfl (ltb rfl) ?_
              refine WL.det (op_pick_t rfl rfl rfl) rfl rfl rfl ?_
              refine WL.det (op_move rfl) rfl rfl rfl ?_
              refine WL.no rfl rfl rfl (ltb rfl) rfl rfl rfl (ltb rfl) ?_
              refine WL.no rfl rfl rfl (ltb rfl) rfl rfl rfl (ltb rfl) ?_
              refine WL.no rfl rfl rfl (ltb rfl) rfl rfl rfl (ltb rfl) ?_
              refine WL.no rfl rfl rfl (ltb rfl) rfl rfl rfl (ltb rfl) ?_
              refine WL.no rfl rfl rfl (ltb rfl) rfl rfl rfl (ltb rfl) ?_
              refine WL.det (op_pick_t rfl rfl rfl) rfl rfl rfl ?_
              refine WL.det (op_move rfl) rfl rfl rfl ?_
              refine WL.no rfl rfl rfl (ltb rfl) rfl rfl rfl (ltb rfl) ?_
              refine WL.no rfl rfl rfl (ltb rfl) rfl rfl rfl (ltb rfl) ?_
              refine WL.no rfl rfl rfl (ltb rfl) rfl rfl rfl (ltb rfl) ?_
              refine WL.no rfl rfl rfl (ltb rfl) rfl rfl rfl (ltb rfl) ?_
              refine WL.no rfl rfl rfl (ltb rfl) rfl rfl rfl (ltb rfl) ?_
              refine WL.no rfl rfl rfl (ltb rfl) rfl rfl rfl (ltb rfl) ?_
              refine WL.det (op_pick_t rfl rfl rfl) rfl rfl rfl ?_
              refine WL.end ?_
              refine NE.code ?_
              refine CE.cond_t rfl rfl ?_
              refine CE.seq ?_
              refine CE.region ?_
              refine WL.det (op_assign rfl) rfl rfl rfl ?_
              refine WL.end ?_
              refine NE.code ?_
              refine CE.ret' ?_
              refine XE.ret_blk ?_
              refine XE.ret_then ?_
              refine XE.ret_then ?_
              refine XE.ret_blk ?_
              refine XE.ret_then ?_
              refine XE.leave1 Try.results11 rfl ?_
              refine ⟨?_, ((((((((((Mod.refl [] w).nt m1).nt m2).nt m3).nt m4).nt m5).nt m6).then m7 ((aC (.inr (lT (lT (lT (lT (lT m1.size m2.size) m3.size) m4.size) m5.size) lR)) aN))).nt m8).then m9 ((aC (.inr (lT (lT (lT (lT (lT (lT (lT m1.size m2.size) m3.size) m4.size) m5.size) m6.size) m7.size) lR)) aN)))⟩
              all_goals first | (rw [sameL_ne (s := evSame) (d := EvR.d) (es := esE) (n := nE) (fs := esE') (m := nE') (by omega), Bool.and_false]; done) | (rw [sameL_out (s := evSame) (d := EvR.d) (es := esE) (n := nE) (fs := esE') (m := nE') (i := i) (by omega) (by first | exact ev_o0 (by assumption) | exact ev_o1 (by assumption) | exact ev_o2 (by assumption) | exact ev_o3 (by assumption) | exact ev_o4 (by assumption) | exact ev_o5 (by assumption)), Bool.and_false]; done) | (rw [sameL_all (s := evSame) (d := EvR.d) (es := esE) (n := nE) (fs := esE') (m := nE') (i := i) (by omega) hu (by omega), Bool.and_true]; simp_all; done) | (simp_all; done)
            · have hp6 := hb6; try simp only [Bool.and_eq_true, Bool.or_eq_true, Bool.not_eq_true', Bool.not_eq_false', Bool.and_eq_false_iff, Bool.or_eq_false_iff, decide_eq_true_eq, decide_eq_false_iff_not, beq_iff_eq, bne_iff_ne, beq_eq_false_iff_ne, bne_eq_false_iff_eq, ne_eq, Bool.false_eq_true, not_false_eq_true, not_true_eq_false, vIn_t, vIn_f] at hp6
              refine WL.yes rfl rfl rfl (ltb rfl) rfl hb6 ?_
              refine WL.det (op_fieldAddr (off' := 1) rfl Try.runUnderlying73 rfl rfl Try.sizeOf2 rfl) rfl rfl rfl ?_
              refine WL.yes rfl rfl rfl (ltb rfl) rfl hb6 ?_
              refine WL.det (op_load1 (i := 1) rfl Try.isAgg2 ((r5.ext m8).mod m9 (nC (lE (lL (lL r3.lt m7.size) lR)) nN)).rng rfl rfl) rfl rfl rfl ?_
              refine WL.yes rfl rfl rfl (ltb rfl) rfl hb6 ?_
              refine WL.det (op_fieldAddr (off' := 1) rfl Try.runUnderlying73 rfl rfl Try.sizeOf2 rfl) rfl rfl rfl ?_
              refine WL.yes rfl rfl rfl (ltb rfl) rfl hb6 ?_
              refine WL.det (op_load1 (i := 1) rfl Try.isAgg2 r8.rng rfl rfl) rfl rfl rfl ?_
              refine WL.yes rfl rfl rfl (ltb rfl) rfl hb6 ?_
              refine WL.det (op_nei rfl rfl) rfl rfl rfl ?_
              refine WL.det (op_pick_f rfl hb6 rfl) rfl rfl rfl ?_
              refine WL.det (op_move rfl) rfl rfl rfl ?_
              rcases Bool.eq_false_or_eq_true ((((esE.getD i EvR.d).kind) != ((esE'.getD i EvR.d).kind))) with hb7 | hb7
              · have hp7 := hb7; try simp only [Bool.and_eq_true, Bool.or_eq_true, Bool.not_eq_true', Bool.not_eq_false', Bool.and_eq_false_iff, Bool.or_eq_false_iff, decide_eq_true_eq, decide_eq_false_iff_not, beq_iff_eq, bne_iff_ne, beq_eq_false_iff_ne, bne_eq_false_iff_eq, ne_eq, Bool.false_eq_true, not_false_eq_true, not_true_eq_false, vIn_t, vIn_f] at hp7
                refine WL.no rfl rfl rfl (ltb rfl) rfl hb7 rfl (ltb rfl) ?_
                refine WL.no rfl rfl rfl (ltb rfl) rfl hb7 rfl (ltb rfl) ?_
                refine WL.no rfl rfl rfl (ltb rfl) rfl hb7 rfl (ltb rfl) ?_
                refine WL.no rfl rfl rfl (ltb rfl) rfl hb7 rfl (ltb rfl) ?_
                refine WL.no rfl rfl rfl (ltb rfl) rfl hb7 rfl (ltb rfl) ?_
                refine WL.det (op_pick_t rfl hb7 rfl) rfl rfl rfl ?_
                refine WL.det (op_move rfl) rfl rfl rfl ?_
                refine WL.no rfl rfl rfl (ltb rfl) rfl rfl rfl (ltb rfl) ?_
                refine WL.no rfl rfl rfl (ltb rfl) rfl rfl rfl (ltb rfl) ?_
                refine WL.no rfl rfl rfl (ltb rfl) rfl rfl rfl (ltb rfl) ?_
                refine WL.no rfl rfl rfl (ltb rfl) rfl rfl rfl (ltb rfl) ?_
                refine WL.no rfl rfl rfl (ltb rfl) rfl rfl rfl (ltb rfl) ?_
                refine WL.det (op_pick_t rfl rfl rfl) rfl rfl rfl ?_
                refine WL.det (op_move rfl) rfl rfl rfl ?_
                refine WL.no rfl rfl rfl (ltb rfl) rfl rfl rfl (ltb rfl) ?_
                refine WL.no rfl rfl rfl (ltb rfl) rfl rfl rfl (ltb rfl) ?_
                refine WL.no rfl rfl rfl (ltb rfl) rfl rfl rfl (ltb rfl) ?_
                refine WL.no rfl rfl rfl (ltb rfl) rfl rfl rfl (ltb rfl) ?_
                refine WL.no rfl rfl rfl (ltb rfl) rfl rfl rfl (ltb rfl) ?_
                refine WL.det (op_pick_t rfl rfl rfl) rfl rfl rfl ?_
                refine WL.det (op_move rfl) rfl rfl rfl ?_
                refine WL.no rfl rfl rfl (ltb rfl) rfl rfl rfl (ltb rfl) ?_
                refine WL.no rfl rfl rfl (ltb rfl) rfl rfl rfl (ltb rfl) ?_
                refine WL.no rfl rfl rfl (ltb rfl) rfl rfl rfl (ltb rfl) ?_
                refine WL.no rfl rfl rfl (ltb rfl) rfl rfl rfl (ltb rfl) ?_
                refine WL.no rfl rfl rfl (ltb rfl) rfl rfl rfl (ltb rfl) ?_
                refine WL.no rfl rfl rfl (ltb rfl) rfl rfl rfl (ltb rfl) ?_
                refine WL.det (op_pick_t rfl rfl rfl) rfl rfl rfl ?_
                refine WL.end ?_
                refine NE.code ?_
                refine CE.cond_t rfl rfl ?_
                refine CE.seq ?_
                refine CE.region ?_
                refine WL.det (op_assign rfl) rfl rfl rfl ?_
                refine WL.end ?_
                refine NE.code ?_
                refine CE.ret' ?_
                refine XE.ret_blk ?_
                refine XE.ret_then ?_
                refine XE.ret_then ?_
                refine XE.ret_blk ?_
                refine XE.ret_then ?_
                refine XE.leave1 Try.results11 rfl ?_
                refine ⟨?_, ((((((((((Mod.refl [] w).nt m1).nt m2).nt m3).nt m4).nt m5).nt m6).then m7 ((aC (.inr (lT (lT (lT (lT (lT m1.size m2.size) m3.size) m4.size) m5.size) lR)) aN))).nt m8).then m9 ((aC (.inr (lT (lT (lT (lT (lT (lT (lT m1.size m2.size) m3.size) m4.size) m5.size) m6.size) m7.size) lR)) aN)))⟩
                all_goals first | (rw [sameL_ne (s := evSame) (d := EvR.d) (es := esE) (n := nE) (fs := esE') (m := nE') (by omega), Bool.and_false]; done) | (rw [sameL_out (s := evSame) (d := EvR.d) (es := esE) (n := nE) (fs := esE') (m := nE') (i := i) (by omega) (by first | exact ev_o0 (by assumption) | exact ev_o1 (by assumption) | exact ev_o2 (by assumption) | exact ev_o3 (by assumption) | exact ev_o4 (by assumption) | exact ev_o5 (by assumption)), Bool.and_false]; done) | (rw [sameL_all (s := evSame) (d := EvR.d) (es := esE) (n := nE) (fs := esE') (m := nE') (i := i) (by omega) hu (by omega), Bool.and_true]; simp_all; done) | (simp_all; done)
              · have hp7 := hb7; try simp only [Bool.and_eq_true, Bool.or_eq_true, Bool.not_eq_true', Bool.not_eq_false', Bool.and_eq_false_iff, Bool.or_eq_false_iff, decide_eq_true_eq, decide_eq_false_iff_not, beq_iff_eq, bne_iff_ne, beq_eq_false_iff_ne, bne_eq_false_iff_eq, ne_eq, Bool.false_eq_true, not_false_eq_true, not_true_eq_false, vIn_t, vIn_f] at hp7
                refine WL.yes rfl rfl rfl (ltb rfl) rfl hb7 ?_
                refine WL.det (op_fieldAddr (off' := 2) rfl Try.runUnderlying73 rfl rfl Try.sizeOf2 rfl) rfl rfl rfl ?_
                refine WL.yes rfl rfl rfl (ltb rfl) rfl hb7 ?_
                refine WL.det (op_load1 (i := 2) rfl Try.isAgg2 ((r5.ext m8).mod m9 (nC (lE (lL (lL r3.lt m7.size) lR)) nN)).rng rfl rfl) rfl rfl rfl ?_
                refine WL.yes rfl rfl rfl (ltb rfl) rfl hb7 ?_
                refine WL.det (op_fieldAddr (off' := 2) rfl Try.runUnderlying73 rfl rfl Try.sizeOf2 rfl) rfl rfl rfl ?_
                refine WL.yes rfl rfl rfl (ltb rfl) rfl hb7 ?_
                refine WL.det (op_load1 (i := 2) rfl Try.isAgg2 r8.rng rfl rfl) rfl rfl rfl ?_
                refine WL.yes rfl rfl rfl (ltb rfl) rfl hb7 ?_
                refine WL.det (op_nei rfl rfl) rfl rfl rfl ?_
                refine WL.det (op_pick_f rfl hb7 rfl) rfl rfl rfl ?_
                refine WL.det (op_move rfl) rfl rfl rfl ?_
                rcases Bool.eq_false_or_eq_true ((((esE.getD i EvR.d).note) != ((esE'.getD i EvR.d).note))) with hb8 | hb8
                · have hp8 := hb8; try simp only [Bool.and_eq_true, Bool.or_eq_true, Bool.not_eq_true', Bool.not_eq_false', Bool.and_eq_false_iff, Bool.or_eq_false_iff, decide_eq_true_eq, decide_eq_false_iff_not, beq_iff_eq, bne_iff_ne, beq_eq_false_iff_ne, bne_eq_false_iff_eq, ne_eq, Bool.false_eq_true, not_false_eq_true, not_true_eq_false, vIn_t, vIn_f] at hp8
                  refine WL.no rfl rfl rfl (ltb rfl) rfl hb8 rfl (ltb rfl) ?_
                  refine WL.no rfl rfl rfl (ltb rfl) rfl hb8 rfl (ltb rfl) ?_
                  refine WL.no rfl rfl rfl (ltb rfl) rfl hb8 rfl (ltb rfl) ?_
                  refine WL.no rfl rfl rfl (ltb rfl) rfl hb8 rfl (ltb rfl) ?_
                  refine WL.no rfl rfl rfl (ltb rfl) rfl hb8 rfl (ltb rfl) ?_
                  refine WL.det (op_pick_t rfl hb8 rfl) rfl rfl rfl ?_
                  refine WL.det (op_move rfl) rfl rfl rfl ?_
                  refine WL.no rfl rfl rfl (ltb rfl) rfl rfl rfl (ltb rfl) ?_
                  refine WL.no rfl rfl rfl (ltb rfl) rfl rfl rfl (ltb rfl) ?_
                  refine WL.no rfl rfl rfl (ltb rfl) rfl rfl rfl (ltb rfl) ?_
                  refine WL.no rfl rfl rfl (ltb rfl) rfl rfl rfl (ltb rfl) ?_
                  refine WL.no rfl rfl rfl (ltb rfl) rfl rfl rfl (ltb rfl) ?_
                  refine WL.det (op_pick_t rfl rfl rfl) rfl rfl rfl ?_
                  refine WL.det (op_move rfl) rfl rfl rfl ?_
                  refine WL.no rfl rfl rfl (ltb rfl) rfl rfl rfl (ltb rfl) ?_
                  refine WL.no rfl rfl rfl (ltb rfl) rfl rfl rfl (ltb rfl) ?_
                  refine WL.no rfl rfl rfl (ltb rfl) rfl rfl rfl (ltb rfl) ?_
                  refine WL.no rfl rfl rfl (ltb rfl) rfl rfl rfl (ltb rfl) ?_
                  refine WL.no rfl rfl rfl (ltb rfl) rfl rfl rfl (ltb rfl) ?_
                  refine WL.no rfl rfl rfl (ltb rfl) rfl rfl rfl (ltb rfl) ?_
                  refine WL.det (op_pick_t rfl rfl rfl) rfl rfl rfl ?_
                  refine WL.end ?_
                  refine NE.code ?_
                  refine CE.cond_t rfl rfl ?_
                  refine CE.seq ?_
                  refine CE.region ?_
                  refine WL.det (op_assign rfl) rfl rfl rfl ?_
                  refine WL.end ?_
                  refine NE.code ?_
                  refine CE.ret' ?_
                  refine XE.ret_blk ?_
                  refine XE.ret_then ?_
                  refine XE.ret_then ?_
                  refine XE.ret_blk ?_
                  refine XE.ret_then ?_
                  refine XE.leave1 Try.results11 rfl ?_
                  refine ⟨?_, ((((((((((Mod.refl [] w).nt m1).nt m2).nt m3).nt m4).nt m5).nt m6).then m7 ((aC (.inr (lT (lT (lT (lT (lT m1.size m2.size) m3.size) m4.size) m5.size) lR)) aN))).nt m8).then m9 ((aC (.inr (lT (lT (lT (lT (lT (lT (lT m1.size m2.size) m3.size) m4.size) m5.size) m6.size) m7.size) lR)) aN)))⟩
                  all_goals first | (rw [sameL_ne (s := evSame) (d := EvR.d) (es := esE) (n := nE) (fs := esE') (m := nE') (by omega), Bool.and_false]; done) | (rw [sameL_out (s := evSame) (d := EvR.d) (es := esE) (n := nE) (fs := esE') (m := nE') (i := i) (by omega) (by first | exact ev_o0 (by assumption) | exact ev_o1 (by assumption) | exact ev_o2 (by assumption) | exact ev_o3 (by assumption) | exact ev_o4 (by assumption) | exact ev_o5 (by assumption)), Bool.and_false]; done) | (rw [sameL_all (s := evSame) (d := EvR.d) (es := esE) (n := nE) (fs := esE') (m := nE') (i := i) (by omega) hu (by omega), Bool.and_true]; simp_all; done) | (simp_all; done)
                · have hp8 := hb8; try simp only [Bool.and_eq_true, Bool.or_eq_true, Bool.not_eq_true', Bool.not_eq_false', Bool.and_eq_false_iff, Bool.or_eq_false_iff, decide_eq_true_eq, decide_eq_false_iff_not, beq_iff_eq, bne_iff_ne, beq_eq_false_iff_ne, bne_eq_false_iff_eq, ne_eq, Bool.false_eq_true, not_false_eq_true, not_true_eq_false, vIn_t, vIn_f] at hp8
                  refine WL.yes rfl rfl rfl (ltb rfl) rfl hb8 ?_
                  refine WL.det (op_fieldAddr (off' := 3) rfl Try.runUnderlying73 rfl rfl Try.sizeOf2 rfl) rfl rfl rfl ?_
                  refine WL.yes rfl rfl rfl (ltb rfl) rfl hb8 ?_
                  refine WL.det (op_load1 (i := 3) rfl Try.isAgg2 ((r5.ext m8).mod m9 (nC (lE (lL (lL r3.lt m7.size) lR)) nN)).rng rfl rfl) rfl rfl rfl ?_
                  refine WL.yes rfl rfl rfl (ltb rfl) rfl hb8 ?_
                  refine WL.det (op_fieldAddr (off' := 3) rfl Try.runUnderlying73 rfl rfl Try.sizeOf2 rfl) rfl rfl rfl ?_
                  refine WL.yes rfl rfl rfl (ltb rfl) rfl hb8 ?_
                  refine WL.det (op_load1 (i := 3) rfl Try.isAgg2 r8.rng rfl rfl) rfl rfl rfl ?_
                  refine WL.yes rfl rfl rfl (ltb rfl) rfl hb8 ?_
                  refine WL.det (op_nei rfl rfl) rfl rfl rfl ?_
                  refine WL.det (op_pick_f rfl hb8 rfl) rfl rfl rfl ?_
                  refine WL.det (op_move rfl) rfl rfl rfl ?_
                  rcases Bool.eq_false_or_eq_true ((((esE.getD i EvR.d).ins) != ((esE'.getD i EvR.d).ins))) with hb9 | hb9
                  · have hp9 := hb9; try simp only [Bool.and_eq_true, Bool.or_eq_true, Bool.not_eq_true', Bool.not_eq_false', Bool.and_eq_false_iff, Bool.or_eq_false_iff, decide_eq_true_eq, decide_eq_false_iff_not, beq_iff_eq, bne_iff_ne, beq_eq_false_iff_ne, bne_eq_false_iff_eq, ne_eq, Bool.false_eq_true, not_false_eq_true, not_true_eq_false, vIn_t, vIn_f] at hp9
                    refine WL.no rfl rfl rfl (ltb rfl) rfl hb9 rfl (ltb rfl) ?_
                    refine WL.no rfl rfl rfl (ltb rfl) rfl hb9 rfl (ltb rfl) ?_
                    refine WL.no rfl rfl rfl (ltb rfl) rfl hb9 rfl (ltb rfl) ?_
                    refine WL.no rfl rfl rfl (ltb rfl) rfl hb9 rfl (ltb rfl) ?_
                    refine WL.no rfl rfl rfl (ltb rfl) rfl hb9 rfl (ltb rfl) ?_
                    refine WL.det (op_pick_t rfl hb9 rfl) rfl rfl rfl ?_
                    refine WL.det (op_move rfl) rfl rfl rfl ?_
                    refine WL.no rfl rfl rfl (ltb rfl) rfl rfl rfl (ltb rfl) ?_
                    refine WL.no rfl rfl rfl (ltb rfl) rfl rfl rfl (ltb rfl) ?_
                    refine WL.no rfl rfl rfl (ltb rfl) rfl rfl rfl (ltb rfl) ?_
                    refine WL.no rfl rfl rfl (ltb rfl) rfl rfl rfl (ltb rfl) ?_
                    refine WL.no rfl rfl rfl (ltb rfl) rfl rfl rfl (ltb rfl) ?_
                    refine WL.no rfl rfl rfl (ltb rfl) rfl rfl rfl (ltb rfl) ?_
                    refine WL.det (op_pick_t rfl rfl rfl) rfl rfl rfl ?_
                    refine WL.end ?_
                    refine NE.code ?_
                    refine CE.cond_t rfl rfl ?_
                    refine CE.seq ?_
                    refine CE.region ?_
                    refine WL.det (op_assign rfl) rfl rfl rfl ?_
                    refine WL.end ?_
                    refine NE.code ?_
                    refine CE.ret' ?_
                    refine XE.ret_blk ?_
                    refine XE.ret_then ?_
                    refine XE.ret_then ?_
                    refine XE.ret_blk ?_
                    refine XE.ret_then ?_
                    refine XE.leave1 Try.results11 rfl ?_
                    refine ⟨?_, ((((((((((Mod.refl [] w).nt m1).nt m2).nt m3).nt m4).nt m5).nt m6).then m7 ((aC (.inr (lT (lT (lT (lT (lT m1.size m2.size) m3.size) m4.size) m5.size) lR)) aN))).nt m8).then m9 ((aC (.inr (lT (lT (lT (lT (lT (lT (lT m1.size m2.size) m3.size) m4.size) m5.size) m6.size) m7.size) lR)) aN)))⟩
                    all_goals first | (rw [sameL_ne (s := evSame) (d := EvR.d) (es := esE) (n := nE) (fs := esE') (m := nE') (by omega), Bool.and_false]; done) | (rw [sameL_out (s := evSame) (d := EvR.d) (es := esE) (n := nE) (fs := esE') (m := nE') (i := i) (by omega) (by first | exact ev_o0 (by assumption) | exact ev_o1 (by assumption) | exact ev_o2 (by assumption) | exact ev_o3 (by assumption) | exact ev_o4 (by assumption) | exact ev_o5 (by assumption)), Bool.and_false]; done) | (rw [sameL_all (s := evSame) (d := EvR.d) (es := esE) (n := nE) (fs := esE') (m := nE') (i := i) (by omega) hu (by omega), Bool.and_true]; simp_all; done) | (simp_all; done)
                  · have hp9 := hb9; try simp only [Bool.and_eq_true, Bool.or_eq_true, Bool.not_eq_true', Bool.not_eq_false', Bool.and_eq_false_iff, Bool.or_eq_false_iff, decide_eq_true_eq, decide_eq_false_iff_not, beq_iff_eq, bne_iff_ne, beq_eq_false_iff_ne, bne_eq_false_iff_eq, ne_eq, Bool.false_eq_true, not_false_eq_true, not_true_eq_false, vIn_t, vIn_f] at hp9
                    refine WL.yes rfl rfl rfl (ltb rfl) rfl hb9 ?_
                    refine WL.det (op_fieldAddr (off' := 4) rfl Try.runUnderlying73 rfl rfl Try.sizeOf2 rfl) rfl rfl rfl ?_
                    refine WL.yes rfl rfl rfl (ltb rfl) rfl hb9 ?_
                    refine WL.det (op_load1 (i := 4) rfl Try.isAgg2 ((r5.ext m8).mod m9 (nC (lE (lL (lL r3.lt m7.size) lR)) nN)).rng rfl rfl) rfl rfl rfl ?_
                    refine WL.yes rfl rfl rfl (ltb rfl) rfl hb9 ?_
                    refine WL.det (op_fieldAddr (off' := 4) rfl Try.runUnderlying73 rfl rfl Try.sizeOf2 rfl) rfl rfl rfl ?_
                    refine WL.yes rfl rfl rfl (ltb rfl) rfl hb9 ?_
                    refine WL.det (op_load1 (i := 4) rfl Try.isAgg2 r8.rng rfl rfl) rfl rfl rfl ?_
                    refine WL.yes rfl rfl rfl (ltb rfl) rfl hb9 ?_
                    refine WL.det (op_nei rfl rfl) rfl rfl rfl ?_
                    refine WL.det (op_pick_f rfl hb9 rfl) rfl rfl rfl ?_
                    refine WL.det (op_move rfl) rfl rfl rfl ?_
                    rcases Bool.eq_false_or_eq_true ((((esE.getD i EvR.d).key) != ((esE'.getD i EvR.d).key))) with hb10 | hb10
                    · have hp10 := hb10; try simp only [Bool.and_eq_true, Bool.or_eq_true, Bool.not_eq_true', Bool.not_eq_false', Bool.and_eq_false_iff, Bool.or_eq_false_iff, decide_eq_true_eq, decide_eq_false_iff_not, beq_iff_eq, bne_iff_ne, beq_eq_false_iff_ne, bne_eq_false_iff_eq, ne_eq, Bool.false_eq_true, not_false_eq_true, not_true_eq_false, vIn_t, vIn_f] at hp10
                      refine WL.no rfl rfl rfl (ltb rfl) rfl hb10 rfl (ltb rfl) ?_
                      refine WL.no rfl rfl rfl (ltb rfl) rfl hb10 rfl (ltb rfl) ?_
                      refine WL.no rfl rfl rfl (ltb rfl) rfl hb10 rfl (ltb rfl) ?_
                      refine WL.no rfl rfl rfl (ltb rfl) rfl hb10 rfl (ltb rfl) ?_
                      refine WL.no rfl rfl rfl (ltb rfl) rfl hb10 rfl (ltb rfl) ?_
                      refine WL.no rfl rfl rfl (ltb rfl) rfl hb10 rfl (ltb rfl) ?_
                      refine WL.det (op_pick_t rfl hb10 rfl) rfl rfl rfl ?_
                      refine WL.end ?_
                      refine NE.code ?_
                      refine CE.cond_t rfl rfl ?_
                      refine CE.seq ?_
                      refine CE.region ?_
                      refine WL.det (op_assign rfl) rfl rfl rfl ?_
                      refine WL.end ?_
                      refine NE.code ?_
                      refine CE.ret' ?_
                      refine XE.ret_blk ?_
                      refine XE.ret_then ?_
                      refine XE.ret_then ?_
                      refine XE.ret_blk ?_
                      refine XE.ret_then ?_
                      refine XE.leave1 Try.results11 rfl ?_
                      refine ⟨?_, ((((((((((Mod.refl [] w).nt m1).nt m2).nt m3).nt m4).nt m5).nt m6).then m7 ((aC (.inr (lT (lT (lT (lT (lT m1.size m2.size) m3.size) m4.size) m5.size) lR)) aN))).nt m8).then m9 ((aC (.inr (lT (lT (lT (lT (lT (lT (lT m1.size m2.size) m3.size) m4.size) m5.size) m6.size) m7.size) lR)) aN)))⟩
                      all_goals first | (rw [sameL_ne (s := evSame) (d := EvR.d) (es := esE) (n := nE) (fs := esE') (m := nE') (by omega), Bool.and_false]; done) | (rw [sameL_out (s := evSame) (d := EvR.d) (es := esE) (n := nE) (fs := esE') (m := nE') (i := i) (by omega) (by first | exact ev_o0 (by assumption) | exact ev_o1 (by assumption) | exact ev_o2 (by assumption) | exact ev_o3 (by assumption) | exact ev_o4 (by assumption) | exact ev_o5 (by assumption)), Bool.and_false]; done) | (rw [sameL_all (s := evSame) (d := EvR.d) (es := esE) (n := nE) (fs := esE') (m := nE') (i := i) (by omega) hu (by omega), Bool.and_true]; simp_all; done) | (simp_all; done)
                    · have hp10 := hb10; try simp only [Bool.and_eq_true, Bool.or_eq_true, Bool.not_eq_true', Bool.not_eq_false', Bool.and_eq_false_iff, Bool.or_eq_false_iff, decide_eq_true_eq, decide_eq_false_iff_not, beq_iff_eq, bne_iff_ne, beq_eq_false_iff_ne, bne_eq_false_iff_eq, ne_eq, Bool.false_eq_true, not_false_eq_true, not_true_eq_false, vIn_t, vIn_f] at hp10
                      refine WL.yes rfl rfl rfl (ltb rfl) rfl hb10 ?_
                      refine WL.det (op_fieldAddr (off' := 5) rfl Try.runUnderlying73 rfl rfl Try.sizeOf22 rfl) rfl rfl rfl ?_
                      refine WL.yes rfl rfl rfl (ltb rfl) rfl hb10 ?_
                      refine WL.det (op_load1 (i := 5) rfl Try.isAgg22 ((r5.ext m8).mod m9 (nC (lE (lL (lL r3.lt m7.size) lR)) nN)).rng rfl rfl) rfl rfl rfl ?_
                      refine WL.yes rfl rfl rfl (ltb rfl) rfl hb10 ?_
                      refine WL.det (op_fieldAddr (off' := 5) rfl Try.runUnderlying73 rfl rfl Try.sizeOf22 rfl) rfl rfl rfl ?_
                      refine WL.yes rfl rfl rfl (ltb rfl) rfl hb10 ?_
                      refine WL.det (op_load1 (i := 5) rfl Try.isAgg22 r8.rng rfl rfl) rfl rfl rfl ?_
                      refine WL.yes rfl rfl rfl (ltb rfl) rfl hb10 ?_
                      refine WL.call (oc_call (vs := [vF ((esE.getD i EvR.d).force), vF ((esE'.getD i EvR.d).force)]) (cap := []) rfl rfl rfl Try.call28 (c_l01Same ((esE.getD i EvR.d).force) ((esE.getD i EvR.d).force) ((esE'.getD i EvR.d).force) ((esE'.getD i EvR.d).force) rfl rfl w9)) rfl rfl (ltb rfl) ?_
                      rintro _ _ ⟨rfl, rfl⟩
                      refine WL.yes rfl rfl rfl (ltb rfl) rfl hb10 ?_
                      refine WL.det (op_not rfl) rfl rfl rfl ?_
                      refine WL.det (op_pick_f rfl hb10 rfl) rfl rfl rfl ?_
                      refine WL.end ?_
                      refine NE.code ?_
                      rcases Bool.eq_false_or_eq_true (cn .f32 ((esE.getD i EvR.d).force) == cn .f32 ((esE'.getD i EvR.d).force)) with hb11 | hb11
                      · have hp11 := hb11; try simp only [Bool.and_eq_true, Bool.or_eq_true, Bool.not_eq_true', Bool.not_eq_false', Bool.and_eq_false_iff, Bool.or_eq_false_iff, decide_eq_true_eq, decide_eq_false_iff_not, beq_iff_eq, bne_iff_ne, beq_eq_false_iff_ne, bne_eq_false_iff_eq, ne_eq, Bool.false_eq_true, not_false_eq_true, not_true_eq_false, vIn_t, vIn_f] at hp11
                        refine CE.cond_f rfl (bnot_t hb11) ?_
                        refine CE.skip' ?_
                        refine NE.blk ?_
                        refine NE.code ?_
                        refine CE.region ?_
                        refine WL.det (op_move rfl) rfl rfl rfl ?_
                        refine WL.det (op_add (r := ((i + 1 : Nat) : Int)) rfl rfl (w_i64 (by omega) (by omega))) rfl rfl rfl ?_
                        refine WL.det (op_assign rfl) rfl rfl rfl ?_
                        refine WL.end ?_
                        exact NE.again (i + 1) (⟨rfl, rfl, rfl, rfl, trivial⟩) ⟨(by omega), (by exact allR_step hu (by simp_all [evSame])), ((((m5.nt m6).then m7 ((aC (.inr (lT m5.size lR)) aN))).nt m8).then m9 ((aC (.inr (lT (lT (lT m5.size m6.size) m7.size) lR)) aN)))⟩ (by first | (dsimp only; omega) | omega)
                      · have hp11 := hb11; try simp only [Bool.and_eq_true, Bool.or_eq_true, Bool.not_eq_true', Bool.not_eq_false', Bool.and_eq_false_iff, Bool.or_eq_false_iff, decide_eq_true_eq, decide_eq_false_iff_not, beq_iff_eq, bne_iff_ne, beq_eq_false_iff_ne, bne_eq_false_iff_eq, ne_eq, Bool.false_eq_true, not_false_eq_true, not_true_eq_false, vIn_t, vIn_f] at hp11
                        refine CE.cond_t rfl (bnot_f hb11) ?_
                        refine CE.seq ?_
                        refine CE.region ?_
                        refine WL.det (op_assign rfl) rfl rfl rfl ?_
                        refine WL.end ?_
                        refine NE.code ?_
                        refine CE.ret' ?_
                        refine XE.ret_blk ?_
                        refine XE.ret_then ?_
                        refine XE.ret_then ?_
                        refine XE.ret_blk ?_
                        refine XE.ret_then ?_
                        refine XE.leave1 Try.results11 rfl ?_
                        refine ⟨?_, ((((((((((Mod.refl [] w).nt m1).nt m2).nt m3).nt m4).nt m5).nt m6).then m7 ((aC (.inr (lT (lT (lT (lT (lT m1.size m2.size) m3.size) m4.size) m5.size) lR)) aN))).nt m8).then m9 ((aC (.inr (lT (lT (lT (lT (lT (lT (lT m1.size m2.size) m3.size) m4.size) m5.size) m6.size) m7.size) lR)) aN)))⟩
                        all_goals first | (rw [sameL_ne (s := evSame) (d := EvR.d) (es := esE) (n := nE) (fs := esE') (m := nE') (by omega), Bool.and_false]; done) | (rw [sameL_out (s := evSame) (d := EvR.d) (es := esE) (n := nE) (fs := esE') (m := nE') (i := i) (by omega) (by first | exact ev_o0 (by assumption) | exact ev_o1 (by assumption) | exact ev_o2 (by assumption) | exact ev_o3 (by assumption) | exact ev_o4 (by assumption) | exact ev_o5 (by assumption)), Bool.and_false]; done) | (rw [sameL_all (s := evSame) (d := EvR.d) (es := esE) (n := nE) (fs := esE') (m := nE') (i := i) (by omega) hu (by omega), Bool.and_true]; simp_all; done) | (simp_all; done)
          · have hp5 := hb5; try simp only [Bool.and_eq_true, Bool.or_eq_true, Bool.not_eq_true', Bool.not_eq_false', Bool.and_eq_false_iff, Bool.or_eq_false_iff, decide_eq_true_eq, decide_eq_false_iff_not, beq_iff_eq, bne_iff_ne, beq_eq_false_iff_ne, bne_eq_false_iff_eq, ne_eq, Bool.false_eq_true, not_false_eq_true, not_true_eq_false, vIn_t, vIn_f] at hp5
            refine CE.cond_f rfl hb5 ?_
            refine CE.exit' ?_
            refine XE.exit_then ?_
            refine XE.exit_then ?_
            refine XE.exit_here ?_
            refine NE.code ?_
            refine CE.seq ?_
            refine CE.region ?_
            refine WL.det (op_assign rfl) rfl rfl rfl ?_
            refine WL.end ?_
            refine NE.code ?_
            refine CE.ret' ?_
            refine XE.leave1 Try.results11 rfl ?_
            refine ⟨?_, ((((((Mod.refl [] w).nt m1).nt m2).nt m3).nt m4).nt m5)⟩
            all_goals first | (rw [sameL_ne (s := evSame) (d := EvR.d) (es := esE) (n := nE) (fs := esE') (m := nE') (by omega), Bool.and_false]; done) | (rw [sameL_out (s := evSame) (d := EvR.d) (es := esE) (n := nE) (fs := esE') (m := nE') (i := i) (by omega) (by first | exact ev_o0 (by assumption) | exact ev_o1 (by assumption) | exact ev_o2 (by assumption) | exact ev_o3 (by assumption) | exact ev_o4 (by assumption) | exact ev_o5 (by assumption)), Bool.and_false]; done) | (rw [sameL_all (s := evSame) (d := EvR.d) (es := esE) (n := nE) (fs := esE') (m := nE') (i := i) (by omega) hu (by omega), Bool.and_true]; simp_all; done) | (simp_all; done)
      · refine WL.no rfl rfl rfl (ltb rfl) rfl (bnot_f hb3) rfl (ltb rfl) ?_
        refine WL.no rfl rfl rfl (ltb rfl) rfl (bnot_f hb3) rfl (ltb rfl) ?_
        refine WL.no rfl rfl rfl (ltb rfl) rfl (bnot_f hb3) rfl (ltb rfl) ?_
        refine WL.no rfl rfl rfl (ltb rfl) rfl (bnot_f hb3) rfl (ltb rfl) ?_
        refine WL.no rfl rfl rfl (ltb rfl) rfl (bnot_f hb3) rfl (ltb rfl) ?_
        refine WL.no rfl rfl rfl (ltb rfl) rfl (bnot_f hb3) rfl (ltb rfl) ?_
        refine WL.no rfl rfl rfl (ltb rfl) rfl (bnot_f hb3) rfl (ltb rfl) ?_
        refine WL.det (op_pick_t rfl (bnot_f hb3) rfl) rfl rfl rfl ?_
        refine WL.end ?_
        refine NE.code ?_
        refine CE.cond_t rfl rfl ?_
        refine CE.seq ?_
        refine CE.region ?_
        refine WL.det (op_assign rfl) rfl rfl rfl ?_
        refine WL.end ?_
        refine NE.code ?_
        refine CE.ret' ?_
        refine XE.ret_then ?_
        refine XE.leave1 Try.results11 rfl ?_
        refine ⟨?_, (((((Mod.refl [] w).nt m1).nt m2).nt m3).nt m4)⟩
        all_goals first | (rw [sameL_ne (s := evSame) (d := EvR.d) (es := esE) (n := nE) (fs := esE') (m := nE') (by omega), Bool.and_false]; done) | (rw [sameL_out (s := evSame) (d := EvR.d) (es := esE) (n := nE) (fs := esE') (m := nE') (i := i) (by omega) (by first | exact ev_o0 (by assumption) | exact ev_o1 (by assumption) | exact ev_o2 (by assumption) | exact ev_o3 (by assumption) | exact ev_o4 (by assumption) | exact ev_o5 (by assumption)), Bool.and_false]; done) | (rw [sameL_all (s := evSame) (d := EvR.d) (es := esE) (n := nE) (fs := esE') (m := nE') (i := i) (by omega) hu (by omega), Bool.and_true]; simp_all; done) | (simp_all; done)
    · refine WL.no rfl rfl rfl (ltb rfl) rfl (bnot_f hb2) rfl (ltb rfl) ?_
      refine WL.no rfl rfl rfl (ltb rfl) rfl (bnot_f hb2) rfl (ltb rfl) ?_
      refine WL.no rfl rfl rfl (ltb rfl) rfl (bnot_f hb2) rfl (ltb rfl) ?_
      refine WL.no rfl rfl rfl (ltb rfl) rfl (bnot_f hb2) rfl (ltb rfl) ?_
      refine WL.no rfl rfl rfl (ltb rfl) rfl (bnot_f hb2) rfl (ltb rfl) ?_
      refine WL.no rfl rfl rfl (ltb rfl) rfl (bnot_f hb2) rfl (ltb rfl) ?_
      refine WL.det (op_pick_t rfl (bnot_f hb2) rfl) rfl rfl rfl ?_
      refine WL.det (op_move rfl) rfl rfl rfl ?_
      refine WL.no rfl rfl rfl (ltb rfl) rfl rfl rfl (ltb rfl) ?_
      refine WL.no rfl rfl rfl (ltb rfl) rfl rfl rfl (ltb rfl) ?_
      refine WL.no rfl rfl rfl (ltb rfl) rfl rfl rfl (ltb rfl) ?_
      refine WL.no rfl rfl rfl (ltb rfl) rfl rfl rfl (ltb rfl) ?_
      refine WL.no rfl rfl rfl (ltb rfl) rfl rfl rfl (ltb rfl) ?_
      refine WL.no rfl rfl rfl (ltb rfl) rfl rfl rfl (ltb rfl) ?_
      refine WL.no rfl rfl rfl (ltb rfl) rfl rfl rfl (ltb rfl) ?_
      refine WL.det (op_pick_t rfl rfl rfl) rfl rfl rfl ?_
      refine WL.end ?_
      refine NE.code ?_
      refine CE.cond_t rfl rfl ?_
      refine CE.seq ?_
      refine CE.region ?_
      refine WL.det (op_assign rfl) rfl rfl rfl ?_
      refine WL.end ?_
      refine NE.code ?_
      refine CE.ret' ?_
      refine XE.ret_then ?_
      refine XE.leave1 Try.results11 rfl ?_
      refine ⟨?_, ((((Mod.refl [] w).nt m1).nt m2).nt m3)⟩
      all_goals first | (rw [sameL_ne (s := evSame) (d := EvR.d) (es := esE) (n := nE) (fs := esE') (m := nE') (by omega), Bool.and_false]; done) | (rw [sameL_out (s := evSame) (d := EvR.d) (es := esE) (n := nE) (fs := esE') (m := nE') (i := i) (by omega) (by first | exact ev_o0 (by assumption) | exact ev_o1 (by assumption) | exact ev_o2 (by assumption) | exact ev_o3 (by assumption) | exact ev_o4 (by assumption) | exact ev_o5 (by assumption)), Bool.and_false]; done) | (rw [sameL_all (s := evSame) (d := EvR.d) (es := esE) (n := nE) (fs := esE') (m := nE') (i := i) (by omega) hu (by omega), Bool.and_true]; simp_all; done) | (simp_all; done)
  · have hp1 := hb1; try simp only [Bool.and_eq_true, Bool.or_eq_true, Bool.not_eq_true', Bool.not_eq_false', Bool.and_eq_false_iff, Bool.or_eq_false_iff, decide_eq_true_eq, decide_eq_false_iff_not, beq_iff_eq, bne_iff_ne, beq_eq_false_iff_ne, bne_eq_false_iff_eq, ne_eq, Bool.false_eq_true, not_false_eq_true, not_true_eq_false, vIn_t, vIn_f] at hp1
    refine WL.no rfl rfl rfl (ltb rfl) rfl (bnot_f hb1) rfl (ltb rfl) ?_
    refine WL.no rfl rfl rfl (ltb rfl) rfl (bnot_f hb1) rfl (ltb rfl) ?_
    refine WL.no rfl rfl rfl (ltb rfl) rfl (bnot_f hb1) rfl (ltb rfl) ?_
    refine WL.no rfl rfl rfl (ltb rfl) rfl (bnot_f hb1) rfl (ltb rfl) ?_
    refine WL.no rfl rfl rfl (ltb rfl) rfl (bnot_f hb1) rfl (ltb rfl) ?_
    refine WL.no rfl rfl rfl (ltb rfl) rfl (bnot_f hb1) rfl (ltb rfl) ?_
    refine WL.det (op_pick_t rfl (bnot_f hb1) rfl) rfl rfl rfl ?_
    refine WL.det (op_move rfl) rfl rfl rfl ?_
    refine WL.no rfl rfl rfl (ltb rfl) rfl rfl rfl (ltb rfl) ?_
    refine WL.no rfl rfl rfl (ltb rfl) rfl rfl rfl (ltb rfl) ?_
    refine WL.no rfl rfl rfl (ltb rfl) rfl rfl rfl (ltb rfl) ?_
    refine WL.no rfl rfl rfl (ltb rfl) rfl rfl rfl (ltb rfl) ?_
    refine WL.no rfl rfl rfl (ltb rfl) rfl rfl rfl (ltb rfl) ?_
    refine WL.no rfl rfl rfl (ltb rfl) rfl rfl rfl (ltb rfl) ?_
    refine WL.det (op_pick_t rfl rfl rfl) rfl rfl rfl ?_
    refine WL.det (op_move rfl) rfl rfl rfl ?_
    refine WL.no rfl rfl rfl (ltb rfl) rfl rfl rfl (ltb rfl) ?_
    refine WL.no rfl rfl rfl (ltb rfl) rfl rfl rfl (ltb rfl) ?_
    refine WL.no rfl rfl rfl (ltb rfl) rfl rfl rfl (ltb rfl) ?_
    refine WL.no rfl rfl rfl (ltb rfl) rfl rfl rfl (ltb rfl) ?_
    refine WL.no rfl rfl rfl (ltb rfl) rfl rfl rfl (ltb rfl) ?_
    refine WL.no rfl rfl rfl (ltb rfl) rfl rfl rfl (ltb rfl) ?_
    refine WL.no rfl rfl rfl (ltb rfl) rfl rfl rfl (ltb rfl) ?_
    refine WL.det (op_pick_t rfl rfl rfl) rfl rfl rfl ?_
    refine WL.end ?_
    refine NE.code ?_
    refine CE.cond_t rfl rfl ?_
    refine CE.seq ?_
    refine CE.region ?_
    refine WL.det (op_assign rfl) rfl rfl rfl ?_
    refine WL.end ?_
    refine NE.code ?_
    refine CE.ret' ?_
    refine XE.ret_then ?_
    refine XE.leave1 Try.results11 rfl ?_
    refine ⟨?_, (((Mod.refl [] w).nt m1).nt m2)⟩
    all_goals first | (rw [sameL_ne (s := evSame) (d := EvR.d) (es := esE) (n := nE) (fs := esE') (m := nE') (by omega), Bool.and_false]; done) | (rw [sameL_out (s := evSame) (d := EvR.d) (es := esE) (n := nE) (fs := esE') (m := nE') (i := i) (by omega) (by first | exact ev_o0 (by assumption) | exact ev_o1 (by assumption) | exact ev_o2 (by assumption) | exact ev_o3 (by assumption) | exact ev_o4 (by assumption) | exact ev_o5 (by assumption)), Bool.and_false]; done) | (rw [sameL_all (s := evSame) (d := EvR.d) (es := esE) (n := nE) (fs := esE') (m := nE') (i := i) (by omega) hu (by omega), Bool.and_true]; simp_all; done) | (simp_all; done)

end Go.Proofs.Ytdopidalhkcefaa
