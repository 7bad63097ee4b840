/- The law on valid instruments, walked. -/
import Derived.Test.YtdopidalhkcefaaDoorI1
import Derived.Test.YtdopidalhkcefaaDoorE8
set_option linter.unusedVariables false
set_option linter.unusedSimpArgs false
namespace Go.Proofs.YtdopidalhkcefaaDoor

set_option maxRecDepth 100000 in
set_option maxHeartbeats 8000000 in
theorem law_instr (nm : ByteArray) (kd : Int) (fa : Nat) (fb : Nat) (fc : Nat) (hs : nm.size ≤ 9223372036854775807) (hl : nm.size ≤ 1048576) (w : World) : Cl Tryd.prog 3 #[.agg #[.string nm, vI kd, vF fa, vF fb, vF fc]] w fun v w' => v = .bool true ∧ Mod [] w w' := by
  refine Cl.of Tryd.func3 Tryd.ntmps3 rfl rfl (ρ := [(0, .agg #[.string nm, vI kd, vF fa, vF fb, vF fc])]) rfl ?_
  refine CE.seq ?_
  refine CE.region ?_
  refine WL.op (op_box (cs := [.string nm, vI kd, vF fa, vF fb, vF fc]) rfl rfl) rfl rfl (ltb rfl) ?_
  rintro _ w1 ⟨rfl, r1, m1, z1⟩
  refine WL.det (op_assign rfl) rfl rfl rfl ?_
  refine WL.end ?_
  refine NE.code ?_
  refine CE.seq ?_
  refine CE.region ?_
  refine WL.det (op_assign rfl) rfl rfl rfl ?_
  refine WL.end ?_
  refine NE.code ?_
  refine CE.seq ?_
  refine CE.region ?_
  refine WL.det (op_loadA (i := 0) (cs := [.string nm, vI kd, vF fa, vF fb, vF fc]) rfl Tryd.isAgg24 Tryd.sizeOf24 r1.rng rfl rfl rfl) rfl rfl rfl ?_
  refine WL.det (op_move rfl) rfl rfl rfl ?_
  rcases Bool.eq_false_or_eq_true (decide (((1048576 : Int) - ((nm.size : Nat) : Int)) < (0 : Int))) with hb1 | hb1
  · have hp1 := of_decide_eq_true hb1
    refine WL.call (oc_call (vs := [.agg #[.string nm, vI kd, vF fa, vF fb, vF fc], vI 1048576]) (cap := []) rfl rfl rfl Tryd.call9 (c_szInstrument_over nm kd fa fb fc (1048576 : Int) (by omega) (by omega) hs (by first | assumption | (refine decide_eq_false ?_; have q1 := nmSum_le es (show i + 1 ≤ n by omega); have q2 := nmSum_succ es i; omega)) w1)) rfl rfl (ltb rfl) ?_
    rintro _ w2 ⟨rfl, m2⟩
    refine WL.det (op_assign rfl) rfl rfl rfl ?_
    refine WL.end ?_
    refine NE.code ?_
    refine CE.seq ?_
    refine CE.seq ?_
    refine CE.region ?_
    refine WL.det (op_move rfl) rfl rfl rfl ?_
    refine WL.det (op_lti rfl rfl) rfl rfl rfl ?_
    refine WL.end ?_
    refine NE.code ?_
    refine CE.cond_t rfl rfl ?_
    refine CE.seq ?_
    refine CE.region ?_
    refine WL.det (op_assign rfl) rfl rfl rfl ?_
    refine WL.end ?_
    refine NE.code ?_
    refine CE.ret' ?_
    refine XE.ret_then ?_
    refine XE.leave1 Tryd.results3 rfl ?_
    refine ⟨rfl, (((Mod.refl [] w).nt m1).nt m2)⟩
  · have hp1 := of_decide_eq_false hb1
    refine WL.call (oc_call (vs := [.agg #[.string nm, vI kd, vF fa, vF fb, vF fc], vI 1048576]) (cap := []) rfl rfl rfl Tryd.call9 (c_szInstrument nm kd fa fb fc (1048576 : Int) (by omega) (by omega) hs (by first | assumption | (refine decide_eq_false ?_; have q1 := nmSum_le es (show i + 1 ≤ n by omega); have q2 := nmSum_succ es i; omega)) w1)) rfl rfl (ltb rfl) ?_
    rintro _ w3 ⟨rfl, m3⟩
    refine WL.det (op_assign rfl) rfl rfl rfl ?_
    refine WL.end ?_
    refine NE.code ?_
    refine CE.seq ?_
    refine CE.seq ?_
    refine CE.region ?_
    refine WL.det (op_move rfl) rfl rfl rfl ?_
    refine WL.det (op_lti rfl rfl) rfl rfl rfl ?_
    refine WL.end ?_
    refine NE.code ?_
    refine CE.cond_f rfl hb1 ?_
    refine CE.skip' ?_
    refine NE.code ?_
    refine CE.seq ?_
    refine CE.region ?_
    refine WL.det (op_loadA (i := 0) (cs := [.string nm, vI kd, vF fa, vF fb, vF fc]) rfl Tryd.isAgg24 Tryd.sizeOf24 (r1.ext m3).rng rfl rfl rfl) rfl rfl rfl ?_
    refine WL.call (oc_call (vs := [.agg #[.string nm, vI kd, vF fa, vF fb, vF fc]]) (cap := []) rfl rfl rfl Tryd.call11 (c_toInstrument nm kd fa fb fc w3)) rfl rfl (ltb rfl) ?_
    rintro _ w4 ⟨rfl, m4⟩
    refine WL.call (oc_call (vs := [.agg #[.string nm, vI kd, vF fa, vF fb, vF fc]]) (cap := []) rfl rfl rfl Tryd.call10 (c_sValidI nm kd fa fb fc hs w4)) rfl rfl (ltb rfl) ?_
    rintro _ w5 ⟨rfl, m5⟩
    refine WL.det (op_assign rfl) rfl rfl rfl ?_
    refine WL.end ?_
    refine NE.code ?_
    refine CE.seq ?_
    refine CE.region ?_
    refine WL.det (op_loadA (i := 0) (cs := [.string nm, vI kd, vF fa, vF fb, vF fc]) rfl Tryd.isAgg24 Tryd.sizeOf24 (((r1.ext m3).ext m4).ext m5).rng rfl rfl rfl) rfl rfl rfl ?_
    refine WL.call (oc_call (vs := [.agg #[.string nm, vI kd, vF fa, vF fb, vF fc]]) (cap := []) rfl rfl rfl Tryd.call11 (c_toInstrument nm kd fa fb fc w5)) rfl rfl (ltb rfl) ?_
    rintro _ w6 ⟨rfl, m6⟩
    refine WL.call (oc_call (vs := [.agg #[.string nm, vI kd, vF fa, vF fb, vF fc]]) (cap := []) rfl rfl rfl Tryd.call12 (c_iValidI nm kd fa fb fc hs w6)) rfl rfl (ltb rfl) ?_
    rintro _ w7 ⟨rfl, m7⟩
    refine WL.det (op_assign rfl) rfl rfl rfl ?_
    refine WL.end ?_
    refine NE.code ?_
    refine CE.seq ?_
    refine CE.seq ?_
    refine CE.region ?_
    refine WL.det (op_move rfl) rfl rfl rfl ?_
    refine WL.det (op_move rfl) rfl rfl rfl ?_
    refine WL.det (op_neb_same rfl rfl Tryd.underlying4) rfl rfl rfl ?_
    refine WL.end ?_
    refine NE.code ?_
    refine CE.cond_f rfl rfl ?_
    refine CE.skip' ?_
    refine NE.code ?_
    refine CE.seq ?_
    refine CE.region ?_
    refine WL.det (op_assign rfl) rfl rfl rfl ?_
    refine WL.end ?_
    refine NE.code ?_
    refine CE.ret' ?_
    refine XE.leave1 Tryd.results3 rfl ?_
    refine ⟨rfl, (((((((Mod.refl [] w).nt m1).nt m3).nt m4).nt m5).nt m6).nt m7)⟩

set_option maxRecDepth 100000 in
set_option maxHeartbeats 8000000 in
theorem law_instr_over (nm : ByteArray) (kd : Int) (fa : Nat) (fb : Nat) (fc : Nat) (hs : nm.size ≤ 9223372036854775807) (hl : 1048576 < nm.size) (w : World) : Cl Tryd.prog 3 #[.agg #[.string nm, vI kd, vF fa, vF fb, vF fc]] w fun v w' => v = .bool true ∧ Mod [] w w' := by
  refine Cl.of Tryd.func3 Tryd.ntmps3 rfl rfl (ρ := [(0, .agg #[.string nm, vI kd, vF fa, vF fb, vF fc])]) rfl ?_
  refine CE.seq ?_
  refine CE.region ?_
  refine WL.op (op_box (cs := [.string nm, vI kd, vF fa, vF fb, vF fc]) rfl rfl) rfl rfl (ltb rfl) ?_
  rintro _ w1 ⟨rfl, r1, m1, z1⟩
  refine WL.det (op_assign rfl) rfl rfl rfl ?_
  refine WL.end ?_
  refine NE.code ?_
  refine CE.seq ?_
  refine CE.region ?_
  refine WL.det (op_assign rfl) rfl rfl rfl ?_
  refine WL.end ?_
  refine NE.code ?_
  refine CE.seq ?_
  refine CE.region ?_
  refine WL.det (op_loadA (i := 0) (cs := [.string nm, vI kd, vF fa, vF fb, vF fc]) rfl Tryd.isAgg24 Tryd.sizeOf24 r1.rng rfl rfl rfl) rfl rfl rfl ?_
  refine WL.det (op_move rfl) rfl rfl rfl ?_
  rcases Bool.eq_false_or_eq_true (decide (((1048576 : Int) - ((nm.size : Nat) : Int)) < (0 : Int))) with hb1 | hb1
  · have hp1 := of_decide_eq_true hb1
    refine WL.call (oc_call (vs := [.agg #[.string nm, vI kd, vF fa, vF fb, vF fc], vI 1048576]) (cap := []) rfl rfl rfl Tryd.call9 (c_szInstrument_over nm kd fa fb fc (1048576 : Int) (by omega) (by omega) hs (by first | assumption | (refine decide_eq_false ?_; have q1 := nmSum_le es (show i + 1 ≤ n by omega); have q2 := nmSum_succ es i; omega)) w1)) rfl rfl (ltb rfl) ?_
    rintro _ w2 ⟨rfl, m2⟩
    refine WL.det (op_assign rfl) rfl rfl rfl ?_
    refine WL.end ?_
    refine NE.code ?_
    refine CE.seq ?_
    refine CE.seq ?_
    refine CE.region ?_
    refine WL.det (op_move rfl) rfl rfl rfl ?_
    refine WL.det (op_lti rfl rfl) rfl rfl rfl ?_
    refine WL.end ?_
    refine NE.code ?_
    refine CE.cond_t rfl rfl ?_
    refine CE.seq ?_
    refine CE.region ?_
    refine WL.det (op_assign rfl) rfl rfl rfl ?_
    refine WL.end ?_
    refine NE.code ?_
    refine CE.ret' ?_
    refine XE.ret_then ?_
    refine XE.leave1 Tryd.results3 rfl ?_
    refine ⟨rfl, (((Mod.refl [] w).nt m1).nt m2)⟩
  · have hp1 := of_decide_eq_false hb1
    refine WL.call (oc_call (vs := [.agg #[.string nm, vI kd, vF fa, vF fb, vF fc], vI 1048576]) (cap := []) rfl rfl rfl Tryd.call9 (c_szInstrument nm kd fa fb fc (1048576 : Int) (by omega) (by omega) hs (by first | assumption | (refine decide_eq_false ?_; have q1 := nmSum_le es (show i + 1 ≤ n by omega); have q2 := nmSum_succ es i; omega)) w1)) rfl rfl (ltb rfl) ?_
    rintro _ w3 ⟨rfl, m3⟩
    refine WL.det (op_assign rfl) rfl rfl rfl ?_
    refine WL.end ?_
    refine NE.code ?_
    refine CE.seq ?_
    refine CE.seq ?_
    refine CE.region ?_
    refine WL.det (op_move rfl) rfl rfl rfl ?_
    refine WL.det (op_lti rfl rfl) rfl rfl rfl ?_
    refine WL.end ?_
    refine NE.code ?_
    refine CE.cond_f rfl hb1 ?_
    refine CE.skip' ?_
    refine NE.code ?_
    refine CE.seq ?_
    refine CE.region ?_
    refine WL.det (op_loadA (i := 0) (cs := [.string nm, vI kd, vF fa, vF fb, vF fc]) rfl Tryd.isAgg24 Tryd.sizeOf24 (r1.ext m3).rng rfl rfl rfl) rfl rfl rfl ?_
    refine WL.call (oc_call (vs := [.agg #[.string nm, vI kd, vF fa, vF fb, vF fc]]) (cap := []) rfl rfl rfl Tryd.call11 (c_toInstrument nm kd fa fb fc w3)) rfl rfl (ltb rfl) ?_
    rintro _ w4 ⟨rfl, m4⟩
    refine WL.call (oc_call (vs := [.agg #[.string nm, vI kd, vF fa, vF fb, vF fc]]) (cap := []) rfl rfl rfl Tryd.call10 (c_sValidI nm kd fa fb fc hs w4)) rfl rfl (ltb rfl) ?_
    rintro _ w5 ⟨rfl, m5⟩
    refine WL.det (op_assign rfl) rfl rfl rfl ?_
    refine WL.end ?_
    refine NE.code ?_
    refine CE.seq ?_
    refine CE.region ?_
    refine WL.det (op_loadA (i := 0) (cs := [.string nm, vI kd, vF fa, vF fb, vF fc]) rfl Tryd.isAgg24 Tryd.sizeOf24 (((r1.ext m3).ext m4).ext m5).rng rfl rfl rfl) rfl rfl rfl ?_
    refine WL.call (oc_call (vs := [.agg #[.string nm, vI kd, vF fa, vF fb, vF fc]]) (cap := []) rfl rfl rfl Tryd.call11 (c_toInstrument nm kd fa fb fc w5)) rfl rfl (ltb rfl) ?_
    rintro _ w6 ⟨rfl, m6⟩
    refine WL.call (oc_call (vs := [.agg #[.string nm, vI kd, vF fa, vF fb, vF fc]]) (cap := []) rfl rfl rfl Tryd.call12 (c_iValidI nm kd fa fb fc hs w6)) rfl rfl (ltb rfl) ?_
    rintro _ w7 ⟨rfl, m7⟩
    refine WL.det (op_assign rfl) rfl rfl rfl ?_
    refine WL.end ?_
    refine NE.code ?_
    refine CE.seq ?_
    refine CE.seq ?_
    refine CE.region ?_
    refine WL.det (op_move rfl) rfl rfl rfl ?_
    refine WL.det (op_move rfl) rfl rfl rfl ?_
    refine WL.det (op_neb_same rfl rfl Tryd.underlying4) rfl rfl rfl ?_
    refine WL.end ?_
    refine NE.code ?_
    refine CE.cond_f rfl rfl ?_
    refine CE.skip' ?_
    refine NE.code ?_
    refine CE.seq ?_
    refine CE.region ?_
    refine WL.det (op_assign rfl) rfl rfl rfl ?_
    refine WL.end ?_
    refine NE.code ?_
    refine CE.ret' ?_
    refine XE.leave1 Tryd.results3 rfl ?_
    refine ⟨rfl, (((((((Mod.refl [] w).nt m1).nt m3).nt m4).nt m5).nt m6).nt m7)⟩

end Go.Proofs.YtdopidalhkcefaaDoor
