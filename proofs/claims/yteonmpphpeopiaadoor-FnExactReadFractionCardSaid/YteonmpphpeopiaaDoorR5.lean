/- Fractions in texts: the program. -/
import Derived.Test.YteonmpphpeopiaaDoorR2
import Derived.Test.YteonmpphpeopiaaDoorE32
import Derived.Test.YteonmpphpeopiaaDoorE11
import Derived.Test.YteonmpphpeopiaaDoorE14
set_option linter.unusedVariables false
set_option linter.unusedSimpArgs false
namespace Go.Proofs.YteonmpphpeopiaaDoor

theorem c_pIntOk (s : ByteArray) (hs : s.size ≤ 1048576) (hk : okB (tl s) = true) (w : World) : Cl Tryd.prog 59 #[.string s, vI 10, vI 64] w fun v w' => v = .tuple #[vI (decV (tl s)), .nilIface] ∧ Mod [] w w' := c_ParseIntOk s hs hk w
theorem c_pIntErr (s : ByteArray) (hs : s.size ≤ 1048576) (hk : okB (tl s) = false) (w : World) (T : LibR w LB 0 []) : Cl Tryd.prog 59 #[.string s, vI 10, vI 64] w fun v w' => ∃ (tp : TypeId) (pv : Value), v = .tuple #[vI (decV (tl s)), .iface tp pv] ∧ Mod [] w w' := c_ParseIntErr s hs hk w T
theorem c_fInt (z : Int) (h0 : -9223372036854775808 ≤ z) (h1 : z ≤ 9223372036854775807) (w : World) (T : LibR w LB 0 []) : Cl Tryd.prog 76 #[vI z, vI 10] w fun v w' => v = .string (⟨(Lib.itoa z).toArray⟩) ∧ Mod [] w w' := c_FormatInt z h0 h1 w T
theorem c_cutPre (s : ByteArray) (w : World) : Cl Tryd.prog 48 #[.string s, .string (⟨#[45]⟩)] w fun v w' => v = .tuple #[.string (⟨(Lib.trimPrefix (tl s) [45]).toArray⟩), .bool (Lib.hasPrefix (tl s) [45])] ∧ Mod [] w w' := c_CutPrefix s w
theorem c_cut (s : ByteArray) (hs : s.size ≤ 1048576) (w : World) (T : LibR w LB 0 []) : Cl Tryd.prog 35 #[.string s, .string (⟨#[47]⟩)] w fun v w' => v = .tuple #[.string (⟨(cA (tl s)).toArray⟩), .string (⟨(cB (tl s)).toArray⟩), .bool (cD (tl s))] ∧ Mod [] w w' := c_Cut s hs w T
set_option maxRecDepth 100000 in
set_option maxHeartbeats 2000000 in
theorem c_decimal (z : Int) (h0 : -9223372036854775808 ≤ z) (h1 : z ≤ 9223372036854775807) (w : World) (T : LibR w LB 0 []) : Cl Tryd.prog 60 #[vI z] w fun v w' => v = .string (⟨(Lib.itoa z).toArray⟩) ∧ Mod [] w w' := by
  refine Cl.of Tryd.func60 Tryd.ntmps60 rfl rfl (ρ := [(0, vI z)]) rfl ?_
  refine CE.seq ?_
  refine CE.region ?_
  refine WL.det (op_assign rfl) rfl rfl rfl ?_
  refine WL.end ?_
  refine NE.code ?_
  refine CE.seq ?_
  refine CE.region ?_
  refine WL.det (op_move rfl) rfl rfl rfl ?_
  refine WL.call (oc_call (vs := [vI z, vI 10]) (cap := []) rfl rfl rfl Tryd.call76 (c_fInt z (by omega) (by omega) w T)) rfl rfl (ltb rfl) ?_
  rintro _ w1 ⟨rfl, m1⟩
  refine WL.det (op_assign rfl) rfl rfl rfl ?_
  refine WL.end ?_
  refine NE.code ?_
  refine CE.ret' ?_
  refine XE.leave1 Tryd.results60 rfl ?_
  refine ⟨rfl, ((Mod.refl [] w).nt m1)⟩

set_option maxRecDepth 100000 in
set_option maxHeartbeats 2000000 in
theorem c_readDec (s : ByteArray) (hs : s.size ≤ 1048576) (w : World) (T : LibR w LB 0 []) : Cl Tryd.prog 49 #[.string s] w fun v w' => v = .tuple #[vI (decV (tl s)), .bool (decO (tl s))] ∧ Mod [] w w' := by
  have hR := fun h => dec_range (l := tl s) h
  refine Cl.of Tryd.func49 Tryd.ntmps49 rfl rfl (ρ := [(0, .string s)]) rfl ?_
  refine CE.seq ?_
  refine CE.region ?_
  refine WL.det (op_assign rfl) rfl rfl rfl ?_
  refine WL.det (op_assign rfl) rfl rfl rfl ?_
  refine WL.end ?_
  refine NE.code ?_
  refine CE.seq ?_
  refine CE.region ?_
  refine WL.det (op_move rfl) rfl rfl rfl ?_
  rcases Bool.eq_false_or_eq_true (okB (tl s)) with hb1 | hb1
  · refine WL.call (oc_call (vs := [.string s, vI 10, vI 64]) (cap := []) rfl rfl rfl Tryd.call59 (c_pIntOk s (by first | assumption | omega | exact h5 _) (by assumption) w)) rfl rfl (ltb rfl) ?_
    rintro _ w1 ⟨rfl, m1⟩
    refine WL.det (op_move rfl) rfl rfl rfl ?_
    refine WL.det (op_extract rfl rfl) rfl rfl rfl ?_
    refine WL.det (op_extract rfl rfl) rfl rfl rfl ?_
    refine WL.det (op_assign rfl) rfl rfl rfl ?_
    refine WL.det (op_assign rfl) rfl rfl rfl ?_
    refine WL.end ?_
    refine NE.code ?_
    refine CE.seq ?_
    refine CE.region ?_
    refine WL.det (op_move rfl) rfl rfl rfl ?_
    refine WL.det (op_move rfl) rfl rfl rfl ?_
    refine WL.det (op_eq_nilif rfl Tryd.underlying71) rfl rfl rfl ?_
    refine WL.det (op_move rfl) rfl rfl rfl ?_
    refine WL.yes rfl rfl rfl (ltb rfl) rfl rfl ?_
    refine WL.det (op_move rfl) rfl rfl rfl ?_
    refine WL.yes rfl rfl rfl (ltb rfl) rfl rfl ?_
    refine WL.call (oc_call (vs := [vI (decV (tl s))]) (cap := []) rfl rfl rfl Tryd.call60 (c_decimal (decV (tl s)) (by first | omega | exact (hR (by assumption)).1) (by first | omega | exact (hR (by assumption)).2) w1 (T.ext m1))) rfl rfl (ltb rfl) ?_
    rintro _ w2 ⟨rfl, m2⟩
    refine WL.yes rfl rfl rfl (ltb rfl) rfl rfl ?_
    refine WL.det (op_move rfl) rfl rfl rfl ?_
    refine WL.yes rfl rfl rfl (ltb rfl) rfl rfl ?_
    refine WL.det (op_eqs rfl rfl) rfl rfl rfl ?_
    refine WL.det (op_pick_t rfl rfl rfl) rfl rfl rfl ?_
    refine WL.det (op_assign rfl) rfl rfl rfl ?_
    refine WL.det (op_assign rfl) rfl rfl rfl ?_
    refine WL.end ?_
    refine NE.code ?_
    refine CE.ret' ?_
    refine XE.leaveT Tryd.results49 (res_tmp rfl (res_tmp rfl res_nil)) ?_
    refine ⟨?_, (((Mod.refl [] w).nt m1).nt m2)⟩
    all_goals first | (rw [okB_o (by assumption), ← sEq_tl]; rfl) | (rw [okB_f (by assumption)]; rfl) | simp_all [okB_o, okB_f, sEq_tl]
  · refine WL.call (oc_call (vs := [.string s, vI 10, vI 64]) (cap := []) rfl rfl rfl Tryd.call59 (c_pIntErr s (by first | assumption | omega | exact h5 _) (by assumption) w T)) rfl rfl (ltb rfl) ?_
    rintro _ w3 ⟨tp1, pv1, rfl, m3⟩
    refine WL.det (op_move rfl) rfl rfl rfl ?_
    refine WL.det (op_extract rfl rfl) rfl rfl rfl ?_
    refine WL.det (op_extract rfl rfl) rfl rfl rfl ?_
    refine WL.det (op_assign rfl) rfl rfl rfl ?_
    refine WL.det (op_assign rfl) rfl rfl rfl ?_
    refine WL.end ?_
    refine NE.code ?_
    refine CE.seq ?_
    refine CE.region ?_
    refine WL.det (op_move rfl) rfl rfl rfl ?_
    refine WL.det (op_move rfl) rfl rfl rfl ?_
    refine WL.det (op_eq_if rfl Tryd.underlying71) rfl rfl rfl ?_
    refine WL.det (op_move rfl) rfl rfl rfl ?_
    refine WL.no rfl rfl rfl (ltb rfl) rfl rfl rfl (ltb rfl) ?_
    refine WL.no rfl rfl rfl (ltb rfl) rfl rfl rfl (ltb rfl) ?_
    refine WL.no rfl rfl rfl (ltb rfl) rfl rfl rfl (ltb rfl) ?_
    refine WL.no rfl rfl rfl (ltb rfl) rfl rfl rfl (ltb rfl) ?_
    refine WL.det (op_pick_f rfl rfl rfl) rfl rfl rfl ?_
    refine WL.det (op_assign rfl) rfl rfl rfl ?_
    refine WL.det (op_assign rfl) rfl rfl rfl ?_
    refine WL.end ?_
    refine NE.code ?_
    refine CE.ret' ?_
    refine XE.leaveT Tryd.results49 (res_tmp rfl (res_tmp rfl res_nil)) ?_
    refine ⟨?_, ((Mod.refl [] w).nt m3)⟩
    all_goals first | (rw [okB_o (by assumption), ← sEq_tl]; rfl) | (rw [okB_f (by assumption)]; rfl) | simp_all [okB_o, okB_f, sEq_tl]

set_option maxRecDepth 100000 in
set_option maxHeartbeats 2000000 in
theorem c_readWhole (s : ByteArray) (hs : s.size ≤ 1048576) (w : World) (T : LibR w LB 0 []) : Cl Tryd.prog 37 #[.string s] w fun v w' => v = .tuple #[vI (decV (tl s)), .bool ((wholeF (tl s)).isSome)] ∧ Mod [] w w' := by
  refine Cl.of Tryd.func37 Tryd.ntmps37 rfl rfl (ρ := [(0, .string s)]) rfl ?_
  refine CE.seq ?_
  refine CE.region ?_
  refine WL.det (op_assign rfl) rfl rfl rfl ?_
  refine WL.det (op_assign rfl) rfl rfl rfl ?_
  refine WL.end ?_
  refine NE.code ?_
  refine CE.seq ?_
  refine CE.region ?_
  refine WL.det (op_move rfl) rfl rfl rfl ?_
  refine WL.call (oc_call (vs := [.string s]) (cap := []) rfl rfl rfl Tryd.call49 (c_readDec s (by first | assumption | omega | exact h5 _) w T)) rfl rfl (ltb rfl) ?_
  rintro _ w1 ⟨rfl, m1⟩
  refine WL.det (op_move rfl) rfl rfl rfl ?_
  refine WL.det (op_extract rfl rfl) rfl rfl rfl ?_
  refine WL.det (op_extract rfl rfl) rfl rfl rfl ?_
  refine WL.det (op_assign rfl) rfl rfl rfl ?_
  refine WL.det (op_assign rfl) rfl rfl rfl ?_
  refine WL.end ?_
  refine NE.code ?_
  refine CE.seq ?_
  refine CE.region ?_
  refine WL.det (op_move rfl) rfl rfl rfl ?_
  refine WL.det (op_move rfl) rfl rfl rfl ?_
  refine WL.det (op_move rfl) rfl rfl rfl ?_
  rcases Bool.eq_false_or_eq_true (decO (tl s)) with hb1 | hb1
  · refine WL.yes rfl rfl rfl (ltb rfl) rfl hb1 ?_
    refine WL.det (op_move rfl) rfl rfl rfl ?_
    refine WL.yes rfl rfl rfl (ltb rfl) rfl hb1 ?_
    refine WL.det (op_gei rfl rfl) rfl rfl rfl ?_
    refine WL.det (op_pick_t rfl hb1 rfl) rfl rfl rfl ?_
    refine WL.det (op_move rfl) rfl rfl rfl ?_
    rcases Bool.eq_false_or_eq_true (decide ((0 : Int) ≤ (decV (tl s)))) with hb2 | hb2
    · have hp2 := of_decide_eq_true hb2
      refine WL.yes rfl rfl rfl (ltb rfl) rfl hb2 ?_
      refine WL.det (op_move rfl) rfl rfl rfl ?_
      refine WL.yes rfl rfl rfl (ltb rfl) rfl hb2 ?_
      refine WL.det (op_lens rfl Tryd.runUnderlying9) rfl rfl rfl ?_
      refine WL.yes rfl rfl rfl (ltb rfl) rfl hb2 ?_
      refine WL.det (op_lei rfl rfl) rfl rfl rfl ?_
      refine WL.det (op_pick_t rfl hb2 rfl) rfl rfl rfl ?_
      refine WL.det (op_assign rfl) rfl rfl rfl ?_
      refine WL.det (op_assign rfl) rfl rfl rfl ?_
      refine WL.end ?_
      refine NE.code ?_
      refine CE.ret' ?_
      refine XE.leaveT Tryd.results37 (res_tmp rfl (res_tmp rfl res_nil)) ?_
      refine ⟨?_, ((Mod.refl [] w).nt m1)⟩
      all_goals first | (rw [whole_some, tl_len]; simp_all; done) | (rw [whole_some, tl_len]; simp_all; omega)
    · have hp2 := of_decide_eq_false hb2
      refine WL.no rfl rfl rfl (ltb rfl) rfl hb2 rfl (ltb rfl) ?_
      refine WL.no rfl rfl rfl (ltb rfl) rfl hb2 rfl (ltb rfl) ?_
      refine WL.no rfl rfl rfl (ltb rfl) rfl hb2 rfl (ltb rfl) ?_
      refine WL.det (op_pick_f rfl hb2 rfl) rfl rfl rfl ?_
      refine WL.det (op_assign rfl) rfl rfl rfl ?_
      refine WL.det (op_assign rfl) rfl rfl rfl ?_
      refine WL.end ?_
      refine NE.code ?_
      refine CE.ret' ?_
      refine XE.leaveT Tryd.results37 (res_tmp rfl (res_tmp rfl res_nil)) ?_
      refine ⟨?_, ((Mod.refl [] w).nt m1)⟩
      all_goals first | (rw [whole_some, tl_len]; simp_all; done) | (rw [whole_some, tl_len]; simp_all; omega)
  · refine WL.no rfl rfl rfl (ltb rfl) rfl hb1 rfl (ltb rfl) ?_
    refine WL.no rfl rfl rfl (ltb rfl) rfl hb1 rfl (ltb rfl) ?_
    refine WL.det (op_pick_f rfl hb1 rfl) rfl rfl rfl ?_
    refine WL.det (op_move rfl) rfl rfl rfl ?_
    refine WL.no rfl rfl rfl (ltb rfl) rfl rfl rfl (ltb rfl) ?_
    refine WL.no rfl rfl rfl (ltb rfl) rfl rfl rfl (ltb rfl) ?_
    refine WL.no rfl rfl rfl (ltb rfl) rfl rfl rfl (ltb rfl) ?_
    refine WL.det (op_pick_f rfl rfl rfl) rfl rfl rfl ?_
    refine WL.det (op_assign rfl) rfl rfl rfl ?_
    refine WL.det (op_assign rfl) rfl rfl rfl ?_
    refine WL.end ?_
    refine NE.code ?_
    refine CE.ret' ?_
    refine XE.leaveT Tryd.results37 (res_tmp rfl (res_tmp rfl res_nil)) ?_
    refine ⟨?_, ((Mod.refl [] w).nt m1)⟩
    all_goals first | (rw [whole_some, tl_len]; simp_all; done) | (rw [whole_some, tl_len]; simp_all; omega)

set_option maxRecDepth 100000 in
set_option maxHeartbeats 2000000 in
theorem c_readSigned (s : ByteArray) (hs : s.size ≤ 1048576) (w : World) (T : LibR w LB 0 []) : Cl Tryd.prog 36 #[.string s] w fun v w' => v = .tuple #[vI (sgN (tl s)), .bool ((sgF (tl s)).isSome)] ∧ Mod [] w w' := by
  have hT := trim_size s
  refine Cl.of Tryd.func36 Tryd.ntmps36 rfl rfl (ρ := [(0, .string s)]) rfl ?_
  refine CE.seq ?_
  refine CE.region ?_
  refine WL.det (op_assign rfl) rfl rfl rfl ?_
  refine WL.det (op_assign rfl) rfl rfl rfl ?_
  refine WL.end ?_
  refine NE.code ?_
  refine CE.seq ?_
  refine CE.region ?_
  refine WL.det (op_move rfl) rfl rfl rfl ?_
  refine WL.call (oc_call (vs := [.string s, .string (⟨#[45]⟩)]) (cap := []) rfl rfl rfl Tryd.call48 (c_cutPre s w)) rfl rfl (ltb rfl) ?_
  rintro _ w1 ⟨rfl, m1⟩
  refine WL.det (op_move rfl) rfl rfl rfl ?_
  refine WL.det (op_extract rfl rfl) rfl rfl rfl ?_
  refine WL.det (op_extract rfl rfl) rfl rfl rfl ?_
  refine WL.det (op_assign rfl) rfl rfl rfl ?_
  refine WL.det (op_assign rfl) rfl rfl rfl ?_
  refine WL.end ?_
  refine NE.code ?_
  refine CE.seq ?_
  refine CE.region ?_
  refine WL.det (op_move rfl) rfl rfl rfl ?_
  refine WL.call (oc_call (vs := [.string (⟨(Lib.trimPrefix (tl s) [45]).toArray⟩)]) (cap := []) rfl rfl rfl Tryd.call37 (c_readWhole (⟨(Lib.trimPrefix (tl s) [45]).toArray⟩) (by first | assumption | omega | exact h5 _) w1 (T.ext m1))) rfl rfl (ltb rfl) ?_
  rintro _ w2 ⟨rfl, m2⟩
  refine WL.det (op_move rfl) rfl rfl rfl ?_
  refine WL.det (op_extract rfl rfl) rfl rfl rfl ?_
  refine WL.det (op_extract rfl rfl) rfl rfl rfl ?_
  refine WL.det (op_assign rfl) rfl rfl rfl ?_
  refine WL.det (op_assign rfl) rfl rfl rfl ?_
  refine WL.end ?_
  refine NE.code ?_
  refine CE.seq ?_
  refine CE.seq ?_
  refine CE.region ?_
  refine WL.det (op_move rfl) rfl rfl rfl ?_
  refine WL.end ?_
  refine NE.code ?_
  rcases Bool.eq_false_or_eq_true (Lib.hasPrefix (tl s) [45]) with hb1 | hb1
  · refine CE.cond_t rfl hb1 ?_
    refine CE.region ?_
    refine WL.det (op_move rfl) rfl rfl rfl ?_
    refine WL.det (op_negi rfl rfl) rfl rfl rfl ?_
    refine WL.det (op_assign rfl) rfl rfl rfl ?_
    refine WL.end ?_
    refine NE.code ?_
    refine CE.seq ?_
    refine CE.region ?_
    refine WL.det (op_move rfl) rfl rfl rfl ?_
    refine WL.det (op_move rfl) rfl rfl rfl ?_
    refine WL.det (op_assign rfl) rfl rfl rfl ?_
    refine WL.det (op_assign rfl) rfl rfl rfl ?_
    refine WL.end ?_
    refine NE.code ?_
    refine CE.ret' ?_
    refine XE.leaveT Tryd.results36 (res_tmp rfl (res_tmp rfl res_nil)) ?_
    refine ⟨?_, (((Mod.refl [] w).nt m1).nt m2)⟩
    all_goals first | (obtain ⟨e1, e2, e3⟩ := sg_pos (by assumption); rw [e2, e3, tl_mk, e1]; done) | (obtain ⟨e1, e2, e3⟩ := sg_pos (by assumption); rw [e2, e3, tl_mk, e1]; rfl) | (obtain ⟨e1, e2, e3⟩ := sg_neg (by assumption); rw [e2, e3, tl_mk, e1]; done) | (obtain ⟨e1, e2, e3⟩ := sg_neg (by assumption); rw [e2, e3, tl_mk, e1]; rfl)
  · refine CE.cond_f rfl hb1 ?_
    refine CE.skip' ?_
    refine NE.code ?_
    refine CE.seq ?_
    refine CE.region ?_
    refine WL.det (op_move rfl) rfl rfl rfl ?_
    refine WL.det (op_move rfl) rfl rfl rfl ?_
    refine WL.det (op_assign rfl) rfl rfl rfl ?_
    refine WL.det (op_assign rfl) rfl rfl rfl ?_
    refine WL.end ?_
    refine NE.code ?_
    refine CE.ret' ?_
    refine XE.leaveT Tryd.results36 (res_tmp rfl (res_tmp rfl res_nil)) ?_
    refine ⟨?_, (((Mod.refl [] w).nt m1).nt m2)⟩
    all_goals first | (obtain ⟨e1, e2, e3⟩ := sg_pos (by assumption); rw [e2, e3, tl_mk, e1]; done) | (obtain ⟨e1, e2, e3⟩ := sg_pos (by assumption); rw [e2, e3, tl_mk, e1]; rfl) | (obtain ⟨e1, e2, e3⟩ := sg_neg (by assumption); rw [e2, e3, tl_mk, e1]; done) | (obtain ⟨e1, e2, e3⟩ := sg_neg (by assumption); rw [e2, e3, tl_mk, e1]; rfl)

set_option maxRecDepth 100000 in
set_option maxHeartbeats 2000000 in
theorem c_readFrac (s : ByteArray) (hs : s.size ≤ 1048576) (w : World) (T : LibR w LB 0 []) : Cl Tryd.prog 21 #[.string s] w fun v w' => ∃ (z : Nat), v = .tuple #[vF z, .bool (frOk (tl s))] ∧ (cn .f32 z = cn .f32 (frV (tl s))) ∧ Mod [] w w' := by
  have hT := cut_size s
  refine Cl.of Tryd.func21 Tryd.ntmps21 rfl rfl (ρ := [(0, .string s)]) rfl ?_
  refine CE.seq ?_
  refine CE.region ?_
  refine WL.det (op_assign rfl) rfl rfl rfl ?_
  refine WL.det (op_assign rfl) rfl rfl rfl ?_
  refine WL.end ?_
  refine NE.code ?_
  refine CE.seq ?_
  refine CE.region ?_
  refine WL.det (op_move rfl) rfl rfl rfl ?_
  refine WL.call (oc_call (vs := [.string s, .string (⟨#[47]⟩)]) (cap := []) rfl rfl rfl Tryd.call35 (c_cut s (by first | assumption | omega | exact h5 _) w T)) rfl rfl (ltb rfl) ?_
  rintro _ w1 ⟨rfl, m1⟩
  refine WL.det (op_move rfl) rfl rfl rfl ?_
  refine WL.det (op_extract rfl rfl) rfl rfl rfl ?_
  refine WL.det (op_extract rfl rfl) rfl rfl rfl ?_
  refine WL.det (op_extract rfl rfl) rfl rfl rfl ?_
  refine WL.det (op_assign rfl) rfl rfl rfl ?_
  refine WL.det (op_assign rfl) rfl rfl rfl ?_
  refine WL.det (op_assign rfl) rfl rfl rfl ?_
  refine WL.end ?_
  refine NE.code ?_
  refine CE.seq ?_
  refine CE.region ?_
  refine WL.det (op_move rfl) rfl rfl rfl ?_
  refine WL.call (oc_call (vs := [.string (⟨(cA (tl s)).toArray⟩)]) (cap := []) rfl rfl rfl Tryd.call36 (c_readSigned (⟨(cA (tl s)).toArray⟩) (by first | assumption | omega | exact h5 _) w1 (T.ext m1))) rfl rfl (ltb rfl) ?_
  rintro _ w2 ⟨rfl, m2⟩
  refine WL.det (op_move rfl) rfl rfl rfl ?_
  refine WL.det (op_extract rfl rfl) rfl rfl rfl ?_
  refine WL.det (op_extract rfl rfl) rfl rfl rfl ?_
  refine WL.det (op_assign rfl) rfl rfl rfl ?_
  refine WL.det (op_assign rfl) rfl rfl rfl ?_
  refine WL.end ?_
  refine NE.code ?_
  refine CE.seq ?_
  refine CE.seq ?_
  refine CE.region ?_
  refine WL.det (op_move rfl) rfl rfl rfl ?_
  refine WL.det (op_not rfl) rfl rfl rfl ?_
  refine WL.end ?_
  refine NE.code ?_
  rcases Bool.eq_false_or_eq_true (cD (tl s)) with hb1 | hb1
  · refine CE.cond_f rfl (bnot_t hb1) ?_
    refine CE.skip' ?_
    refine NE.code ?_
    refine CE.seq ?_
    refine CE.region ?_
    refine WL.det (op_move rfl) rfl rfl rfl ?_
    refine WL.call (oc_call (vs := [.string (⟨(cB (tl s)).toArray⟩)]) (cap := []) rfl rfl rfl Tryd.call37 (c_readWhole (⟨(cB (tl s)).toArray⟩) (by first | assumption | omega | exact h5 _) w2 ((T.ext m1).ext m2))) rfl rfl (ltb rfl) ?_
    rintro _ w3 ⟨rfl, m3⟩
    refine WL.det (op_move rfl) rfl rfl rfl ?_
    refine WL.det (op_extract rfl rfl) rfl rfl rfl ?_
    refine WL.det (op_extract rfl rfl) rfl rfl rfl ?_
    refine WL.det (op_assign rfl) rfl rfl rfl ?_
    refine WL.det (op_assign rfl) rfl rfl rfl ?_
    refine WL.end ?_
    refine NE.code ?_
    refine CE.seq ?_
    refine CE.seq ?_
    refine CE.region ?_
    refine WL.det (op_move rfl) rfl rfl rfl ?_
    refine WL.det (op_not rfl) rfl rfl rfl ?_
    refine WL.det (op_move rfl) rfl rfl rfl ?_
    rcases Bool.eq_false_or_eq_true ((sgF (tl (⟨(cA (tl s)).toArray⟩))).isSome) with hb2 | hb2
    · refine WL.yes rfl rfl rfl (ltb rfl) rfl (bnot_t hb2) ?_
      refine WL.det (op_move rfl) rfl rfl rfl ?_
      refine WL.yes rfl rfl rfl (ltb rfl) rfl (bnot_t hb2) ?_
      refine WL.det (op_not rfl) rfl rfl rfl ?_
      refine WL.det (op_pick_f rfl (bnot_t hb2) rfl) rfl rfl rfl ?_
      refine WL.det (op_move rfl) rfl rfl rfl ?_
      rcases Bool.eq_false_or_eq_true ((wholeF (tl (⟨(cB (tl s)).toArray⟩))).isSome) with hb3 | hb3
      · refine WL.yes rfl rfl rfl (ltb rfl) rfl (bnot_t hb3) ?_
        refine WL.det (op_move rfl) rfl rfl rfl ?_
        refine WL.yes rfl rfl rfl (ltb rfl) rfl (bnot_t hb3) ?_
        refine WL.call (oc_call (vs := [vI (decV (tl (⟨(cB (tl s)).toArray⟩))), vI 2, vI 1024]) (cap := []) rfl rfl rfl Tryd.call27 (c_within (decV (tl (⟨(cB (tl s)).toArray⟩))) (2 : Int) (1024 : Int) w3)) rfl rfl (ltb rfl) ?_
        rintro _ _ ⟨rfl, rfl⟩
        refine WL.yes rfl rfl rfl (ltb rfl) rfl (bnot_t hb3) ?_
        refine WL.det (op_not rfl) rfl rfl rfl ?_
        refine WL.det (op_pick_f rfl (bnot_t hb3) rfl) rfl rfl rfl ?_
        refine WL.det (op_move rfl) rfl rfl rfl ?_
        rcases Bool.eq_false_or_eq_true (vIn (decV (tl (⟨(cB (tl s)).toArray⟩))) (2 : Int) (1024 : Int)) with hb4 | hb4
        · have hp4 := hb4; try simp only [Bool.and_eq_true, Bool.or_eq_true, Bool.not_eq_true', Bool.not_eq_false', Bool.and_eq_false_iff, Bool.or_eq_false_iff, decide_eq_true_eq, decide_eq_false_iff_not, beq_iff_eq, bne_iff_ne, beq_eq_false_iff_ne, bne_eq_false_iff_eq, ne_eq, Bool.false_eq_true, not_false_eq_true, not_true_eq_false, vIn_t, vIn_f] at hp4
          refine WL.yes rfl rfl rfl (ltb rfl) rfl (bnot_t hb4) ?_
          refine WL.det (op_move rfl) rfl rfl rfl ?_
          refine WL.yes rfl rfl rfl (ltb rfl) rfl (bnot_t hb4) ?_
          refine WL.det (op_move rfl) rfl rfl rfl ?_
          refine WL.yes rfl rfl rfl (ltb rfl) rfl (bnot_t hb4) ?_
          refine WL.det (op_sub (r := ((decV (tl (⟨(cB (tl s)).toArray⟩))) - (1 : Int))) rfl rfl (w_i64 (by omega) (by omega))) rfl rfl rfl ?_
          refine WL.yes rfl rfl rfl (ltb rfl) rfl (bnot_t hb4) ?_
          refine WL.det (op_and rfl rfl) rfl rfl rfl ?_
          refine WL.yes rfl rfl rfl (ltb rfl) rfl (bnot_t hb4) ?_
          refine WL.det (op_nei rfl rfl) rfl rfl rfl ?_
          refine WL.det (op_pick_f rfl (bnot_t hb4) rfl) rfl rfl rfl ?_
          refine WL.end ?_
          refine NE.code ?_
          rcases Bool.eq_false_or_eq_true (((bits .and .i64 (decV (tl (⟨(cB (tl s)).toArray⟩))) ((decV (tl (⟨(cB (tl s)).toArray⟩))) - (1 : Int))) != (0 : Int))) with hb5 | hb5
          · have hp5 := bne_iff_ne.1 hb5
            refine CE.cond_t rfl hb5 ?_
            refine CE.seq ?_
            refine CE.region ?_
            refine WL.det (op_assign rfl) rfl rfl rfl ?_
            refine WL.det (op_assign rfl) rfl rfl rfl ?_
            refine WL.end ?_
            refine NE.code ?_
            refine CE.ret' ?_
            refine XE.ret_then ?_
            refine XE.leaveT Tryd.results21 (res_tmp rfl (res_tmp rfl res_nil)) ?_
            refine ⟨0, ?_, ?_, ((((Mod.refl [] w).nt m1).nt m2).nt m3)⟩
            all_goals simp_all [frOk, frV, dOk, tl_mk]
          · have hp5 := bne_eq_false_iff_eq.1 hb5
            refine CE.cond_f rfl hb5 ?_
            refine CE.skip' ?_
            refine NE.code ?_
            refine CE.seq ?_
            refine CE.region ?_
            refine WL.det (op_move rfl) rfl rfl rfl ?_
            refine WL.det (op_cvt_if rfl Tryd.runUnderlying2 Tryd.runUnderlying22) rfl rfl rfl ?_
            refine WL.det (op_move rfl) rfl rfl rfl ?_
            refine WL.det (op_cvt_if rfl Tryd.runUnderlying2 Tryd.runUnderlying22) rfl rfl rfl ?_
            refine WL.op (op_farith (e := (fop .quo .f32 (FloatKind.f32.nearest (sgN (tl (⟨(cA (tl s)).toArray⟩)))) (FloatKind.f32.nearest (decV (tl (⟨(cB (tl s)).toArray⟩)))))) (.inr (.inr (.inr rfl))) rfl rfl rfl rfl rfl) rfl rfl (ltb rfl) ?_
            rintro _ w4 ⟨⟨f1, rfl, hf1, lf1⟩, m4⟩
            refine WL.det (op_assign rfl) rfl rfl rfl ?_
            refine WL.det (op_assign rfl) rfl rfl rfl ?_
            refine WL.end ?_
            refine NE.code ?_
            refine CE.ret' ?_
            refine XE.leaveT Tryd.results21 (res_tmp rfl (res_tmp rfl res_nil)) ?_
            refine ⟨f1, ?_, ?_, (((((Mod.refl [] w).nt m1).nt m2).nt m3).nt m4)⟩
            all_goals simp_all [frOk, frV, dOk, tl_mk]
        · have hp4 := hb4; try simp only [Bool.and_eq_true, Bool.or_eq_true, Bool.not_eq_true', Bool.not_eq_false', Bool.and_eq_false_iff, Bool.or_eq_false_iff, decide_eq_true_eq, decide_eq_false_iff_not, beq_iff_eq, bne_iff_ne, beq_eq_false_iff_ne, bne_eq_false_iff_eq, ne_eq, Bool.false_eq_true, not_false_eq_true, not_true_eq_false, vIn_t, vIn_f] at hp4
          refine WL.no rfl rfl rfl (ltb rfl) rfl (bnot_f hb4) rfl (ltb rfl) ?_
          refine WL.no rfl rfl rfl (ltb rfl) rfl (bnot_f hb4) rfl (ltb rfl) ?_
          refine WL.no rfl rfl rfl (ltb rfl) rfl (bnot_f hb4) rfl (ltb rfl) ?_
          refine WL.no rfl rfl rfl (ltb rfl) rfl (bnot_f hb4) rfl (ltb rfl) ?_
          refine WL.no rfl rfl rfl (ltb rfl) rfl (bnot_f hb4) rfl (ltb rfl) ?_
          refine WL.det (op_pick_t rfl (bnot_f hb4) rfl) rfl rfl rfl ?_
          refine WL.end ?_
          refine NE.code ?_
          refine CE.cond_t rfl rfl ?_
          refine CE.seq ?_
          refine CE.region ?_
          refine WL.det (op_assign rfl) rfl rfl rfl ?_
          refine WL.det (op_assign rfl) rfl rfl rfl ?_
          refine WL.end ?_
          refine NE.code ?_
          refine CE.ret' ?_
          refine XE.ret_then ?_
          refine XE.leaveT Tryd.results21 (res_tmp rfl (res_tmp rfl res_nil)) ?_
          refine ⟨0, ?_, ?_, ((((Mod.refl [] w).nt m1).nt m2).nt m3)⟩
          all_goals simp_all [frOk, frV, dOk, tl_mk]
      · refine WL.no rfl rfl rfl (ltb rfl) rfl (bnot_f hb3) rfl (ltb rfl) ?_
        refine WL.no rfl rfl rfl (ltb rfl) rfl (bnot_f hb3) rfl (ltb rfl) ?_
        refine WL.no rfl rfl rfl (ltb rfl) rfl (bnot_f hb3) rfl (ltb rfl) ?_
        refine WL.det (op_pick_t rfl (bnot_f hb3) rfl) rfl rfl rfl ?_
        refine WL.det (op_move rfl) rfl rfl rfl ?_
        refine WL.no rfl rfl rfl (ltb rfl) rfl rfl rfl (ltb rfl) ?_
        refine WL.no rfl rfl rfl (ltb rfl) rfl rfl rfl (ltb rfl) ?_
        refine WL.no rfl rfl rfl (ltb rfl) rfl rfl rfl (ltb rfl) ?_
        refine WL.no rfl rfl rfl (ltb rfl) rfl rfl rfl (ltb rfl) ?_
        refine WL.no rfl rfl rfl (ltb rfl) rfl rfl rfl (ltb rfl) ?_
        refine WL.det (op_pick_t rfl rfl rfl) rfl rfl rfl ?_
        refine WL.end ?_
        refine NE.code ?_
        refine CE.cond_t rfl rfl ?_
        refine CE.seq ?_
        refine CE.region ?_
        refine WL.det (op_assign rfl) rfl rfl rfl ?_
        refine WL.det (op_assign rfl) rfl rfl rfl ?_
        refine WL.end ?_
        refine NE.code ?_
        refine CE.ret' ?_
        refine XE.ret_then ?_
        refine XE.leaveT Tryd.results21 (res_tmp rfl (res_tmp rfl res_nil)) ?_
        refine ⟨0, ?_, ?_, ((((Mod.refl [] w).nt m1).nt m2).nt m3)⟩
        all_goals simp_all [frOk, frV, dOk, tl_mk]
    · refine WL.no rfl rfl rfl (ltb rfl) rfl (bnot_f hb2) rfl (ltb rfl) ?_
      refine WL.no rfl rfl rfl (ltb rfl) rfl (bnot_f hb2) rfl (ltb rfl) ?_
      refine WL.det (op_pick_t rfl (bnot_f hb2) rfl) rfl rfl rfl ?_
      refine WL.det (op_move rfl) rfl rfl rfl ?_
      refine WL.no rfl rfl rfl (ltb rfl) rfl rfl rfl (ltb rfl) ?_
      refine WL.no rfl rfl rfl (ltb rfl) rfl rfl rfl (ltb rfl) ?_
      refine WL.no rfl rfl rfl (ltb rfl) rfl rfl rfl (ltb rfl) ?_
      refine WL.det (op_pick_t rfl rfl rfl) rfl rfl rfl ?_
      refine WL.det (op_move rfl) rfl rfl rfl ?_
      refine WL.no rfl rfl rfl (ltb rfl) rfl rfl rfl (ltb rfl) ?_
      refine WL.no rfl rfl rfl (ltb rfl) rfl rfl rfl (ltb rfl) ?_
      refine WL.no rfl rfl rfl (ltb rfl) rfl rfl rfl (ltb rfl) ?_
      refine WL.no rfl rfl rfl (ltb rfl) rfl rfl rfl (ltb rfl) ?_
      refine WL.no rfl rfl rfl (ltb rfl) rfl rfl rfl (ltb rfl) ?_
      refine WL.det (op_pick_t rfl rfl rfl) rfl rfl rfl ?_
      refine WL.end ?_
      refine NE.code ?_
      refine CE.cond_t rfl rfl ?_
      refine CE.seq ?_
      refine CE.region ?_
      refine WL.det (op_assign rfl) rfl rfl rfl ?_
      refine WL.det (op_assign rfl) rfl rfl rfl ?_
      refine WL.end ?_
      refine NE.code ?_
      refine CE.ret' ?_
      refine XE.ret_then ?_
      refine XE.leaveT Tryd.results21 (res_tmp rfl (res_tmp rfl res_nil)) ?_
      refine ⟨0, ?_, ?_, ((((Mod.refl [] w).nt m1).nt m2).nt m3)⟩
      all_goals simp_all [frOk, frV, dOk, tl_mk]
  · refine CE.cond_t rfl (bnot_f hb1) ?_
    refine CE.seq ?_
    refine CE.region ?_
    refine WL.det (op_move rfl) rfl rfl rfl ?_
    refine WL.det (op_cvt_if rfl Tryd.runUnderlying2 Tryd.runUnderlying22) rfl rfl rfl ?_
    refine WL.det (op_move rfl) rfl rfl rfl ?_
    refine WL.det (op_assign rfl) rfl rfl rfl ?_
    refine WL.det (op_assign rfl) rfl rfl rfl ?_
    refine WL.end ?_
    refine NE.code ?_
    refine CE.ret' ?_
    refine XE.ret_then ?_
    refine XE.leaveT Tryd.results21 (res_tmp rfl (res_tmp rfl res_nil)) ?_
    refine ⟨(FloatKind.f32.nearest (sgN (tl (⟨(cA (tl s)).toArray⟩)))), ?_, ?_, (((Mod.refl [] w).nt m1).nt m2)⟩
    all_goals simp_all [frOk, frV, dOk, tl_mk]

set_option maxRecDepth 100000 in
set_option maxHeartbeats 2000000 in
theorem c_iFrac (s : ByteArray) (hs : s.size ≤ 1048576) (w : World) (T : LibR w LB 0 []) : Cl Tryd.prog 11 #[.string s] w fun v w' => ∃ (z : Nat), v = .tuple #[vF z, vI (if frOk (tl s) = true then (0 : Int) else 5)] ∧ (cn .f32 z = cn .f32 (if frOk (tl s) = true then frV (tl s) else 0)) ∧ Mod [] w w' := by
  refine Cl.of Tryd.func11 Tryd.ntmps11 rfl rfl (ρ := [(0, .string s)]) rfl ?_
  refine CE.seq ?_
  refine CE.region ?_
  refine WL.det (op_assign rfl) rfl rfl rfl ?_
  refine WL.det (op_assign rfl) rfl rfl rfl ?_
  refine WL.end ?_
  refine NE.code ?_
  refine CE.seq ?_
  refine CE.region ?_
  refine WL.det (op_move rfl) rfl rfl rfl ?_
  refine WL.call (oc_call (vs := [.string s]) (cap := []) rfl rfl rfl Tryd.call21 (c_readFrac s (by first | assumption | omega | exact h5 _) w T)) rfl rfl (ltb rfl) ?_
  rintro _ w1 ⟨z1, rfl, h1, m1⟩
  refine WL.det (op_move rfl) rfl rfl rfl ?_
  refine WL.det (op_extract rfl rfl) rfl rfl rfl ?_
  refine WL.det (op_extract rfl rfl) rfl rfl rfl ?_
  refine WL.det (op_assign rfl) rfl rfl rfl ?_
  refine WL.det (op_assign rfl) rfl rfl rfl ?_
  refine WL.end ?_
  refine NE.code ?_
  refine CE.seq ?_
  refine CE.seq ?_
  refine CE.region ?_
  refine WL.det (op_move rfl) rfl rfl rfl ?_
  refine WL.det (op_not rfl) rfl rfl rfl ?_
  refine WL.end ?_
  refine NE.code ?_
  rcases Bool.eq_false_or_eq_true (frOk (tl s)) with hb1 | hb1
  · refine CE.cond_f rfl (bnot_t hb1) ?_
    refine CE.skip' ?_
    refine NE.code ?_
    refine CE.seq ?_
    refine CE.region ?_
    refine WL.det (op_move rfl) rfl rfl rfl ?_
    refine WL.det (op_assign rfl) rfl rfl rfl ?_
    refine WL.det (op_assign rfl) rfl rfl rfl ?_
    refine WL.end ?_
    refine NE.code ?_
    refine CE.ret' ?_
    refine XE.leaveT Tryd.results11 (res_tmp rfl (res_tmp rfl res_nil)) ?_
    refine ⟨z1, ?_, ?_, ((Mod.refl [] w).nt m1)⟩
    all_goals simp_all
  · refine CE.cond_t rfl (bnot_f hb1) ?_
    refine CE.seq ?_
    refine CE.region ?_
    refine WL.det (op_assign rfl) rfl rfl rfl ?_
    refine WL.det (op_assign rfl) rfl rfl rfl ?_
    refine WL.end ?_
    refine NE.code ?_
    refine CE.ret' ?_
    refine XE.ret_then ?_
    refine XE.leaveT Tryd.results11 (res_tmp rfl (res_tmp rfl res_nil)) ?_
    refine ⟨0, ?_, ?_, ((Mod.refl [] w).nt m1)⟩
    all_goals simp_all

end Go.Proofs.YteonmpphpeopiaaDoor
