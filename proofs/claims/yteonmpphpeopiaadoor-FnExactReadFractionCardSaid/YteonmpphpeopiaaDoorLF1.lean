/- The law on fractions in texts, walked. -/
import Derived.Test.YteonmpphpeopiaaDoorR6
import Derived.Test.YteonmpphpeopiaaDoorE8
set_option linter.unusedVariables false
set_option linter.unusedSimpArgs false
namespace Go.Proofs.YteonmpphpeopiaaDoor

theorem c_sFrac2 (s : ByteArray) (hs : s.size ≤ 1048576) (w : World) : Cl Tryd.prog 10 #[.string s] w fun v w' => ∃ (z : Nat), v = .tuple #[vF z, vI (if frOk (tl s) = true then (0 : Int) else 5)] ∧ (cn .f32 z = cn .f32 (if frOk (tl s) = true then frV (tl s) else 0)) ∧ Mod [] w w' := by
  refine Cl.mono (c_sFrac s hs w) ?_
  rintro v w' ⟨z, rfl, h, m⟩
  obtain ⟨h1, h2⟩ := fr_ok s
  have e : (if frOkS s = true then frVS s else 0) = (if frOk (tl s) = true then frV (tl s) else 0) := by
    rw [h1]
    by_cases ho : frOk (tl s) = true
    · rw [if_pos ho, if_pos ho, h2 ho]
    · rw [if_neg ho, if_neg ho]
  rw [e] at h
  rw [h1]
  exact ⟨z, rfl, h, m⟩
set_option maxRecDepth 100000 in
set_option maxHeartbeats 8000000 in
theorem law_frac (s : ByteArray) (hs : s.size ≤ 1048576) (w : World) (T : LibR w LB 0 []) : Cl Tryd.prog 4 #[.string s] w fun v w' => v = .bool true ∧ Mod [] w w' := by
  refine Cl.of Tryd.func4 Tryd.ntmps4 rfl rfl (ρ := [(0, .string s)]) rfl ?_
  refine CE.seq ?_
  refine CE.region ?_
  refine WL.det (op_assign rfl) rfl rfl rfl ?_
  refine WL.end ?_
  refine NE.code ?_
  refine CE.seq ?_
  refine CE.seq ?_
  refine CE.region ?_
  refine WL.det (op_move rfl) rfl rfl rfl ?_
  refine WL.det (op_lens rfl Tryd.runUnderlying9) rfl rfl rfl ?_
  refine WL.det (op_gti rfl rfl) rfl rfl rfl ?_
  refine WL.end ?_
  refine NE.code ?_
  refine CE.cond_f rfl (decide_eq_false (by omega)) ?_
  refine CE.skip' ?_
  refine NE.code ?_
  refine CE.seq ?_
  refine CE.region ?_
  refine WL.det (op_move rfl) rfl rfl rfl ?_
  refine WL.call (oc_call (vs := [.string s]) (cap := []) rfl rfl rfl Tryd.call10 (c_sFrac2 s hs w)) rfl rfl (ltb rfl) ?_
  rintro _ w1 ⟨z1, rfl, h1, m1⟩
  refine WL.det (op_move rfl) rfl rfl rfl ?_
  refine WL.det (op_extract rfl rfl) rfl rfl rfl ?_
  refine WL.det (op_extract rfl rfl) rfl rfl rfl ?_
  refine WL.det (op_assign rfl) rfl rfl rfl ?_
  refine WL.det (op_assign rfl) rfl rfl rfl ?_
  refine WL.end ?_
  refine NE.code ?_
  refine CE.seq ?_
  refine CE.region ?_
  refine WL.det (op_move rfl) rfl rfl rfl ?_
  refine WL.call (oc_call (vs := [.string s]) (cap := []) rfl rfl rfl Tryd.call11 (c_iFrac s hs w1 (T.ext m1))) rfl rfl (ltb rfl) ?_
  rintro _ w2 ⟨z2, rfl, h2, m2⟩
  refine WL.det (op_move rfl) rfl rfl rfl ?_
  refine WL.det (op_extract rfl rfl) rfl rfl rfl ?_
  refine WL.det (op_extract rfl rfl) rfl rfl rfl ?_
  refine WL.det (op_assign rfl) rfl rfl rfl ?_
  refine WL.det (op_assign rfl) rfl rfl rfl ?_
  refine WL.end ?_
  refine NE.code ?_
  refine CE.seq ?_
  refine CE.seq ?_
  refine CE.region ?_
  refine WL.det (op_move rfl) rfl rfl rfl ?_
  refine WL.op (op_widen (e := (wide (if frOk (tl s) = true then frV (tl s) else 0))) rfl h2 Tryd.runUnderlying22 Tryd.runUnderlying35 rfl) rfl rfl (ltb rfl) ?_
  rintro _ w3 ⟨⟨f1, rfl, hf1, lf1⟩, m3⟩
  refine WL.det (op_move rfl) rfl rfl rfl ?_
  refine WL.op (op_widen (e := (wide (if frOk (tl s) = true then frV (tl s) else 0))) rfl h1 Tryd.runUnderlying22 Tryd.runUnderlying35 rfl) rfl rfl (ltb rfl) ?_
  rintro _ w4 ⟨⟨f2, rfl, hf2, lf2⟩, m4⟩
  refine WL.call (oc_call (vs := [.float .f64 f1, .float .f64 f2]) (cap := []) rfl rfl rfl Tryd.call12 (c_sameFloat f1 (wide (if frOk (tl s) = true then frV (tl s) else 0)) f2 (wide (if frOk (tl s) = true then frV (tl s) else 0)) hf1 hf2 w4)) rfl rfl (ltb rfl) ?_
  rintro _ w5 ⟨rfl, m5⟩
  refine WL.det (op_not rfl) rfl rfl rfl ?_
  refine WL.det (op_move rfl) rfl rfl rfl ?_
  refine WL.yes rfl rfl rfl (ltb rfl) rfl (bnot_t (sameF_self _)) ?_
  refine WL.det (op_move rfl) rfl rfl rfl ?_
  refine WL.yes rfl rfl rfl (ltb rfl) rfl (bnot_t (sameF_self _)) ?_
  refine WL.det (op_move rfl) rfl rfl rfl ?_
  refine WL.yes rfl rfl rfl (ltb rfl) rfl (bnot_t (sameF_self _)) ?_
  refine WL.det (op_nei_f rfl rfl rfl) rfl rfl rfl ?_
  refine WL.det (op_pick_f rfl (bnot_t (sameF_self _)) rfl) rfl rfl rfl ?_
  refine WL.end ?_
  refine NE.code ?_
  refine CE.cond_f rfl rfl ?_
  refine CE.skip' ?_
  refine NE.code ?_
  refine CE.seq ?_
  refine CE.region ?_
  refine WL.det (op_assign rfl) rfl rfl rfl ?_
  refine WL.end ?_
  refine NE.code ?_
  refine CE.ret' ?_
  refine XE.leave1 Tryd.results4 rfl ?_
  refine ⟨rfl, ((((((Mod.refl [] w).nt m1).nt m2).nt m3).nt m4).nt m5)⟩

set_option maxRecDepth 100000 in
set_option maxHeartbeats 8000000 in
theorem law_frac_over (s : ByteArray) (hl : 1048576 < s.size) (w : World) : Cl Tryd.prog 4 #[.string s] w fun v w' => v = .bool true ∧ Mod [] w w' := by
  refine Cl.of Tryd.func4 Tryd.ntmps4 rfl rfl (ρ := [(0, .string s)]) rfl ?_
  refine CE.seq ?_
  refine CE.region ?_
  refine WL.det (op_assign rfl) rfl rfl rfl ?_
  refine WL.end ?_
  refine NE.code ?_
  refine CE.seq ?_
  refine CE.seq ?_
  refine CE.region ?_
  refine WL.det (op_move rfl) rfl rfl rfl ?_
  refine WL.det (op_lens rfl Tryd.runUnderlying9) rfl rfl rfl ?_
  refine WL.det (op_gti rfl rfl) rfl rfl rfl ?_
  refine WL.end ?_
  refine NE.code ?_
  refine CE.cond_t rfl (decide_eq_true (by omega)) ?_
  refine CE.seq ?_
  refine CE.region ?_
  refine WL.det (op_assign rfl) rfl rfl rfl ?_
  refine WL.end ?_
  refine NE.code ?_
  refine CE.ret' ?_
  refine XE.ret_then ?_
  refine XE.leave1 Tryd.results4 rfl ?_
  refine ⟨rfl, (Mod.refl [] w)⟩

end Go.Proofs.YteonmpphpeopiaaDoor
