/- What the functions on a free voice compute. -/
import Derived.Test.YtdopidalhkcefaaB2
set_option linter.unusedVariables false
set_option linter.unusedSimpArgs false
namespace Go.Proofs.Ytdopidalhkcefaa

set_option maxRecDepth 100000 in
set_option maxHeartbeats 2000000 in
theorem c_eqRing (nr : Nat) (cr : Nat) (Ar : Option Addr) (br : Nat) (or : Nat) (xr : List Nat) (j : Int) (cr' : Nat) (Ar' : Option Addr) (br' : Nat) (or' : Nat) (lnr : xr.length = nr) (hAr : 0 < nr → Ar = some ⟨br, or, none⟩) (hAr' : 0 < nr → Ar' = some ⟨br', or', none⟩) (hbnr : nr ≤ 9223372036854775807) (w : World) (rr : Rng w br or (fl xr)) (rr' : Rng w br' or' (fl xr)) : Cl Try.prog 40 #[.agg #[.slice Ar nr cr, vI j], .agg #[.slice Ar' nr cr', vI j]] w fun v w' => v = .bool true ∧ Mod [] w w' := by
  refine Cl.of Try.func40 Try.ntmps40 rfl rfl (ρ := [(0, .agg #[.slice Ar nr cr, vI j]), (1, .agg #[.slice Ar' nr cr', vI j])]) rfl ?_
  refine CE.seq ?_
  refine CE.region ?_
  refine WL.op (op_box (cs := [.slice Ar nr cr, vI j]) rfl rfl) rfl rfl (ltb rfl) ?_
  rintro _ w1 ⟨rfl, r1, m1, z1⟩
  refine WL.op (op_box (cs := [.slice Ar' nr cr', vI j]) rfl rfl) rfl rfl (ltb rfl) ?_
  rintro _ w2 ⟨rfl, r2, m2, z2⟩
  refine WL.det (op_assign rfl) rfl rfl rfl ?_
  refine WL.end ?_
  refine NE.code ?_
  refine CE.seq ?_
  refine CE.seq ?_
  refine CE.region ?_
  refine WL.det (op_fieldAddr (off' := 0) rfl Try.runUnderlying25 rfl rfl Try.sizeOf23 rfl) rfl rfl rfl ?_
  refine WL.det (op_load1 (i := 0) rfl Try.isAgg23 (r1.ext m2).rng rfl rfl) rfl rfl rfl ?_
  refine WL.det (op_fieldAddr (off' := 0) rfl Try.runUnderlying25 rfl rfl Try.sizeOf23 rfl) rfl rfl rfl ?_
  refine WL.det (op_load1 (i := 0) rfl Try.isAgg23 r2.rng rfl rfl) rfl rfl rfl ?_
  refine WL.call (oc_call (vs := [.slice Ar nr cr, .slice Ar' nr cr']) (cap := []) rfl rfl rfl Try.call43 (c_eq32_same nr cr Ar br or xr cr' Ar' br' or' lnr hAr hAr' (by omega) w2 ((rr.ext m1).ext m2) ((rr'.ext m1).ext m2))) rfl rfl (ltb rfl) ?_
  rintro _ w3 ⟨rfl, m3⟩
  refine WL.det (op_not rfl) rfl rfl rfl ?_
  refine WL.end ?_
  refine NE.code ?_
  refine CE.cond_f rfl rfl ?_
  refine CE.skip' ?_
  refine NE.code ?_
  refine CE.seq ?_
  refine CE.seq ?_
  refine CE.region ?_
  refine WL.det (op_fieldAddr (off' := 1) rfl Try.runUnderlying25 rfl rfl Try.sizeOf2 rfl) rfl rfl rfl ?_
  refine WL.det (op_load1 (i := 1) rfl Try.isAgg2 ((r1.ext m2).ext m3).rng rfl rfl) rfl rfl rfl ?_
  refine WL.det (op_fieldAddr (off' := 1) rfl Try.runUnderlying25 rfl rfl Try.sizeOf2 rfl) rfl rfl rfl ?_
  refine WL.det (op_load1 (i := 1) rfl Try.isAgg2 (r2.ext m3).rng rfl rfl) rfl rfl rfl ?_
  refine WL.det (op_nei_f rfl rfl rfl) rfl rfl rfl ?_
  refine WL.end ?_
  refine NE.code ?_
  refine CE.cond_f rfl rfl ?_
  refine CE.skip' ?_
  refine NE.code ?_
  refine CE.seq ?_
  refine CE.region ?_
  refine WL.det (op_assign rfl) rfl rfl rfl ?_
  refine WL.end ?_
  refine NE.code ?_
  refine CE.ret' ?_
  refine XE.leave1 Try.results40 rfl ?_
  refine ⟨rfl, ((((Mod.refl [] w).nt m1).nt m2).nt m3)⟩

set_option maxRecDepth 100000 in
set_option maxHeartbeats 2000000 in
theorem c_eqRing_cn (nr : Nat) (cr : Nat) (Ar : Option Addr) (br : Nat) (or : Nat) (xr : List Nat) (cr' : Nat) (Ar' : Option Addr) (br' : Nat) (or' : Nat) (xr' : List Nat) (j : Int) (lnr : xr.length = nr) (hAr : 0 < nr → Ar = some ⟨br, or, none⟩) (wr : W32 xr) (lnr' : xr'.length = nr) (hAr' : 0 < nr → Ar' = some ⟨br', or', none⟩) (wr' : W32 xr') (er : Cn xr xr') (hbnr : nr ≤ 9223372036854775807) (w : World) (rr : Rng w br or (fl xr)) (rr' : Rng w br' or' (fl xr')) : Cl Try.prog 40 #[.agg #[.slice Ar nr cr, vI j], .agg #[.slice Ar' nr cr', vI j]] w fun v w' => v = .bool true ∧ Mod [] w w' := by
  refine Cl.of Try.func40 Try.ntmps40 rfl rfl (ρ := [(0, .agg #[.slice Ar nr cr, vI j]), (1, .agg #[.slice Ar' nr cr', vI j])]) rfl ?_
  refine CE.seq ?_
  refine CE.region ?_
  refine WL.op (op_box (cs := [.slice Ar nr cr, vI j]) rfl rfl) rfl rfl (ltb rfl) ?_
  rintro _ w1 ⟨rfl, r1, m1, z1⟩
  refine WL.op (op_box (cs := [.slice Ar' nr cr', vI j]) rfl rfl) rfl rfl (ltb rfl) ?_
  rintro _ w2 ⟨rfl, r2, m2, z2⟩
  refine WL.det (op_assign rfl) rfl rfl rfl ?_
  refine WL.end ?_
  refine NE.code ?_
  refine CE.seq ?_
  refine CE.seq ?_
  refine CE.region ?_
  refine WL.det (op_fieldAddr (off' := 0) rfl Try.runUnderlying25 rfl rfl Try.sizeOf23 rfl) rfl rfl rfl ?_
  refine WL.det (op_load1 (i := 0) rfl Try.isAgg23 (r1.ext m2).rng rfl rfl) rfl rfl rfl ?_
  refine WL.det (op_fieldAddr (off' := 0) rfl Try.runUnderlying25 rfl rfl Try.sizeOf23 rfl) rfl rfl rfl ?_
  refine WL.det (op_load1 (i := 0) rfl Try.isAgg23 r2.rng rfl rfl) rfl rfl rfl ?_
  refine WL.call (oc_call (vs := [.slice Ar nr cr, .slice Ar' nr cr']) (cap := []) rfl rfl rfl Try.call43 (c_eq32 nr cr Ar br or xr cr' Ar' br' or' xr' lnr lnr' hAr hAr' wr wr' (by first | assumption | exact Cn.set (Cn.refl _) (by assumption) _ | exact Cn.eq2 (by assumption) (by assumption)) (by omega) w2 ((rr.ext m1).ext m2) ((rr'.ext m1).ext m2))) rfl rfl (ltb rfl) ?_
  rintro _ w3 ⟨rfl, m3⟩
  refine WL.det (op_not rfl) rfl rfl rfl ?_
  refine WL.end ?_
  refine NE.code ?_
  refine CE.cond_f rfl rfl ?_
  refine CE.skip' ?_
  refine NE.code ?_
  refine CE.seq ?_
  refine CE.seq ?_
  refine CE.region ?_
  refine WL.det (op_fieldAddr (off' := 1) rfl Try.runUnderlying25 rfl rfl Try.sizeOf2 rfl) rfl rfl rfl ?_
  refine WL.det (op_load1 (i := 1) rfl Try.isAgg2 ((r1.ext m2).ext m3).rng rfl rfl) rfl rfl rfl ?_
  refine WL.det (op_fieldAddr (off' := 1) rfl Try.runUnderlying25 rfl rfl Try.sizeOf2 rfl) rfl rfl rfl ?_
  refine WL.det (op_load1 (i := 1) rfl Try.isAgg2 (r2.ext m3).rng rfl rfl) rfl rfl rfl ?_
  refine WL.det (op_nei_f rfl rfl rfl) rfl rfl rfl ?_
  refine WL.end ?_
  refine NE.code ?_
  refine CE.cond_f rfl rfl ?_
  refine CE.skip' ?_
  refine NE.code ?_
  refine CE.seq ?_
  refine CE.region ?_
  refine WL.det (op_assign rfl) rfl rfl rfl ?_
  refine WL.end ?_
  refine NE.code ?_
  refine CE.ret' ?_
  refine XE.leave1 Try.results40 rfl ?_
  refine ⟨rfl, ((((Mod.refl [] w).nt m1).nt m2).nt m3)⟩

set_option maxRecDepth 100000 in
set_option maxHeartbeats 2000000 in
theorem c_markRing (nr : Nat) (cr : Nat) (br : Nat) (xr : List Nat) (j : Int) (k : Nat) (lnr : xr.length = nr) (hnnr : nr ≤ 1048576) (hk : k ≤ 68719476736) (w : World) (rr : Row w br 0 (fl xr)) : Cl Try.prog 44 #[.agg #[vS br 0 nr cr, vI j], vI ((k : Nat) : Int)] w fun v w' => v = vI ((k + nr : Nat) : Int) ∧ Row w' br 0 (fl (marks xr k nr)) ∧ Mod [br] w w' := by
  refine Cl.of Try.func44 Try.ntmps44 rfl rfl (ρ := [(0, .agg #[vS br 0 nr cr, vI j]), (1, vI ((k : Nat) : Int))]) rfl ?_
  refine CE.seq ?_
  refine CE.region ?_
  refine WL.op (op_box (cs := [vS br 0 nr cr, vI j]) rfl rfl) rfl rfl (ltb rfl) ?_
  rintro _ w1 ⟨rfl, r1, m1, z1⟩
  refine WL.det (op_assign rfl) rfl rfl rfl ?_
  refine WL.end ?_
  refine NE.code ?_
  refine CE.seq ?_
  refine CE.region ?_
  refine WL.det (op_fieldAddr (off' := 0) rfl Try.runUnderlying25 rfl rfl Try.sizeOf23 rfl) rfl rfl rfl ?_
  refine WL.det (op_load1 (i := 0) rfl Try.isAgg23 r1.rng rfl rfl) rfl rfl rfl ?_
  refine WL.det (op_move rfl) rfl rfl rfl ?_
  refine WL.call (oc_call (vs := [vS br 0 nr cr, vI ((k : Nat) : Int)]) (cap := []) rfl rfl rfl Try.call46 (c_mark32 nr cr (some ⟨br, 0, none⟩) br 0 xr k lnr (fun _ => rfl) (by omega) (by omega) w1 (rr.ext m1))) rfl rfl (ltb rfl) ?_
  rintro _ w2 ⟨rfl, r2, m2⟩
  refine WL.det (op_assign rfl) rfl rfl rfl ?_
  refine WL.end ?_
  refine NE.code ?_
  refine CE.seq ?_
  refine CE.region ?_
  refine WL.det (op_move rfl) rfl rfl rfl ?_
  refine WL.det (op_assign rfl) rfl rfl rfl ?_
  refine WL.end ?_
  refine NE.code ?_
  refine CE.ret' ?_
  refine XE.leave1 Try.results44 rfl ?_
  refine ⟨rfl, r2, (((Mod.refl [br] w).nt m1).then m2 ((aC (.inl (by simp)) aN)))⟩

set_option maxRecDepth 100000 in
set_option maxHeartbeats 2000000 in
theorem c_heldRing (nr : Nat) (cr : Nat) (br : Nat) (xr : List Nat) (j : Int) (k : Nat) (lnr : xr.length = nr) (hnnr : nr ≤ 1048576) (hk : k ≤ 68719476736) (hhr : Held xr k nr) (w : World) (rr : Rng w br 0 (fl xr)) : Cl Try.prog 47 #[.agg #[vS br 0 nr cr, vI j], vI ((k : Nat) : Int)] w fun v w' => v = vI ((k + nr : Nat) : Int) ∧ Mod [] w w' := by
  refine Cl.of Try.func47 Try.ntmps47 rfl rfl (ρ := [(0, .agg #[vS br 0 nr cr, vI j]), (1, vI ((k : Nat) : Int))]) rfl ?_
  refine CE.seq ?_
  refine CE.region ?_
  refine WL.op (op_box (cs := [vS br 0 nr cr, vI j]) rfl rfl) rfl rfl (ltb rfl) ?_
  rintro _ w1 ⟨rfl, r1, m1, z1⟩
  refine WL.det (op_assign rfl) rfl rfl rfl ?_
  refine WL.end ?_
  refine NE.code ?_
  refine CE.seq ?_
  refine CE.region ?_
  refine WL.det (op_fieldAddr (off' := 0) rfl Try.runUnderlying25 rfl rfl Try.sizeOf23 rfl) rfl rfl rfl ?_
  refine WL.det (op_load1 (i := 0) rfl Try.isAgg23 r1.rng rfl rfl) rfl rfl rfl ?_
  refine WL.det (op_move rfl) rfl rfl rfl ?_
  refine WL.call (oc_call (vs := [vS br 0 nr cr, vI ((k : Nat) : Int)]) (cap := []) rfl rfl rfl Try.call49 (c_held32 nr cr (some ⟨br, 0, none⟩) br 0 xr k lnr (fun _ => rfl) (by omega) (by omega) (by first | assumption | exact marks_held _ _ _) w1 (rr.ext m1))) rfl rfl (ltb rfl) ?_
  rintro _ w2 ⟨rfl, m2⟩
  refine WL.det (op_assign rfl) rfl rfl rfl ?_
  refine WL.end ?_
  refine NE.code ?_
  refine CE.seq ?_
  refine CE.seq ?_
  refine CE.region ?_
  refine WL.det (op_move rfl) rfl rfl rfl ?_
  refine WL.det (op_lti_f rfl rfl (by omega)) rfl rfl rfl ?_
  refine WL.end ?_
  refine NE.code ?_
  refine CE.cond_f rfl rfl ?_
  refine CE.skip' ?_
  refine NE.code ?_
  refine CE.seq ?_
  refine CE.region ?_
  refine WL.det (op_move rfl) rfl rfl rfl ?_
  refine WL.det (op_assign rfl) rfl rfl rfl ?_
  refine WL.end ?_
  refine NE.code ?_
  refine CE.ret' ?_
  refine XE.leave1 Try.results47 rfl ?_
  refine ⟨rfl, (((Mod.refl [] w).nt m1).nt m2)⟩

set_option maxRecDepth 100000 in
set_option maxHeartbeats 2000000 in
theorem c_markRing_nil (j : Int) (k : Nat) (hk : k ≤ 1048576) (w : World) : Cl Try.prog 44 #[.agg #[.slice none 0 0, vI j], vI ((k : Nat) : Int)] w fun v w' => v = vI ((k : Nat) : Int) ∧ Mod [] w w' := by
  refine Cl.of Try.func44 Try.ntmps44 rfl rfl (ρ := [(0, .agg #[.slice none 0 0, vI j]), (1, vI ((k : Nat) : Int))]) rfl ?_
  refine CE.seq ?_
  refine CE.region ?_
  refine WL.op (op_box (cs := [.slice none 0 0, vI j]) rfl rfl) rfl rfl (ltb rfl) ?_
  rintro _ w1 ⟨rfl, r1, m1, z1⟩
  refine WL.det (op_assign rfl) rfl rfl rfl ?_
  refine WL.end ?_
  refine NE.code ?_
  refine CE.seq ?_
  refine CE.region ?_
  refine WL.det (op_fieldAddr (off' := 0) rfl Try.runUnderlying25 rfl rfl Try.sizeOf23 rfl) rfl rfl rfl ?_
  refine WL.det (op_load1 (i := 0) rfl Try.isAgg23 r1.rng rfl rfl) rfl rfl rfl ?_
  refine WL.det (op_move rfl) rfl rfl rfl ?_
  refine WL.call (oc_call (vs := [.slice none 0 0, vI ((k : Nat) : Int)]) (cap := []) rfl rfl rfl Try.call46 (c_mark32_nil k w1)) rfl rfl (ltb rfl) ?_
  rintro _ _ ⟨rfl, rfl⟩
  refine WL.det (op_assign rfl) rfl rfl rfl ?_
  refine WL.end ?_
  refine NE.code ?_
  refine CE.seq ?_
  refine CE.region ?_
  refine WL.det (op_move rfl) rfl rfl rfl ?_
  refine WL.det (op_assign rfl) rfl rfl rfl ?_
  refine WL.end ?_
  refine NE.code ?_
  refine CE.ret' ?_
  refine XE.leave1 Try.results44 rfl ?_
  refine ⟨rfl, ((Mod.refl [] w).nt m1)⟩

set_option maxRecDepth 100000 in
set_option maxHeartbeats 2000000 in
theorem c_heldRing_nil (j : Int) (k : Nat) (hk : k ≤ 1048576) (w : World) : Cl Try.prog 47 #[.agg #[.slice none 0 0, vI j], vI ((k : Nat) : Int)] w fun v w' => v = vI ((k : Nat) : Int) ∧ Mod [] w w' := by
  refine Cl.of Try.func47 Try.ntmps47 rfl rfl (ρ := [(0, .agg #[.slice none 0 0, vI j]), (1, vI ((k : Nat) : Int))]) rfl ?_
  refine CE.seq ?_
  refine CE.region ?_
  refine WL.op (op_box (cs := [.slice none 0 0, vI j]) rfl rfl) rfl rfl (ltb rfl) ?_
  rintro _ w1 ⟨rfl, r1, m1, z1⟩
  refine WL.det (op_assign rfl) rfl rfl rfl ?_
  refine WL.end ?_
  refine NE.code ?_
  refine CE.seq ?_
  refine CE.region ?_
  refine WL.det (op_fieldAddr (off' := 0) rfl Try.runUnderlying25 rfl rfl Try.sizeOf23 rfl) rfl rfl rfl ?_
  refine WL.det (op_load1 (i := 0) rfl Try.isAgg23 r1.rng rfl rfl) rfl rfl rfl ?_
  refine WL.det (op_move rfl) rfl rfl rfl ?_
  refine WL.call (oc_call (vs := [.slice none 0 0, vI ((k : Nat) : Int)]) (cap := []) rfl rfl rfl Try.call49 (c_held32 0 0 none 0 0 [] k rfl (fun h => absurd h (Nat.lt_irrefl _)) (by omega) (by omega) (by first | assumption | exact marks_held _ _ _) w1 (Rng.nil _ _ _))) rfl rfl (ltb rfl) ?_
  rintro _ w2 ⟨rfl, m2⟩
  refine WL.det (op_assign rfl) rfl rfl rfl ?_
  refine WL.end ?_
  refine NE.code ?_
  refine CE.seq ?_
  refine CE.seq ?_
  refine CE.region ?_
  refine WL.det (op_move rfl) rfl rfl rfl ?_
  refine WL.det (op_lti_f rfl rfl (by omega)) rfl rfl rfl ?_
  refine WL.end ?_
  refine NE.code ?_
  refine CE.cond_f rfl rfl ?_
  refine CE.skip' ?_
  refine NE.code ?_
  refine CE.seq ?_
  refine CE.region ?_
  refine WL.det (op_move rfl) rfl rfl rfl ?_
  refine WL.det (op_assign rfl) rfl rfl rfl ?_
  refine WL.end ?_
  refine NE.code ?_
  refine CE.ret' ?_
  refine XE.leave1 Try.results47 rfl ?_
  refine ⟨?_, (((Mod.refl [] w).nt m1).nt m2)⟩
  all_goals simp_all

set_option maxRecDepth 100000 in
set_option maxHeartbeats 2000000 in
theorem c_eqA2 (a0 : Nat) (a1 : Nat) (e0 : Nat) (e1 : Nat) (a0' : Nat) (a1' : Nat) (ha0 : cn .f32 a0 = cn .f32 e0) (ha1 : cn .f32 a1 = cn .f32 e1) (ha0' : cn .f32 a0' = cn .f32 e0) (ha1' : cn .f32 a1' = cn .f32 e1) (w : World) : Cl Try.prog 64 #[.agg #[vF a0, vF a1], .agg #[vF a0', vF a1']] w fun v w' => v = .bool true ∧ Mod [] w w' := by
  refine Cl.of Try.func64 Try.ntmps64 rfl rfl (ρ := [(0, .agg #[vF a0, vF a1]), (1, .agg #[vF a0', vF a1'])]) rfl ?_
  refine CE.seq ?_
  refine CE.region ?_
  refine WL.op (op_box (cs := [vF a0, vF a1]) rfl rfl) rfl rfl (ltb rfl) ?_
  rintro _ w1 ⟨rfl, r1, m1, z1⟩
  refine WL.op (op_box (cs := [vF a0', vF a1']) rfl rfl) rfl rfl (ltb rfl) ?_
  rintro _ w2 ⟨rfl, r2, m2, z2⟩
  refine WL.det (op_assign rfl) rfl rfl rfl ?_
  refine WL.end ?_
  refine NE.code ?_
  refine CE.seq ?_
  refine CE.seq ?_
  refine CE.region ?_
  refine WL.det (op_assign rfl) rfl rfl rfl ?_
  refine WL.end ?_
  refine NE.code ?_
  refine CE.block ?_
  refine CE.rounds 3 ?_
  refine RN.one ?_
  refine CE.seq ?_
  refine CE.seq ?_
  refine CE.region ?_
  refine WL.det (op_move rfl) rfl rfl rfl ?_
  refine WL.det (op_lti rfl rfl) rfl rfl rfl ?_
  refine WL.end ?_
  refine NE.code ?_
  refine CE.cond_t rfl rfl ?_
  refine CE.skip' ?_
  refine NE.code ?_
  refine CE.seq ?_
  refine CE.block ?_
  refine CE.seq ?_
  refine CE.draw (fun _ => none) [0, 1, 2, 3, 4, 5, 6, 7] [8, 9] [] (by kernel_rfl) (by kernel_rfl) ?_
  have md1 : Mod [] w2 w2.drew := (Mod.refl _ _).drew
  generalize w2.drew = w3 at md1 ⊢
  refine DR.det (i := 0) rfl rfl (by kernel_rfl) (.free rfl) rfl rfl (fun wD mD => op_move rfl) ?_
  refine DR.det (i := 1) rfl rfl (by kernel_rfl) (.free rfl) rfl rfl (fun wD mD => op_indexArr (off' := 0) rfl rfl Try.runUnderlying27 Try.sizeOf22 (by decide) (by decide) rfl) ?_
  refine DR.det (i := 2) rfl rfl (by kernel_rfl) (.free rfl) rfl rfl (fun wD mD => op_load1 (i := 0) rfl Try.isAgg22 (((r1.ext m2).ext md1).ext mD).rng rfl rfl) ?_
  refine DR.op (i := 3) (FOut .f64 (wide e0)) rfl rfl (by kernel_rfl) (.free rfl) rfl (ltb rfl) (fun wD mD => op_widen (e := (wide e0)) rfl ha0 Try.runUnderlying22 Try.runUnderlying59 rfl) ?_
  rintro _ ⟨f1, rfl, hf1, lf1⟩
  refine DR.det (i := 4) rfl rfl (by kernel_rfl) (.free rfl) rfl rfl (fun wD mD => op_move rfl) ?_
  refine DR.det (i := 5) rfl rfl (by kernel_rfl) (.free rfl) rfl rfl (fun wD mD => op_indexArr (off' := 0) rfl rfl Try.runUnderlying27 Try.sizeOf22 (by decide) (by decide) rfl) ?_
  refine DR.det (i := 6) rfl rfl (by kernel_rfl) (.free rfl) rfl rfl (fun wD mD => op_load1 (i := 0) rfl Try.isAgg22 ((r2.ext md1).ext mD).rng rfl rfl) ?_
  refine DR.op (i := 7) (FOut .f64 (wide e0)) rfl rfl (by kernel_rfl) (.free rfl) rfl (ltb rfl) (fun wD mD => op_widen (e := (wide e0)) rfl ha0' Try.runUnderlying22 Try.runUnderlying59 rfl) ?_
  rintro _ ⟨f2, rfl, hf2, lf2⟩
  refine DR.done rfl ?_
  intro w4 m3
  refine WO.call rfl (.free rfl) rfl (ltb rfl) (oc_call (vs := [.float .f64 f1, .float .f64 f2]) (cap := []) rfl rfl rfl Try.call15 (c_sameFloat f1 (wide e0) f2 (wide e0) hf1 hf2 w4)) ?_
  rintro _ w5 ⟨rfl, m4⟩
  refine WO.det (op_not rfl) rfl (.free rfl) rfl rfl ?_
  refine WO.end ?_
  refine NE.code ?_
  refine CE.cond_f rfl (bnot_t (sameF_self _)) ?_
  refine CE.skip' ?_
  refine NE.blk ?_
  refine NE.code ?_
  refine CE.region ?_
  refine WL.det (op_move rfl) rfl rfl rfl ?_
  refine WL.det (op_add (r := 1) rfl rfl (by decide)) rfl rfl rfl ?_
  refine WL.det (op_assign rfl) rfl rfl rfl ?_
  refine WL.end ?_
  refine NE.round ?_
  refine RN.one ?_
  refine CE.seq ?_
  refine CE.seq ?_
  refine CE.region ?_
  refine WL.det (op_move rfl) rfl rfl rfl ?_
  refine WL.det (op_lti rfl rfl) rfl rfl rfl ?_
  refine WL.end ?_
  refine NE.code ?_
  refine CE.cond_t rfl rfl ?_
  refine CE.skip' ?_
  refine NE.code ?_
  refine CE.seq ?_
  refine CE.block ?_
  refine CE.seq ?_
  refine CE.draw (fun _ => none) [0, 1, 2, 3, 4, 5, 6, 7] [8, 9] [] (by kernel_rfl) (by kernel_rfl) ?_
  have md2 : Mod [] w5 w5.drew := (Mod.refl _ _).drew
  generalize w5.drew = w6 at md2 ⊢
  refine DR.det (i := 0) rfl rfl (by kernel_rfl) (.free rfl) rfl rfl (fun wD mD => op_move rfl) ?_
  refine DR.det (i := 1) rfl rfl (by kernel_rfl) (.free rfl) rfl rfl (fun wD mD => op_indexArr (off' := 1) rfl rfl Try.runUnderlying27 Try.sizeOf22 (by decide) (by decide) rfl) ?_
  refine DR.det (i := 2) rfl rfl (by kernel_rfl) (.free rfl) rfl rfl (fun wD mD => op_load1 (i := 1) rfl Try.isAgg22 ((((((r1.ext m2).ext md1).ext m3).ext m4).ext md2).ext mD).rng rfl rfl) ?_
  refine DR.op (i := 3) (FOut .f64 (wide e1)) rfl rfl (by kernel_rfl) (.free rfl) rfl (ltb rfl) (fun wD mD => op_widen (e := (wide e1)) rfl ha1 Try.runUnderlying22 Try.runUnderlying59 rfl) ?_
  rintro _ ⟨f3, rfl, hf3, lf3⟩
  refine DR.det (i := 4) rfl rfl (by kernel_rfl) (.free rfl) rfl rfl (fun wD mD => op_move rfl) ?_
  refine DR.det (i := 5) rfl rfl (by kernel_rfl) (.free rfl) rfl rfl (fun wD mD => op_indexArr (off' := 1) rfl rfl Try.runUnderlying27 Try.sizeOf22 (by decide) (by decide) rfl) ?_
  refine DR.det (i := 6) rfl rfl (by kernel_rfl) (.free rfl) rfl rfl (fun wD mD => op_load1 (i := 1) rfl Try.isAgg22 (((((r2.ext md1).ext m3).ext m4).ext md2).ext mD).rng rfl rfl) ?_
  refine DR.op (i := 7) (FOut .f64 (wide e1)) rfl rfl (by kernel_rfl) (.free rfl) rfl (ltb rfl) (fun wD mD => op_widen (e := (wide e1)) rfl ha1' Try.runUnderlying22 Try.runUnderlying59 rfl) ?_
  rintro _ ⟨f4, rfl, hf4, lf4⟩
  refine DR.done rfl ?_
  intro w7 m5
  refine WO.call rfl (.free rfl) rfl (ltb rfl) (oc_call (vs := [.float .f64 f3, .float .f64 f4]) (cap := []) rfl rfl rfl Try.call15 (c_sameFloat f3 (wide e1) f4 (wide e1) hf3 hf4 w7)) ?_
  rintro _ w8 ⟨rfl, m6⟩
  refine WO.det (op_not rfl) rfl (.free rfl) rfl rfl ?_
  refine WO.end ?_
  refine NE.code ?_
  refine CE.cond_f rfl (bnot_t (sameF_self _)) ?_
  refine CE.skip' ?_
  refine NE.blk ?_
  refine NE.code ?_
  refine CE.region ?_
  refine WL.det (op_move rfl) rfl rfl rfl ?_
  refine WL.det (op_add (r := 2) rfl rfl (by decide)) rfl rfl rfl ?_
  refine WL.det (op_assign rfl) rfl rfl rfl ?_
  refine WL.end ?_
  refine NE.round ?_
  refine RN.one ?_
  refine CE.seq ?_
  refine CE.seq ?_
  refine CE.region ?_
  refine WL.det (op_move rfl) rfl rfl rfl ?_
  refine WL.det (op_lti rfl rfl) rfl rfl rfl ?_
  refine WL.end ?_
  refine NE.code ?_
  refine CE.cond_f rfl rfl ?_
  refine CE.exit' ?_
  refine XE.exit_then ?_
  refine XE.exit_then ?_
  refine XE.exit_here ?_
  refine NE.code ?_
  refine CE.seq ?_
  refine CE.region ?_
  refine WL.det (op_assign rfl) rfl rfl rfl ?_
  refine WL.end ?_
  refine NE.code ?_
  refine CE.ret' ?_
  refine XE.leave1 Try.results64 rfl ?_
  refine ⟨rfl, (((((((((Mod.refl [] w).nt m1).nt m2).nt md1).nt m3).nt m4).nt md2).nt m5).nt m6)⟩

set_option maxRecDepth 100000 in
set_option maxHeartbeats 2000000 in
theorem c_eqA3 (a0 : Nat) (a1 : Nat) (a2 : Nat) (e0 : Nat) (e1 : Nat) (e2 : Nat) (a0' : Nat) (a1' : Nat) (a2' : Nat) (ha0 : cn .f32 a0 = cn .f32 e0) (ha1 : cn .f32 a1 = cn .f32 e1) (ha2 : cn .f32 a2 = cn .f32 e2) (ha0' : cn .f32 a0' = cn .f32 e0) (ha1' : cn .f32 a1' = cn .f32 e1) (ha2' : cn .f32 a2' = cn .f32 e2) (w : World) : Cl Try.prog 63 #[.agg #[vF a0, vF a1, vF a2], .agg #[vF a0', vF a1', vF a2']] w fun v w' => v = .bool true ∧ Mod [] w w' := by
  refine Cl.of Try.func63 Try.ntmps63 rfl rfl (ρ := [(0, .agg #[vF a0, vF a1, vF a2]), (1, .agg #[vF a0', vF a1', vF a2'])]) rfl ?_
  refine CE.seq ?_
  refine CE.region ?_
  refine WL.op (op_box (cs := [vF a0, vF a1, vF a2]) rfl rfl) rfl rfl (ltb rfl) ?_
  rintro _ w1 ⟨rfl, r1, m1, z1⟩
  refine WL.op (op_box (cs := [vF a0', vF a1', vF a2']) rfl rfl) rfl rfl (ltb rfl) ?_
  rintro _ w2 ⟨rfl, r2, m2, z2⟩
  refine WL.det (op_assign rfl) rfl rfl rfl ?_
  refine WL.end ?_
  refine NE.code ?_
  refine CE.seq ?_
  refine CE.seq ?_
  refine CE.region ?_
  refine WL.det (op_assign rfl) rfl rfl rfl ?_
  refine WL.end ?_
  refine NE.code ?_
  refine CE.block ?_
  refine CE.rounds 4 ?_
  refine RN.one ?_
  refine CE.seq ?_
  refine CE.seq ?_
  refine CE.region ?_
  refine WL.det (op_move rfl) rfl rfl rfl ?_
  refine WL.det (op_lti rfl rfl) rfl rfl rfl ?_
  refine WL.end ?_
  refine NE.code ?_
  refine CE.cond_t rfl rfl ?_
  refine CE.skip' ?_
  refine NE.code ?_
  refine CE.seq ?_
  refine CE.block ?_
  refine CE.seq ?_
  refine CE.draw (fun _ => none) [0, 1, 2, 3, 4, 5, 6, 7] [8, 9] [] (by kernel_rfl) (by kernel_rfl) ?_
  have md1 : Mod [] w2 w2.drew := (Mod.refl _ _).drew
  generalize w2.drew = w3 at md1 ⊢
  refine DR.det (i := 0) rfl rfl (by kernel_rfl) (.free rfl) rfl rfl (fun wD mD => op_move rfl) ?_
  refine DR.det (i := 1) rfl rfl (by kernel_rfl) (.free rfl) rfl rfl (fun wD mD => op_indexArr (off' := 0) rfl rfl Try.runUnderlying26 Try.sizeOf22 (by decide) (by decide) rfl) ?_
  refine DR.det (i := 2) rfl rfl (by kernel_rfl) (.free rfl) rfl rfl (fun wD mD => op_load1 (i := 0) rfl Try.isAgg22 (((r1.ext m2).ext md1).ext mD).rng rfl rfl) ?_
  refine DR.op (i := 3) (FOut .f64 (wide e0)) rfl rfl (by kernel_rfl) (.free rfl) rfl (ltb rfl) (fun wD mD => op_widen (e := (wide e0)) rfl ha0 Try.runUnderlying22 Try.runUnderlying59 rfl) ?_
  rintro _ ⟨f1, rfl, hf1, lf1⟩
  refine DR.det (i := 4) rfl rfl (by kernel_rfl) (.free rfl) rfl rfl (fun wD mD => op_move rfl) ?_
  refine DR.det (i := 5) rfl rfl (by kernel_rfl) (.free rfl) rfl rfl (fun wD mD => op_indexArr (off' := 0) rfl rfl Try.runUnderlying26 Try.sizeOf22 (by decide) (by decide) rfl) ?_
  refine DR.det (i := 6) rfl rfl (by kernel_rfl) (.free rfl) rfl rfl (fun wD mD => op_load1 (i := 0) rfl Try.isAgg22 ((r2.ext md1).ext mD).rng rfl rfl) ?_
  refine DR.op (i := 7) (FOut .f64 (wide e0)) rfl rfl (by kernel_rfl) (.free rfl) rfl (ltb rfl) (fun wD mD => op_widen (e := (wide e0)) rfl ha0' Try.runUnderlying22 Try.runUnderlying59 rfl) ?_
  rintro _ ⟨f2, rfl, hf2, lf2⟩
  refine DR.done rfl ?_
  intro w4 m3
  refine WO.call rfl (.free rfl) rfl (ltb rfl) (oc_call (vs := [.float .f64 f1, .float .f64 f2]) (cap := []) rfl rfl rfl Try.call15 (c_sameFloat f1 (wide e0) f2 (wide e0) hf1 hf2 w4)) ?_
  rintro _ w5 ⟨rfl, m4⟩
  refine WO.det (op_not rfl) rfl (.free rfl) rfl rfl ?_
  refine WO.end ?_
  refine NE.code ?_
  refine CE.cond_f rfl (bnot_t (sameF_self _)) ?_
  refine CE.skip' ?_
  refine NE.blk ?_
  refine NE.code ?_
  refine CE.region ?_
  refine WL.det (op_move rfl) rfl rfl rfl ?_
  refine WL.det (op_add (r := 1) rfl rfl (by decide)) rfl rfl rfl ?_
  refine WL.det (op_assign rfl) rfl rfl rfl ?_
  refine WL.end ?_
  refine NE.round ?_
  refine RN.one ?_
  refine CE.seq ?_
  refine CE.seq ?_
  refine CE.region ?_
  refine WL.det (op_move rfl) rfl rfl rfl ?_
  refine WL.det (op_lti rfl rfl) rfl rfl rfl ?_
  refine WL.end ?_
  refine NE.code ?_
  refine CE.cond_t rfl rfl ?_
  refine CE.skip' ?_
  refine NE.code ?_
  refine CE.seq ?_
  refine CE.block ?_
  refine CE.seq ?_
  refine CE.draw (fun _ => none) [0, 1, 2, 3, 4, 5, 6, 7] [8, 9] [] (by kernel_rfl) (by kernel_rfl) ?_
  have md2 : Mod [] w5 w5.drew := (Mod.refl _ _).drew
  generalize w5.drew = w6 at md2 ⊢
  refine DR.det (i := 0) rfl rfl (by kernel_rfl) (.free rfl) rfl rfl (fun wD mD => op_move rfl) ?_
  refine DR.det (i := 1) rfl rfl (by kernel_rfl) (.free rfl) rfl rfl (fun wD mD => op_indexArr (off' := 1) rfl rfl Try.runUnderlying26 Try.sizeOf22 (by decide) (by decide) rfl) ?_
  refine DR.det (i := 2) rfl rfl (by kernel_rfl) (.free rfl) rfl rfl (fun wD mD => op_load1 (i := 1) rfl Try.isAgg22 ((((((r1.ext m2).ext md1).ext m3).ext m4).ext md2).ext mD).rng rfl rfl) ?_
  refine DR.op (i := 3) (FOut .f64 (wide e1)) rfl rfl (by kernel_rfl) (.free rfl) rfl (ltb rfl) (fun wD mD => op_widen (e := (wide e1)) rfl ha1 Try.runUnderlying22 Try.runUnderlying59 rfl) ?_
  rintro _ ⟨f3, rfl, hf3, lf3⟩
  refine DR.det (i := 4) rfl rfl (by kernel_rfl) (.free rfl) rfl rfl (fun wD mD => op_move rfl) ?_
  refine DR.det (i := 5) rfl rfl (by kernel_rfl) (.free rfl) rfl rfl (fun wD mD => op_indexArr (off' := 1) rfl rfl Try.runUnderlying26 Try.sizeOf22 (by decide) (by decide) rfl) ?_
  refine DR.det (i := 6) rfl rfl (by kernel_rfl) (.free rfl) rfl rfl (fun wD mD => op_load1 (i := 1) rfl Try.isAgg22 (((((r2.ext md1).ext m3).ext m4).ext md2).ext mD).rng rfl rfl) ?_
  refine DR.op (i := 7) (FOut .f64 (wide e1)) rfl rfl (by kernel_rfl) (.free rfl) rfl (ltb rfl) (fun wD mD => op_widen (e := (wide e1)) rfl ha1' Try.runUnderlying22 Try.runUnderlying59 rfl) ?_
  rintro _ ⟨f4, rfl, hf4, lf4⟩
  refine DR.done rfl ?_
  intro w7 m5
  refine WO.call rfl (.free rfl) rfl (ltb rfl) (oc_call (vs := [.float .f64 f3, .float .f64 f4]) (cap := []) rfl rfl rfl Try.call15 (c_sameFloat f3 (wide e1) f4 (wide e1) hf3 hf4 w7)) ?_
  rintro _ w8 ⟨rfl, m6⟩
  refine WO.det (op_not rfl) rfl (.free rfl) rfl rfl ?_
  refine WO.end ?_
  refine NE.code ?_
  refine CE.cond_f rfl (bnot_t (sameF_self _)) ?_
  refine CE.skip' ?_
  refine NE.blk ?_
  refine NE.code ?_
  refine CE.region ?_
  refine WL.det (op_move rfl) rfl rfl rfl ?_
  refine WL.det (op_add (r := 2) rfl rfl (by decide)) rfl rfl rfl ?_
  refine WL.det (op_assign rfl) rfl rfl rfl ?_
  refine WL.end ?_
  refine NE.round ?_
  refine RN.one ?_
  refine CE.seq ?_
  refine CE.seq ?_
  refine CE.region ?_
  refine WL.det (op_move rfl) rfl rfl rfl ?_
  refine WL.det (op_lti rfl rfl) rfl rfl rfl ?_
  refine WL.end ?_
  refine NE.code ?_
  refine CE.cond_t rfl rfl ?_
  refine CE.skip' ?_
  refine NE.code ?_
  refine CE.seq ?_
  refine CE.block ?_
  refine CE.seq ?_
  refine CE.draw (fun _ => none) [0, 1, 2, 3, 4, 5, 6, 7] [8, 9] [] (by kernel_rfl) (by kernel_rfl) ?_
  have md3 : Mod [] w8 w8.drew := (Mod.refl _ _).drew
  generalize w8.drew = w9 at md3 ⊢
  refine DR.det (i := 0) rfl rfl (by kernel_rfl) (.free rfl) rfl rfl (fun wD mD => op_move rfl) ?_
  refine DR.det (i := 1) rfl rfl (by kernel_rfl) (.free rfl) rfl rfl (fun wD mD => op_indexArr (off' := 2) rfl rfl Try.runUnderlying26 Try.sizeOf22 (by decide) (by decide) rfl) ?_
  refine DR.det (i := 2) rfl rfl (by kernel_rfl) (.free rfl) rfl rfl (fun wD mD => op_load1 (i := 2) rfl Try.isAgg22 (((((((((r1.ext m2).ext md1).ext m3).ext m4).ext md2).ext m5).ext m6).ext md3).ext mD).rng rfl rfl) ?_
  refine DR.op (i := 3) (FOut .f64 (wide e2)) rfl rfl (by kernel_rfl) (.free rfl) rfl (ltb rfl) (fun wD mD => op_widen (e := (wide e2)) rfl ha2 Try.runUnderlying22 Try.runUnderlying59 rfl) ?_
  rintro _ ⟨f5, rfl, hf5, lf5⟩
  refine DR.det (i := 4) rfl rfl (by kernel_rfl) (.free rfl) rfl rfl (fun wD mD => op_move rfl) ?_
  refine DR.det (i := 5) rfl rfl (by kernel_rfl) (.free rfl) rfl rfl (fun wD mD => op_indexArr (off' := 2) rfl rfl Try.runUnderlying26 Try.sizeOf22 (by decide) (by decide) rfl) ?_
  refine DR.det (i := 6) rfl rfl (by kernel_rfl) (.free rfl) rfl rfl (fun wD mD => op_load1 (i := 2) rfl Try.isAgg22 ((((((((r2.ext md1).ext m3).ext m4).ext md2).ext m5).ext m6).ext md3).ext mD).rng rfl rfl) ?_
  refine DR.op (i := 7) (FOut .f64 (wide e2)) rfl rfl (by kernel_rfl) (.free rfl) rfl (ltb rfl) (fun wD mD => op_widen (e := (wide e2)) rfl ha2' Try.runUnderlying22 Try.runUnderlying59 rfl) ?_
  rintro _ ⟨f6, rfl, hf6, lf6⟩
  refine DR.done rfl ?_
  intro w10 m7
  refine WO.call rfl (.free rfl) rfl (ltb rfl) (oc_call (vs := [.float .f64 f5, .float .f64 f6]) (cap := []) rfl rfl rfl Try.call15 (c_sameFloat f5 (wide e2) f6 (wide e2) hf5 hf6 w10)) ?_
  rintro _ w11 ⟨rfl, m8⟩
  refine WO.det (op_not rfl) rfl (.free rfl) rfl rfl ?_
  refine WO.end ?_
  refine NE.code ?_
  refine CE.cond_f rfl (bnot_t (sameF_self _)) ?_
  refine CE.skip' ?_
  refine NE.blk ?_
  refine NE.code ?_
  refine CE.region ?_
  refine WL.det (op_move rfl) rfl rfl rfl ?_
  refine WL.det (op_add (r := 3) rfl rfl (by decide)) rfl rfl rfl ?_
  refine WL.det (op_assign rfl) rfl rfl rfl ?_
  refine WL.end ?_
  refine NE.round ?_
  refine RN.one ?_
  refine CE.seq ?_
  refine CE.seq ?_
  refine CE.region ?_
  refine WL.det (op_move rfl) rfl rfl rfl ?_
  refine WL.det (op_lti rfl rfl) rfl rfl rfl ?_
  refine WL.end ?_
  refine NE.code ?_
  refine CE.cond_f rfl rfl ?_
  refine CE.exit' ?_
  refine XE.exit_then ?_
  refine XE.exit_then ?_
  refine XE.exit_here ?_
  refine NE.code ?_
  refine CE.seq ?_
  refine CE.region ?_
  refine WL.det (op_assign rfl) rfl rfl rfl ?_
  refine WL.end ?_
  refine NE.code ?_
  refine CE.ret' ?_
  refine XE.leave1 Try.results63 rfl ?_
  refine ⟨rfl, ((((((((((((Mod.refl [] w).nt m1).nt m2).nt md1).nt m3).nt m4).nt md2).nt m5).nt m6).nt md3).nt m7).nt m8)⟩

set_option maxRecDepth 100000 in
set_option maxHeartbeats 2000000 in
theorem c_eqFilter (k : Int) (c0 : Nat) (c0e : Nat) (c1 : Nat) (c1e : Nat) (c2 : Nat) (c2e : Nat) (s0 : Nat) (s0e : Nat) (s1 : Nat) (s1e : Nat) (c0' : Nat) (c1' : Nat) (c2' : Nat) (s0' : Nat) (s1' : Nat) (hc0 : cn .f32 c0 = cn .f32 c0e) (hc0' : cn .f32 c0' = cn .f32 c0e) (hc1 : cn .f32 c1 = cn .f32 c1e) (hc1' : cn .f32 c1' = cn .f32 c1e) (hc2 : cn .f32 c2 = cn .f32 c2e) (hc2' : cn .f32 c2' = cn .f32 c2e) (hs0 : cn .f32 s0 = cn .f32 s0e) (hs0' : cn .f32 s0' = cn .f32 s0e) (hs1 : cn .f32 s1 = cn .f32 s1e) (hs1' : cn .f32 s1' = cn .f32 s1e) (w : World) : Cl Try.prog 41 #[.agg #[vI k, vF c0, vF c1, vF c2, vF s0, vF s1], .agg #[vI k, vF c0', vF c1', vF c2', vF s0', vF s1']] w fun v w' => v = .bool true ∧ Mod [] w w' := by
  refine Cl.of Try.func41 Try.ntmps41 rfl rfl (ρ := [(0, .agg #[vI k, vF c0, vF c1, vF c2, vF s0, vF s1]), (1, .agg #[vI k, vF c0', vF c1', vF c2', vF s0', vF s1'])]) rfl ?_
  refine CE.seq ?_
  refine CE.region ?_
  refine WL.op (op_box (cs := [vI k, vF c0, vF c1, vF c2, vF s0, vF s1]) rfl rfl) rfl rfl (ltb rfl) ?_
  rintro _ w1 ⟨rfl, r1, m1, z1⟩
  refine WL.op (op_box (cs := [vI k, vF c0', vF c1', vF c2', vF s0', vF s1']) rfl rfl) rfl rfl (ltb rfl) ?_
  rintro _ w2 ⟨rfl, r2, m2, z2⟩
  refine WL.det (op_assign rfl) rfl rfl rfl ?_
  refine WL.end ?_
  refine NE.code ?_
  refine CE.seq ?_
  refine CE.seq ?_
  refine CE.region ?_
  refine WL.det (op_fieldAddr (off' := 0) rfl Try.runUnderlying29 rfl rfl Try.sizeOf2 rfl) rfl rfl rfl ?_
  refine WL.det (op_load1 (i := 0) rfl Try.isAgg2 (r1.ext m2).rng rfl rfl) rfl rfl rfl ?_
  refine WL.det (op_fieldAddr (off' := 0) rfl Try.runUnderlying29 rfl rfl Try.sizeOf2 rfl) rfl rfl rfl ?_
  refine WL.det (op_load1 (i := 0) rfl Try.isAgg2 r2.rng rfl rfl) rfl rfl rfl ?_
  refine WL.det (op_nei_f rfl rfl rfl) rfl rfl rfl ?_
  refine WL.end ?_
  refine NE.code ?_
  refine CE.cond_f rfl rfl ?_
  refine CE.skip' ?_
  refine NE.code ?_
  refine CE.seq ?_
  refine CE.seq ?_
  refine CE.region ?_
  refine WL.det (op_fieldAddr (off' := 1) rfl Try.runUnderlying29 rfl rfl Try.sizeOf26 rfl) rfl rfl rfl ?_
  refine WL.det (op_loadA (i := 1) (cs := [vF c0, vF c1, vF c2]) rfl Try.isAgg26 Try.sizeOf26 (r1.ext m2).rng rfl rfl rfl) rfl rfl rfl ?_
  refine WL.det (op_fieldAddr (off' := 1) rfl Try.runUnderlying29 rfl rfl Try.sizeOf26 rfl) rfl rfl rfl ?_
  refine WL.det (op_loadA (i := 1) (cs := [vF c0', vF c1', vF c2']) rfl Try.isAgg26 Try.sizeOf26 r2.rng rfl rfl rfl) rfl rfl rfl ?_
  refine WL.call (oc_call (vs := [.agg #[vF c0, vF c1, vF c2], .agg #[vF c0', vF c1', vF c2']]) (cap := []) rfl rfl rfl Try.call63 (c_eqA3 c0 c1 c2 c0e c1e c2e c0' c1' c2' hc0 hc1 hc2 hc0' hc1' hc2' w2)) rfl rfl (ltb rfl) ?_
  rintro _ w3 ⟨rfl, m3⟩
  refine WL.det (op_not rfl) rfl rfl rfl ?_
  refine WL.end ?_
  refine NE.code ?_
  refine CE.cond_f rfl rfl ?_
  refine CE.skip' ?_
  refine NE.code ?_
  refine CE.seq ?_
  refine CE.seq ?_
  refine CE.region ?_
  refine WL.det (op_fieldAddr (off' := 4) rfl Try.runUnderlying29 rfl rfl Try.sizeOf27 rfl) rfl rfl rfl ?_
  refine WL.det (op_loadA (i := 4) (cs := [vF s0, vF s1]) rfl Try.isAgg27 Try.sizeOf27 ((r1.ext m2).ext m3).rng rfl rfl rfl) rfl rfl rfl ?_
  refine WL.det (op_fieldAddr (off' := 4) rfl Try.runUnderlying29 rfl rfl Try.sizeOf27 rfl) rfl rfl rfl ?_
  refine WL.det (op_loadA (i := 4) (cs := [vF s0', vF s1']) rfl Try.isAgg27 Try.sizeOf27 (r2.ext m3).rng rfl rfl rfl) rfl rfl rfl ?_
  refine WL.call (oc_call (vs := [.agg #[vF s0, vF s1], .agg #[vF s0', vF s1']]) (cap := []) rfl rfl rfl Try.call64 (c_eqA2 s0 s1 s0e s1e s0' s1' hs0 hs1 hs0' hs1' w3)) rfl rfl (ltb rfl) ?_
  rintro _ w4 ⟨rfl, m4⟩
  refine WL.det (op_not rfl) rfl rfl rfl ?_
  refine WL.end ?_
  refine NE.code ?_
  refine CE.cond_f rfl rfl ?_
  refine CE.skip' ?_
  refine NE.code ?_
  refine CE.seq ?_
  refine CE.region ?_
  refine WL.det (op_assign rfl) rfl rfl rfl ?_
  refine WL.end ?_
  refine NE.code ?_
  refine CE.ret' ?_
  refine XE.leave1 Try.results41 rfl ?_
  refine ⟨rfl, (((((Mod.refl [] w).nt m1).nt m2).nt m3).nt m4)⟩

set_option maxRecDepth 100000 in
set_option maxHeartbeats 2000000 in
theorem c_eqString (nLr : Nat) (cLr : Nat) (ALr : Option Addr) (bLr : Nat) (oLr : Nat) (xLr : List Nat) (Lj : Int) (Tk : Int) (Tc0 : Nat) (Tc0e : Nat) (Tc1 : Nat) (Tc1e : Nat) (Tc2 : Nat) (Tc2e : Nat) (Ts0 : Nat) (Ts0e : Nat) (Ts1 : Nat) (Ts1e : Nat) (Dk : Int) (Dc0 : Nat) (Dc0e : Nat) (Dc1 : Nat) (Dc1e : Nat) (Dc2 : Nat) (Dc2e : Nat) (Ds0 : Nat) (Ds0e : Nat) (Ds1 : Nat) (Ds1e : Nat) (g : Nat) (ge : Nat) (cLr' : Nat) (ALr' : Option Addr) (bLr' : Nat) (oLr' : Nat) (Tc0' : Nat) (Tc1' : Nat) (Tc2' : Nat) (Ts0' : Nat) (Ts1' : Nat) (Dc0' : Nat) (Dc1' : Nat) (Dc2' : Nat) (Ds0' : Nat) (Ds1' : Nat) (g' : Nat) (lnLr : xLr.length = nLr) (hALr : 0 < nLr → ALr = some ⟨bLr, oLr, none⟩) (hALr' : 0 < nLr → ALr' = some ⟨bLr', oLr', none⟩) (hTc0 : cn .f32 Tc0 = cn .f32 Tc0e) (hTc0' : cn .f32 Tc0' = cn .f32 Tc0e) (hTc1 : cn .f32 Tc1 = cn .f32 Tc1e) (hTc1' : cn .f32 Tc1' = cn .f32 Tc1e) (hTc2 : cn .f32 Tc2 = cn .f32 Tc2e) (hTc2' : cn .f32 Tc2' = cn .f32 Tc2e) (hTs0 : cn .f32 Ts0 = cn .f32 Ts0e) (hTs0' : cn .f32 Ts0' = cn .f32 Ts0e) (hTs1 : cn .f32 Ts1 = cn .f32 Ts1e) (hTs1' : cn .f32 Ts1' = cn .f32 Ts1e) (hDc0 : cn .f32 Dc0 = cn .f32 Dc0e) (hDc0' : cn .f32 Dc0' = cn .f32 Dc0e) (hDc1 : cn .f32 Dc1 = cn .f32 Dc1e) (hDc1' : cn .f32 Dc1' = cn .f32 Dc1e) (hDc2 : cn .f32 Dc2 = cn .f32 Dc2e) (hDc2' : cn .f32 Dc2' = cn .f32 Dc2e) (hDs0 : cn .f32 Ds0 = cn .f32 Ds0e) (hDs0' : cn .f32 Ds0' = cn .f32 Ds0e) (hDs1 : cn .f32 Ds1 = cn .f32 Ds1e) (hDs1' : cn .f32 Ds1' = cn .f32 Ds1e) (hg : cn .f32 g = cn .f32 ge) (hg' : cn .f32 g' = cn .f32 ge) (hbnLr : nLr ≤ 9223372036854775807) (w : World) (rLr : Rng w bLr oLr (fl xLr)) (rLr' : Rng w bLr' oLr' (fl xLr)) : Cl Try.prog 16 #[.agg #[.slice ALr nLr cLr, vI Lj, vI Tk, vF Tc0, vF Tc1, vF Tc2, vF Ts0, vF Ts1, vI Dk, vF Dc0, vF Dc1, vF Dc2, vF Ds0, vF Ds1, vF g], .agg #[.slice ALr' nLr cLr', vI Lj, vI Tk, vF Tc0', vF Tc1', vF Tc2', vF Ts0', vF Ts1', vI Dk, vF Dc0', vF Dc1', vF Dc2', vF Ds0', vF Ds1', vF g']] w fun v w' => v = .bool true ∧ Mod [] w w' := by
  refine Cl.of Try.func16 Try.ntmps16 rfl rfl (ρ := [(0, .agg #[.slice ALr nLr cLr, vI Lj, vI Tk, vF Tc0, vF Tc1, vF Tc2, vF Ts0, vF Ts1, vI Dk, vF Dc0, vF Dc1, vF Dc2, vF Ds0, vF Ds1, vF g]), (1, .agg #[.slice ALr' nLr cLr', vI Lj, vI Tk, vF Tc0', vF Tc1', vF Tc2', vF Ts0', vF Ts1', vI Dk, vF Dc0', vF Dc1', vF Dc2', vF Ds0', vF Ds1', vF g'])]) rfl ?_
  refine CE.seq ?_
  refine CE.region ?_
  refine WL.op (op_box (cs := [.slice ALr nLr cLr, vI Lj, vI Tk, vF Tc0, vF Tc1, vF Tc2, vF Ts0, vF Ts1, vI Dk, vF Dc0, vF Dc1, vF Dc2, vF Ds0, vF Ds1, vF g]) rfl rfl) rfl rfl (ltb rfl) ?_
  rintro _ w1 ⟨rfl, r1, m1, z1⟩
  refine WL.op (op_box (cs := [.slice ALr' nLr cLr', vI Lj, vI Tk, vF Tc0', vF Tc1', vF Tc2', vF Ts0', vF Ts1', vI Dk, vF Dc0', vF Dc1', vF Dc2', vF Ds0', vF Ds1', vF g']) rfl rfl) rfl rfl (ltb rfl) ?_
  rintro _ w2 ⟨rfl, r2, m2, z2⟩
  refine WL.det (op_assign rfl) rfl rfl rfl ?_
  refine WL.end ?_
  refine NE.code ?_
  refine CE.seq ?_
  refine CE.seq ?_
  refine CE.region ?_
  refine WL.det (op_fieldAddr (off' := 0) rfl Try.runUnderlying31 rfl rfl Try.sizeOf25 rfl) rfl rfl rfl ?_
  refine WL.det (op_loadA (i := 0) (cs := [.slice ALr nLr cLr, vI Lj]) rfl Try.isAgg25 Try.sizeOf25 (r1.ext m2).rng rfl rfl rfl) rfl rfl rfl ?_
  refine WL.det (op_fieldAddr (off' := 0) rfl Try.runUnderlying31 rfl rfl Try.sizeOf25 rfl) rfl rfl rfl ?_
  refine WL.det (op_loadA (i := 0) (cs := [.slice ALr' nLr cLr', vI Lj]) rfl Try.isAgg25 Try.sizeOf25 r2.rng rfl rfl rfl) rfl rfl rfl ?_
  refine WL.call (oc_call (vs := [.agg #[.slice ALr nLr cLr, vI Lj], .agg #[.slice ALr' nLr cLr', vI Lj]]) (cap := []) rfl rfl rfl Try.call40 (c_eqRing nLr cLr ALr bLr oLr xLr Lj cLr' ALr' bLr' oLr' lnLr hALr hALr' (by omega) w2 ((rLr.ext m1).ext m2) ((rLr'.ext m1).ext m2))) rfl rfl (ltb rfl) ?_
  rintro _ w3 ⟨rfl, m3⟩
  refine WL.det (op_not rfl) rfl rfl rfl ?_
  refine WL.end ?_
  refine NE.code ?_
  refine CE.cond_f rfl rfl ?_
  refine CE.skip' ?_
  refine NE.code ?_
  refine CE.seq ?_
  refine CE.seq ?_
  refine CE.region ?_
  refine WL.det (op_fieldAddr (off' := 2) rfl Try.runUnderlying31 rfl rfl Try.sizeOf29 rfl) rfl rfl rfl ?_
  refine WL.det (op_loadA (i := 2) (cs := [vI Tk, vF Tc0, vF Tc1, vF Tc2, vF Ts0, vF Ts1]) rfl Try.isAgg29 Try.sizeOf29 ((r1.ext m2).ext m3).rng rfl rfl rfl) rfl rfl rfl ?_
  refine WL.det (op_fieldAddr (off' := 2) rfl Try.runUnderlying31 rfl rfl Try.sizeOf29 rfl) rfl rfl rfl ?_
  refine WL.det (op_loadA (i := 2) (cs := [vI Tk, vF Tc0', vF Tc1', vF Tc2', vF Ts0', vF Ts1']) rfl Try.isAgg29 Try.sizeOf29 (r2.ext m3).rng rfl rfl rfl) rfl rfl rfl ?_
  refine WL.call (oc_call (vs := [.agg #[vI Tk, vF Tc0, vF Tc1, vF Tc2, vF Ts0, vF Ts1], .agg #[vI Tk, vF Tc0', vF Tc1', vF Tc2', vF Ts0', vF Ts1']]) (cap := []) rfl rfl rfl Try.call41 (c_eqFilter Tk Tc0 Tc0e Tc1 Tc1e Tc2 Tc2e Ts0 Ts0e Ts1 Ts1e Tc0' Tc1' Tc2' Ts0' Ts1' hTc0 hTc0' hTc1 hTc1' hTc2 hTc2' hTs0 hTs0' hTs1 hTs1' w3)) rfl rfl (ltb rfl) ?_
  rintro _ w4 ⟨rfl, m4⟩
  refine WL.det (op_not rfl) rfl rfl rfl ?_
  refine WL.end ?_
  refine NE.code ?_
  refine CE.cond_f rfl rfl ?_
  refine CE.skip' ?_
  refine NE.code ?_
  refine CE.seq ?_
  refine CE.seq ?_
  refine CE.region ?_
  refine WL.det (op_fieldAddr (off' := 8) rfl Try.runUnderlying31 rfl rfl Try.sizeOf29 rfl) rfl rfl rfl ?_
  refine WL.det (op_loadA (i := 8) (cs := [vI Dk, vF Dc0, vF Dc1, vF Dc2, vF Ds0, vF Ds1]) rfl Try.isAgg29 Try.sizeOf29 (((r1.ext m2).ext m3).ext m4).rng rfl rfl rfl) rfl rfl rfl ?_
  refine WL.det (op_fieldAddr (off' := 8) rfl Try.runUnderlying31 rfl rfl Try.sizeOf29 rfl) rfl rfl rfl ?_
  refine WL.det (op_loadA (i := 8) (cs := [vI Dk, vF Dc0', vF Dc1', vF Dc2', vF Ds0', vF Ds1']) rfl Try.isAgg29 Try.sizeOf29 ((r2.ext m3).ext m4).rng rfl rfl rfl) rfl rfl rfl ?_
  refine WL.call (oc_call (vs := [.agg #[vI Dk, vF Dc0, vF Dc1, vF Dc2, vF Ds0, vF Ds1], .agg #[vI Dk, vF Dc0', vF Dc1', vF Dc2', vF Ds0', vF Ds1']]) (cap := []) rfl rfl rfl Try.call41 (c_eqFilter Dk Dc0 Dc0e Dc1 Dc1e Dc2 Dc2e Ds0 Ds0e Ds1 Ds1e Dc0' Dc1' Dc2' Ds0' Ds1' hDc0 hDc0' hDc1 hDc1' hDc2 hDc2' hDs0 hDs0' hDs1 hDs1' w4)) rfl rfl (ltb rfl) ?_
  rintro _ w5 ⟨rfl, m5⟩
  refine WL.det (op_not rfl) rfl rfl rfl ?_
  refine WL.end ?_
  refine NE.code ?_
  refine CE.cond_f rfl rfl ?_
  refine CE.skip' ?_
  refine NE.code ?_
  refine CE.seq ?_
  refine CE.seq ?_
  refine CE.region ?_
  refine WL.det (op_fieldAddr (off' := 14) rfl Try.runUnderlying31 rfl rfl Try.sizeOf22 rfl) rfl rfl rfl ?_
  refine WL.det (op_load1 (i := 14) rfl Try.isAgg22 ((((r1.ext m2).ext m3).ext m4).ext m5).rng rfl rfl) rfl rfl rfl ?_
  refine WL.op (op_widen (e := (wide ge)) rfl hg Try.runUnderlying22 Try.runUnderlying59 rfl) rfl rfl (ltb rfl) ?_
  rintro _ w6 ⟨⟨f1, rfl, hf1, lf1⟩, m6⟩
  refine WL.det (op_fieldAddr (off' := 14) rfl Try.runUnderlying31 rfl rfl Try.sizeOf22 rfl) rfl rfl rfl ?_
  refine WL.det (op_load1 (i := 14) rfl Try.isAgg22 ((((r2.ext m3).ext m4).ext m5).ext m6).rng rfl rfl) rfl rfl rfl ?_
  refine WL.op (op_widen (e := (wide ge)) rfl hg' Try.runUnderlying22 Try.runUnderlying59 rfl) rfl rfl (ltb rfl) ?_
  rintro _ w7 ⟨⟨f2, rfl, hf2, lf2⟩, m7⟩
  refine WL.call (oc_call (vs := [.float .f64 f1, .float .f64 f2]) (cap := []) rfl rfl rfl Try.call15 (c_sameFloat f1 (wide ge) f2 (wide ge) hf1 hf2 w7)) rfl rfl (ltb rfl) ?_
  rintro _ w8 ⟨rfl, m8⟩
  refine WL.det (op_not rfl) rfl rfl rfl ?_
  refine WL.end ?_
  refine NE.code ?_
  refine CE.cond_f rfl (bnot_t (sameF_self _)) ?_
  refine CE.skip' ?_
  refine NE.code ?_
  refine CE.seq ?_
  refine CE.region ?_
  refine WL.det (op_assign rfl) rfl rfl rfl ?_
  refine WL.end ?_
  refine NE.code ?_
  refine CE.ret' ?_
  refine XE.leave1 Try.results16 rfl ?_
  refine ⟨rfl, (((((((((Mod.refl [] w).nt m1).nt m2).nt m3).nt m4).nt m5).nt m6).nt m7).nt m8)⟩

set_option maxRecDepth 100000 in
set_option maxHeartbeats 2000000 in
theorem c_eqString_cn (nLr : Nat) (cLr : Nat) (ALr : Option Addr) (bLr : Nat) (oLr : Nat) (xLr : List Nat) (cLr' : Nat) (ALr' : Option Addr) (bLr' : Nat) (oLr' : Nat) (xLr' : List Nat) (Lj : Int) (Tk : Int) (Tc0 : Nat) (Tc0e : Nat) (Tc0' : Nat) (Tc1 : Nat) (Tc1e : Nat) (Tc1' : Nat) (Tc2 : Nat) (Tc2e : Nat) (Tc2' : Nat) (Ts0 : Nat) (Ts0e : Nat) (Ts0' : Nat) (Ts1 : Nat) (Ts1e : Nat) (Ts1' : Nat) (Dk : Int) (Dc0 : Nat) (Dc0e : Nat) (Dc0' : Nat) (Dc1 : Nat) (Dc1e : Nat) (Dc1' : Nat) (Dc2 : Nat) (Dc2e : Nat) (Dc2' : Nat) (Ds0 : Nat) (Ds0e : Nat) (Ds0' : Nat) (Ds1 : Nat) (Ds1e : Nat) (Ds1' : Nat) (g : Nat) (ge : Nat) (g' : Nat) (lnLr : xLr.length = nLr) (hALr : 0 < nLr → ALr = some ⟨bLr, oLr, none⟩) (wLr : W32 xLr) (lnLr' : xLr'.length = nLr) (hALr' : 0 < nLr → ALr' = some ⟨bLr', oLr', none⟩) (wLr' : W32 xLr') (eLr : Cn xLr xLr') (hbnLr : nLr ≤ 9223372036854775807) (hTc0 : cn .f32 Tc0 = cn .f32 Tc0e) (hTc0' : cn .f32 Tc0' = cn .f32 Tc0e) (hTc1 : cn .f32 Tc1 = cn .f32 Tc1e) (hTc1' : cn .f32 Tc1' = cn .f32 Tc1e) (hTc2 : cn .f32 Tc2 = cn .f32 Tc2e) (hTc2' : cn .f32 Tc2' = cn .f32 Tc2e) (hTs0 : cn .f32 Ts0 = cn .f32 Ts0e) (hTs0' : cn .f32 Ts0' = cn .f32 Ts0e) (hTs1 : cn .f32 Ts1 = cn .f32 Ts1e) (hTs1' : cn .f32 Ts1' = cn .f32 Ts1e) (hDc0 : cn .f32 Dc0 = cn .f32 Dc0e) (hDc0' : cn .f32 Dc0' = cn .f32 Dc0e) (hDc1 : cn .f32 Dc1 = cn .f32 Dc1e) (hDc1' : cn .f32 Dc1' = cn .f32 Dc1e) (hDc2 : cn .f32 Dc2 = cn .f32 Dc2e) (hDc2' : cn .f32 Dc2' = cn .f32 Dc2e) (hDs0 : cn .f32 Ds0 = cn .f32 Ds0e) (hDs0' : cn .f32 Ds0' = cn .f32 Ds0e) (hDs1 : cn .f32 Ds1 = cn .f32 Ds1e) (hDs1' : cn .f32 Ds1' = cn .f32 Ds1e) (hg : cn .f32 g = cn .f32 ge) (hg' : cn .f32 g' = cn .f32 ge) (w : World) (rLr : Rng w bLr oLr (fl xLr)) (rLr' : Rng w bLr' oLr' (fl xLr')) : Cl Try.prog 16 #[.agg #[.slice ALr nLr cLr, vI Lj, vI Tk, vF Tc0, vF Tc1, vF Tc2, vF Ts0, vF Ts1, vI Dk, vF Dc0, vF Dc1, vF Dc2, vF Ds0, vF Ds1, vF g], .agg #[.slice ALr' nLr cLr', vI Lj, vI Tk, vF Tc0', vF Tc1', vF Tc2', vF Ts0', vF Ts1', vI Dk, vF Dc0', vF Dc1', vF Dc2', vF Ds0', vF Ds1', vF g']] w fun v w' => v = .bool true ∧ Mod [] w w' := by
  refine Cl.of Try.func16 Try.ntmps16 rfl rfl (ρ := [(0, .agg #[.slice ALr nLr cLr, vI Lj, vI Tk, vF Tc0, vF Tc1, vF Tc2, vF Ts0, vF Ts1, vI Dk, vF Dc0, vF Dc1, vF Dc2, vF Ds0, vF Ds1, vF g]), (1, .agg #[.slice ALr' nLr cLr', vI Lj, vI Tk, vF Tc0', vF Tc1', vF Tc2', vF Ts0', vF Ts1', vI Dk, vF Dc0', vF Dc1', vF Dc2', vF Ds0', vF Ds1', vF g'])]) rfl ?_
  refine CE.seq ?_
  refine CE.region ?_
  refine WL.op (op_box (cs := [.slice ALr nLr cLr, vI Lj, vI Tk, vF Tc0, vF Tc1, vF Tc2, vF Ts0, vF Ts1, vI Dk, vF Dc0, vF Dc1, vF Dc2, vF Ds0, vF Ds1, vF g]) rfl rfl) rfl rfl (ltb rfl) ?_
  rintro _ w1 ⟨rfl, r1, m1, z1⟩
  refine WL.op (op_box (cs := [.slice ALr' nLr cLr', vI Lj, vI Tk, vF Tc0', vF Tc1', vF Tc2', vF Ts0', vF Ts1', vI Dk, vF Dc0', vF Dc1', vF Dc2', vF Ds0', vF Ds1', vF g']) rfl rfl) rfl rfl (ltb rfl) ?_
  rintro _ w2 ⟨rfl, r2, m2, z2⟩
  refine WL.det (op_assign rfl) rfl rfl rfl ?_
  refine WL.end ?_
  refine NE.code ?_
  refine CE.seq ?_
  refine CE.seq ?_
  refine CE.region ?_
  refine WL.det (op_fieldAddr (off' := 0) rfl Try.runUnderlying31 rfl rfl Try.sizeOf25 rfl) rfl rfl rfl ?_
  refine WL.det (op_loadA (i := 0) (cs := [.slice ALr nLr cLr, vI Lj]) rfl Try.isAgg25 Try.sizeOf25 (r1.ext m2).rng rfl rfl rfl) rfl rfl rfl ?_
  refine WL.det (op_fieldAddr (off' := 0) rfl Try.runUnderlying31 rfl rfl Try.sizeOf25 rfl) rfl rfl rfl ?_
  refine WL.det (op_loadA (i := 0) (cs := [.slice ALr' nLr cLr', vI Lj]) rfl Try.isAgg25 Try.sizeOf25 r2.rng rfl rfl rfl) rfl rfl rfl ?_
  refine WL.call (oc_call (vs := [.agg #[.slice ALr nLr cLr, vI Lj], .agg #[.slice ALr' nLr cLr', vI Lj]]) (cap := []) rfl rfl rfl Try.call40 (c_eqRing_cn nLr cLr ALr bLr oLr xLr cLr' ALr' bLr' oLr' xLr' Lj lnLr hALr wLr lnLr' hALr' wLr' (by first | assumption | exact Cn.refl _ | exact Cn.eq2 (by assumption) (by assumption)) (by omega) w2 ((rLr.ext m1).ext m2) ((rLr'.ext m1).ext m2))) rfl rfl (ltb rfl) ?_
  rintro _ w3 ⟨rfl, m3⟩
  refine WL.det (op_not rfl) rfl rfl rfl ?_
  refine WL.end ?_
  refine NE.code ?_
  refine CE.cond_f rfl rfl ?_
  refine CE.skip' ?_
  refine NE.code ?_
  refine CE.seq ?_
  refine CE.seq ?_
  refine CE.region ?_
  refine WL.det (op_fieldAddr (off' := 2) rfl Try.runUnderlying31 rfl rfl Try.sizeOf29 rfl) rfl rfl rfl ?_
  refine WL.det (op_loadA (i := 2) (cs := [vI Tk, vF Tc0, vF Tc1, vF Tc2, vF Ts0, vF Ts1]) rfl Try.isAgg29 Try.sizeOf29 ((r1.ext m2).ext m3).rng rfl rfl rfl) rfl rfl rfl ?_
  refine WL.det (op_fieldAddr (off' := 2) rfl Try.runUnderlying31 rfl rfl Try.sizeOf29 rfl) rfl rfl rfl ?_
  refine WL.det (op_loadA (i := 2) (cs := [vI Tk, vF Tc0', vF Tc1', vF Tc2', vF Ts0', vF Ts1']) rfl Try.isAgg29 Try.sizeOf29 (r2.ext m3).rng rfl rfl rfl) rfl rfl rfl ?_
  refine WL.call (oc_call (vs := [.agg #[vI Tk, vF Tc0, vF Tc1, vF Tc2, vF Ts0, vF Ts1], .agg #[vI Tk, vF Tc0', vF Tc1', vF Tc2', vF Ts0', vF Ts1']]) (cap := []) rfl rfl rfl Try.call41 (c_eqFilter Tk Tc0 Tc0e Tc1 Tc1e Tc2 Tc2e Ts0 Ts0e Ts1 Ts1e Tc0' Tc1' Tc2' Ts0' Ts1' hTc0 hTc0' hTc1 hTc1' hTc2 hTc2' hTs0 hTs0' hTs1 hTs1' w3)) rfl rfl (ltb rfl) ?_
  rintro _ w4 ⟨rfl, m4⟩
  refine WL.det (op_not rfl) rfl rfl rfl ?_
  refine WL.end ?_
  refine NE.code ?_
  refine CE.cond_f rfl rfl ?_
  refine CE.skip' ?_
  refine NE.code ?_
  refine CE.seq ?_
  refine CE.seq ?_
  refine CE.region ?_
  refine WL.det (op_fieldAddr (off' := 8) rfl Try.runUnderlying31 rfl rfl Try.sizeOf29 rfl) rfl rfl rfl ?_
  refine WL.det (op_loadA (i := 8) (cs := [vI Dk, vF Dc0, vF Dc1, vF Dc2, vF Ds0, vF Ds1]) rfl Try.isAgg29 Try.sizeOf29 (((r1.ext m2).ext m3).ext m4).rng rfl rfl rfl) rfl rfl rfl ?_
  refine WL.det (op_fieldAddr (off' := 8) rfl Try.runUnderlying31 rfl rfl Try.sizeOf29 rfl) rfl rfl rfl ?_
  refine WL.det (op_loadA (i := 8) (cs := [vI Dk, vF Dc0', vF Dc1', vF Dc2', vF Ds0', vF Ds1']) rfl Try.isAgg29 Try.sizeOf29 ((r2.ext m3).ext m4).rng rfl rfl rfl) rfl rfl rfl ?_
  refine WL.call (oc_call (vs := [.agg #[vI Dk, vF Dc0, vF Dc1, vF Dc2, vF Ds0, vF Ds1], .agg #[vI Dk, vF Dc0', vF Dc1', vF Dc2', vF Ds0', vF Ds1']]) (cap := []) rfl rfl rfl Try.call41 (c_eqFilter Dk Dc0 Dc0e Dc1 Dc1e Dc2 Dc2e Ds0 Ds0e Ds1 Ds1e Dc0' Dc1' Dc2' Ds0' Ds1' hDc0 hDc0' hDc1 hDc1' hDc2 hDc2' hDs0 hDs0' hDs1 hDs1' w4)) rfl rfl (ltb rfl) ?_
  rintro _ w5 ⟨rfl, m5⟩
  refine WL.det (op_not rfl) rfl rfl rfl ?_
  refine WL.end ?_
  refine NE.code ?_
  refine CE.cond_f rfl rfl ?_
  refine CE.skip' ?_
  refine NE.code ?_
  refine CE.seq ?_
  refine CE.seq ?_
  refine CE.region ?_
  refine WL.det (op_fieldAddr (off' := 14) rfl Try.runUnderlying31 rfl rfl Try.sizeOf22 rfl) rfl rfl rfl ?_
  refine WL.det (op_load1 (i := 14) rfl Try.isAgg22 ((((r1.ext m2).ext m3).ext m4).ext m5).rng rfl rfl) rfl rfl rfl ?_
  refine WL.op (op_widen (e := (wide ge)) rfl hg Try.runUnderlying22 Try.runUnderlying59 rfl) rfl rfl (ltb rfl) ?_
  rintro _ w6 ⟨⟨f1, rfl, hf1, lf1⟩, m6⟩
  refine WL.det (op_fieldAddr (off' := 14) rfl Try.runUnderlying31 rfl rfl Try.sizeOf22 rfl) rfl rfl rfl ?_
  refine WL.det (op_load1 (i := 14) rfl Try.isAgg22 ((((r2.ext m3).ext m4).ext m5).ext m6).rng rfl rfl) rfl rfl rfl ?_
  refine WL.op (op_widen (e := (wide ge)) rfl hg' Try.runUnderlying22 Try.runUnderlying59 rfl) rfl rfl (ltb rfl) ?_
  rintro _ w7 ⟨⟨f2, rfl, hf2, lf2⟩, m7⟩
  refine WL.call (oc_call (vs := [.float .f64 f1, .float .f64 f2]) (cap := []) rfl rfl rfl Try.call15 (c_sameFloat f1 (wide ge) f2 (wide ge) hf1 hf2 w7)) rfl rfl (ltb rfl) ?_
  rintro _ w8 ⟨rfl, m8⟩
  refine WL.det (op_not rfl) rfl rfl rfl ?_
  refine WL.end ?_
  refine NE.code ?_
  refine CE.cond_f rfl (bnot_t (sameF_self _)) ?_
  refine CE.skip' ?_
  refine NE.code ?_
  refine CE.seq ?_
  refine CE.region ?_
  refine WL.det (op_assign rfl) rfl rfl rfl ?_
  refine WL.end ?_
  refine NE.code ?_
  refine CE.ret' ?_
  refine XE.leave1 Try.results16 rfl ?_
  refine ⟨rfl, (((((((((Mod.refl [] w).nt m1).nt m2).nt m3).nt m4).nt m5).nt m6).nt m7).nt m8)⟩

set_option maxRecDepth 100000 in
set_option maxHeartbeats 2000000 in
theorem c_markString (nLr : Nat) (cLr : Nat) (bLr : Nat) (xLr : List Nat) (Lj : Int) (Tk : Int) (Tc0 : Nat) (Tc1 : Nat) (Tc2 : Nat) (Ts0 : Nat) (Ts1 : Nat) (Dk : Int) (Dc0 : Nat) (Dc1 : Nat) (Dc2 : Nat) (Ds0 : Nat) (Ds1 : Nat) (g : Nat) (k : Nat) (lnLr : xLr.length = nLr) (hnnLr : nLr ≤ 1048576) (hk : k ≤ 1048576) (w : World) (rLr : Row w bLr 0 (fl xLr)) : Cl Try.prog 19 #[.agg #[vS bLr 0 nLr cLr, vI Lj, vI Tk, vF Tc0, vF Tc1, vF Tc2, vF Ts0, vF Ts1, vI Dk, vF Dc0, vF Dc1, vF Dc2, vF Ds0, vF Ds1, vF g], vI ((k : Nat) : Int)] w fun v w' => v = vI ((k + nLr : Nat) : Int) ∧ Row w' bLr 0 (fl (marks xLr k nLr)) ∧ Mod [bLr] w w' := by
  refine Cl.of Try.func19 Try.ntmps19 rfl rfl (ρ := [(0, .agg #[vS bLr 0 nLr cLr, vI Lj, vI Tk, vF Tc0, vF Tc1, vF Tc2, vF Ts0, vF Ts1, vI Dk, vF Dc0, vF Dc1, vF Dc2, vF Ds0, vF Ds1, vF g]), (1, vI ((k : Nat) : Int))]) rfl ?_
  refine CE.seq ?_
  refine CE.region ?_
  refine WL.op (op_box (cs := [vS bLr 0 nLr cLr, vI Lj, vI Tk, vF Tc0, vF Tc1, vF Tc2, vF Ts0, vF Ts1, vI Dk, vF Dc0, vF Dc1, vF Dc2, vF Ds0, vF Ds1, vF g]) rfl rfl) rfl rfl (ltb rfl) ?_
  rintro _ w1 ⟨rfl, r1, m1, z1⟩
  refine WL.det (op_assign rfl) rfl rfl rfl ?_
  refine WL.end ?_
  refine NE.code ?_
  refine CE.seq ?_
  refine CE.region ?_
  refine WL.det (op_fieldAddr (off' := 0) rfl Try.runUnderlying31 rfl rfl Try.sizeOf25 rfl) rfl rfl rfl ?_
  refine WL.det (op_loadA (i := 0) (cs := [vS bLr 0 nLr cLr, vI Lj]) rfl Try.isAgg25 Try.sizeOf25 r1.rng rfl rfl rfl) rfl rfl rfl ?_
  refine WL.det (op_move rfl) rfl rfl rfl ?_
  refine WL.call (oc_call (vs := [.agg #[vS bLr 0 nLr cLr, vI Lj], vI ((k : Nat) : Int)]) (cap := []) rfl rfl rfl Try.call44 (c_markRing nLr cLr bLr xLr Lj k lnLr (by omega) (by omega) w1 (rLr.ext m1))) rfl rfl (ltb rfl) ?_
  rintro _ w2 ⟨rfl, r2, m2⟩
  refine WL.det (op_assign rfl) rfl rfl rfl ?_
  refine WL.end ?_
  refine NE.code ?_
  refine CE.seq ?_
  refine CE.region ?_
  refine WL.det (op_move rfl) rfl rfl rfl ?_
  refine WL.det (op_assign rfl) rfl rfl rfl ?_
  refine WL.end ?_
  refine NE.code ?_
  refine CE.ret' ?_
  refine XE.leave1 Try.results19 rfl ?_
  refine ⟨rfl, r2, (((Mod.refl [bLr] w).nt m1).then m2 ((aC (.inl (by simp)) aN)))⟩

set_option maxRecDepth 100000 in
set_option maxHeartbeats 2000000 in
theorem c_heldString (nLr : Nat) (cLr : Nat) (bLr : Nat) (xLr : List Nat) (Lj : Int) (Tk : Int) (Tc0 : Nat) (Tc1 : Nat) (Tc2 : Nat) (Ts0 : Nat) (Ts1 : Nat) (Dk : Int) (Dc0 : Nat) (Dc1 : Nat) (Dc2 : Nat) (Ds0 : Nat) (Ds1 : Nat) (g : Nat) (k : Nat) (lnLr : xLr.length = nLr) (hnnLr : nLr ≤ 1048576) (hk : k ≤ 1048576) (hhLr : Held xLr k nLr) (w : World) (rLr : Rng w bLr 0 (fl xLr)) : Cl Try.prog 22 #[.agg #[vS bLr 0 nLr cLr, vI Lj, vI Tk, vF Tc0, vF Tc1, vF Tc2, vF Ts0, vF Ts1, vI Dk, vF Dc0, vF Dc1, vF Dc2, vF Ds0, vF Ds1, vF g], vI ((k : Nat) : Int)] w fun v w' => v = vI ((k + nLr : Nat) : Int) ∧ Mod [] w w' := by
  refine Cl.of Try.func22 Try.ntmps22 rfl rfl (ρ := [(0, .agg #[vS bLr 0 nLr cLr, vI Lj, vI Tk, vF Tc0, vF Tc1, vF Tc2, vF Ts0, vF Ts1, vI Dk, vF Dc0, vF Dc1, vF Dc2, vF Ds0, vF Ds1, vF g]), (1, vI ((k : Nat) : Int))]) rfl ?_
  refine CE.seq ?_
  refine CE.region ?_
  refine WL.op (op_box (cs := [vS bLr 0 nLr cLr, vI Lj, vI Tk, vF Tc0, vF Tc1, vF Tc2, vF Ts0, vF Ts1, vI Dk, vF Dc0, vF Dc1, vF Dc2, vF Ds0, vF Ds1, vF g]) rfl rfl) rfl rfl (ltb rfl) ?_
  rintro _ w1 ⟨rfl, r1, m1, z1⟩
  refine WL.det (op_assign rfl) rfl rfl rfl ?_
  refine WL.end ?_
  refine NE.code ?_
  refine CE.seq ?_
  refine CE.region ?_
  refine WL.det (op_fieldAddr (off' := 0) rfl Try.runUnderlying31 rfl rfl Try.sizeOf25 rfl) rfl rfl rfl ?_
  refine WL.det (op_loadA (i := 0) (cs := [vS bLr 0 nLr cLr, vI Lj]) rfl Try.isAgg25 Try.sizeOf25 r1.rng rfl rfl rfl) rfl rfl rfl ?_
  refine WL.det (op_move rfl) rfl rfl rfl ?_
  refine WL.call (oc_call (vs := [.agg #[vS bLr 0 nLr cLr, vI Lj], vI ((k : Nat) : Int)]) (cap := []) rfl rfl rfl Try.call47 (c_heldRing nLr cLr bLr xLr Lj k lnLr (by omega) (by omega) (by first | assumption | exact marks_held _ _ _) w1 (rLr.ext m1))) rfl rfl (ltb rfl) ?_
  rintro _ w2 ⟨rfl, m2⟩
  refine WL.det (op_assign rfl) rfl rfl rfl ?_
  refine WL.end ?_
  refine NE.code ?_
  refine CE.seq ?_
  refine CE.seq ?_
  refine CE.region ?_
  refine WL.det (op_move rfl) rfl rfl rfl ?_
  refine WL.det (op_lti_f rfl rfl (by omega)) rfl rfl rfl ?_
  refine WL.end ?_
  refine NE.code ?_
  refine CE.cond_f rfl rfl ?_
  refine CE.skip' ?_
  refine NE.code ?_
  refine CE.seq ?_
  refine CE.region ?_
  refine WL.det (op_move rfl) rfl rfl rfl ?_
  refine WL.det (op_assign rfl) rfl rfl rfl ?_
  refine WL.end ?_
  refine NE.code ?_
  refine CE.ret' ?_
  refine XE.leave1 Try.results22 rfl ?_
  refine ⟨rfl, (((Mod.refl [] w).nt m1).nt m2)⟩

set_option maxRecDepth 100000 in
set_option maxHeartbeats 2000000 in
theorem c_markString_nil (Lj : Int) (Tk : Int) (Tc0 : Nat) (Tc1 : Nat) (Tc2 : Nat) (Ts0 : Nat) (Ts1 : Nat) (Dk : Int) (Dc0 : Nat) (Dc1 : Nat) (Dc2 : Nat) (Ds0 : Nat) (Ds1 : Nat) (g : Nat) (k : Nat) (hk : k ≤ 1048576) (w : World) : Cl Try.prog 19 #[.agg #[.slice none 0 0, vI Lj, vI Tk, vF Tc0, vF Tc1, vF Tc2, vF Ts0, vF Ts1, vI Dk, vF Dc0, vF Dc1, vF Dc2, vF Ds0, vF Ds1, vF g], vI ((k : Nat) : Int)] w fun v w' => v = vI ((k : Nat) : Int) ∧ Mod [] w w' := by
  refine Cl.of Try.func19 Try.ntmps19 rfl rfl (ρ := [(0, .agg #[.slice none 0 0, vI Lj, vI Tk, vF Tc0, vF Tc1, vF Tc2, vF Ts0, vF Ts1, vI Dk, vF Dc0, vF Dc1, vF Dc2, vF Ds0, vF Ds1, vF g]), (1, vI ((k : Nat) : Int))]) rfl ?_
  refine CE.seq ?_
  refine CE.region ?_
  refine WL.op (op_box (cs := [.slice none 0 0, vI Lj, vI Tk, vF Tc0, vF Tc1, vF Tc2, vF Ts0, vF Ts1, vI Dk, vF Dc0, vF Dc1, vF Dc2, vF Ds0, vF Ds1, vF g]) rfl rfl) rfl rfl (ltb rfl) ?_
  rintro _ w1 ⟨rfl, r1, m1, z1⟩
  refine WL.det (op_assign rfl) rfl rfl rfl ?_
  refine WL.end ?_
  refine NE.code ?_
  refine CE.seq ?_
  refine CE.region ?_
  refine WL.det (op_fieldAddr (off' := 0) rfl Try.runUnderlying31 rfl rfl Try.sizeOf25 rfl) rfl rfl rfl ?_
  refine WL.det (op_loadA (i := 0) (cs := [.slice none 0 0, vI Lj]) rfl Try.isAgg25 Try.sizeOf25 r1.rng rfl rfl rfl) rfl rfl rfl ?_
  refine WL.det (op_move rfl) rfl rfl rfl ?_
  refine WL.call (oc_call (vs := [.agg #[.slice none 0 0, vI Lj], vI ((k : Nat) : Int)]) (cap := []) rfl rfl rfl Try.call44 (c_markRing_nil Lj k (by omega) w1)) rfl rfl (ltb rfl) ?_
  rintro _ w2 ⟨rfl, m2⟩
  refine WL.det (op_assign rfl) rfl rfl rfl ?_
  refine WL.end ?_
  refine NE.code ?_
  refine CE.seq ?_
  refine CE.region ?_
  refine WL.det (op_move rfl) rfl rfl rfl ?_
  refine WL.det (op_assign rfl) rfl rfl rfl ?_
  refine WL.end ?_
  refine NE.code ?_
  refine CE.ret' ?_
  refine XE.leave1 Try.results19 rfl ?_
  refine ⟨rfl, (((Mod.refl [] w).nt m1).nt m2)⟩

set_option maxRecDepth 100000 in
set_option maxHeartbeats 2000000 in
theorem c_heldString_nil (Lj : Int) (Tk : Int) (Tc0 : Nat) (Tc1 : Nat) (Tc2 : Nat) (Ts0 : Nat) (Ts1 : Nat) (Dk : Int) (Dc0 : Nat) (Dc1 : Nat) (Dc2 : Nat) (Ds0 : Nat) (Ds1 : Nat) (g : Nat) (k : Nat) (hk : k ≤ 1048576) (w : World) : Cl Try.prog 22 #[.agg #[.slice none 0 0, vI Lj, vI Tk, vF Tc0, vF Tc1, vF Tc2, vF Ts0, vF Ts1, vI Dk, vF Dc0, vF Dc1, vF Dc2, vF Ds0, vF Ds1, vF g], vI ((k : Nat) : Int)] w fun v w' => v = vI ((k : Nat) : Int) ∧ Mod [] w w' := by
  refine Cl.of Try.func22 Try.ntmps22 rfl rfl (ρ := [(0, .agg #[.slice none 0 0, vI Lj, vI Tk, vF Tc0, vF Tc1, vF Tc2, vF Ts0, vF Ts1, vI Dk, vF Dc0, vF Dc1, vF Dc2, vF Ds0, vF Ds1, vF g]), (1, vI ((k : Nat) : Int))]) rfl ?_
  refine CE.seq ?_
  refine CE.region ?_
  refine WL.op (op_box (cs := [.slice none 0 0, vI Lj, vI Tk, vF Tc0, vF Tc1, vF Tc2, vF Ts0, vF Ts1, vI Dk, vF Dc0, vF Dc1, vF Dc2, vF Ds0, vF Ds1, vF g]) rfl rfl) rfl rfl (ltb rfl) ?_
  rintro _ w1 ⟨rfl, r1, m1, z1⟩
  refine WL.det (op_assign rfl) rfl rfl rfl ?_
  refine WL.end ?_
  refine NE.code ?_
  refine CE.seq ?_
  refine CE.region ?_
  refine WL.det (op_fieldAddr (off' := 0) rfl Try.runUnderlying31 rfl rfl Try.sizeOf25 rfl) rfl rfl rfl ?_
  refine WL.det (op_loadA (i := 0) (cs := [.slice none 0 0, vI Lj]) rfl Try.isAgg25 Try.sizeOf25 r1.rng rfl rfl rfl) rfl rfl rfl ?_
  refine WL.det (op_move rfl) rfl rfl rfl ?_
  refine WL.call (oc_call (vs := [.agg #[.slice none 0 0, vI Lj], vI ((k : Nat) : Int)]) (cap := []) rfl rfl rfl Try.call47 (c_heldRing_nil Lj k (by omega) w1)) rfl rfl (ltb rfl) ?_
  rintro _ w2 ⟨rfl, m2⟩
  refine WL.det (op_assign rfl) rfl rfl rfl ?_
  refine WL.end ?_
  refine NE.code ?_
  refine CE.seq ?_
  refine CE.seq ?_
  refine CE.region ?_
  refine WL.det (op_move rfl) rfl rfl rfl ?_
  refine WL.det (op_lti_f rfl rfl (by omega)) rfl rfl rfl ?_
  refine WL.end ?_
  refine NE.code ?_
  refine CE.cond_f rfl rfl ?_
  refine CE.skip' ?_
  refine NE.code ?_
  refine CE.seq ?_
  refine CE.region ?_
  refine WL.det (op_move rfl) rfl rfl rfl ?_
  refine WL.det (op_assign rfl) rfl rfl rfl ?_
  refine WL.end ?_
  refine NE.code ?_
  refine CE.ret' ?_
  refine XE.leave1 Try.results22 rfl ?_
  refine ⟨rfl, (((Mod.refl [] w).nt m1).nt m2)⟩

set_option maxRecDepth 100000 in
set_option maxHeartbeats 2000000 in
theorem c_eqBow (nNr : Nat) (cNr : Nat) (ANr : Option Addr) (bNr : Nat) (oNr : Nat) (xNr : List Nat) (Nj : Int) (nBr : Nat) (cBr : Nat) (ABr : Option Addr) (bBr : Nat) (oBr : Nat) (xBr : List Nat) (Bj : Int) (Dk : Int) (Dc0 : Nat) (Dc0e : Nat) (Dc1 : Nat) (Dc1e : Nat) (Dc2 : Nat) (Dc2e : Nat) (Ds0 : Nat) (Ds0e : Nat) (Ds1 : Nat) (Ds1e : Nat) (sl : Nat) (sle : Nat) (lo : Nat) (loe : Nat) (cNr' : Nat) (ANr' : Option Addr) (bNr' : Nat) (oNr' : Nat) (cBr' : Nat) (ABr' : Option Addr) (bBr' : Nat) (oBr' : Nat) (Dc0' : Nat) (Dc1' : Nat) (Dc2' : Nat) (Ds0' : Nat) (Ds1' : Nat) (sl' : Nat) (lo' : Nat) (lnNr : xNr.length = nNr) (hANr : 0 < nNr → ANr = some ⟨bNr, oNr, none⟩) (lnBr : xBr.length = nBr) (hABr : 0 < nBr → ABr = some ⟨bBr, oBr, none⟩) (hANr' : 0 < nNr → ANr' = some ⟨bNr', oNr', none⟩) (hABr' : 0 < nBr → ABr' = some ⟨bBr', oBr', none⟩) (hDc0 : cn .f32 Dc0 = cn .f32 Dc0e) (hDc0' : cn .f32 Dc0' = cn .f32 Dc0e) (hDc1 : cn .f32 Dc1 = cn .f32 Dc1e) (hDc1' : cn .f32 Dc1' = cn .f32 Dc1e) (hDc2 : cn .f32 Dc2 = cn .f32 Dc2e) (hDc2' : cn .f32 Dc2' = cn .f32 Dc2e) (hDs0 : cn .f32 Ds0 = cn .f32 Ds0e) (hDs0' : cn .f32 Ds0' = cn .f32 Ds0e) (hDs1 : cn .f32 Ds1 = cn .f32 Ds1e) (hDs1' : cn .f32 Ds1' = cn .f32 Ds1e) (hsl : cn .f32 sl = cn .f32 sle) (hsl' : cn .f32 sl' = cn .f32 sle) (hlo : cn .f32 lo = cn .f32 loe) (hlo' : cn .f32 lo' = cn .f32 loe) (hbnNr : nNr ≤ 9223372036854775807) (hbnBr : nBr ≤ 9223372036854775807) (w : World) (rNr : Rng w bNr oNr (fl xNr)) (rBr : Rng w bBr oBr (fl xBr)) (rNr' : Rng w bNr' oNr' (fl xNr)) (rBr' : Rng w bBr' oBr' (fl xBr)) : Cl Try.prog 18 #[.agg #[.slice ANr nNr cNr, vI Nj, .slice ABr nBr cBr, vI Bj, vI Dk, vF Dc0, vF Dc1, vF Dc2, vF Ds0, vF Ds1, vF sl, vF lo], .agg #[.slice ANr' nNr cNr', vI Nj, .slice ABr' nBr cBr', vI Bj, vI Dk, vF Dc0', vF Dc1', vF Dc2', vF Ds0', vF Ds1', vF sl', vF lo']] w fun v w' => v = .bool true ∧ Mod [] w w' := by
  refine Cl.of Try.func18 Try.ntmps18 rfl rfl (ρ := [(0, .agg #[.slice ANr nNr cNr, vI Nj, .slice ABr nBr cBr, vI Bj, vI Dk, vF Dc0, vF Dc1, vF Dc2, vF Ds0, vF Ds1, vF sl, vF lo]), (1, .agg #[.slice ANr' nNr cNr', vI Nj, .slice ABr' nBr cBr', vI Bj, vI Dk, vF Dc0', vF Dc1', vF Dc2', vF Ds0', vF Ds1', vF sl', vF lo'])]) rfl ?_
  refine CE.seq ?_
  refine CE.region ?_
  refine WL.op (op_box (cs := [.slice ANr nNr cNr, vI Nj, .slice ABr nBr cBr, vI Bj, vI Dk, vF Dc0, vF Dc1, vF Dc2, vF Ds0, vF Ds1, vF sl, vF lo]) rfl rfl) rfl rfl (ltb rfl) ?_
  rintro _ w1 ⟨rfl, r1, m1, z1⟩
  refine WL.op (op_box (cs := [.slice ANr' nNr cNr', vI Nj, .slice ABr' nBr cBr', vI Bj, vI Dk, vF Dc0', vF Dc1', vF Dc2', vF Ds0', vF Ds1', vF sl', vF lo']) rfl rfl) rfl rfl (ltb rfl) ?_
  rintro _ w2 ⟨rfl, r2, m2, z2⟩
  refine WL.det (op_assign rfl) rfl rfl rfl ?_
  refine WL.end ?_
  refine NE.code ?_
  refine CE.seq ?_
  refine CE.seq ?_
  refine CE.region ?_
  refine WL.det (op_fieldAddr (off' := 0) rfl Try.runUnderlying36 rfl rfl Try.sizeOf25 rfl) rfl rfl rfl ?_
  refine WL.det (op_loadA (i := 0) (cs := [.slice ANr nNr cNr, vI Nj]) rfl Try.isAgg25 Try.sizeOf25 (r1.ext m2).rng rfl rfl rfl) rfl rfl rfl ?_
  refine WL.det (op_fieldAddr (off' := 0) rfl Try.runUnderlying36 rfl rfl Try.sizeOf25 rfl) rfl rfl rfl ?_
  refine WL.det (op_loadA (i := 0) (cs := [.slice ANr' nNr cNr', vI Nj]) rfl Try.isAgg25 Try.sizeOf25 r2.rng rfl rfl rfl) rfl rfl rfl ?_
  refine WL.call (oc_call (vs := [.agg #[.slice ANr nNr cNr, vI Nj], .agg #[.slice ANr' nNr cNr', vI Nj]]) (cap := []) rfl rfl rfl Try.call40 (c_eqRing nNr cNr ANr bNr oNr xNr Nj cNr' ANr' bNr' oNr' lnNr hANr hANr' (by omega) w2 ((rNr.ext m1).ext m2) ((rNr'.ext m1).ext m2))) rfl rfl (ltb rfl) ?_
  rintro _ w3 ⟨rfl, m3⟩
  refine WL.det (op_not rfl) rfl rfl rfl ?_
  refine WL.end ?_
  refine NE.code ?_
  refine CE.cond_f rfl rfl ?_
  refine CE.skip' ?_
  refine NE.code ?_
  refine CE.seq ?_
  refine CE.seq ?_
  refine CE.region ?_
  refine WL.det (op_fieldAddr (off' := 2) rfl Try.runUnderlying36 rfl rfl Try.sizeOf25 rfl) rfl rfl rfl ?_
  refine WL.det (op_loadA (i := 2) (cs := [.slice ABr nBr cBr, vI Bj]) rfl Try.isAgg25 Try.sizeOf25 ((r1.ext m2).ext m3).rng rfl rfl rfl) rfl rfl rfl ?_
  refine WL.det (op_fieldAddr (off' := 2) rfl Try.runUnderlying36 rfl rfl Try.sizeOf25 rfl) rfl rfl rfl ?_
  refine WL.det (op_loadA (i := 2) (cs := [.slice ABr' nBr cBr', vI Bj]) rfl Try.isAgg25 Try.sizeOf25 (r2.ext m3).rng rfl rfl rfl) rfl rfl rfl ?_
  refine WL.call (oc_call (vs := [.agg #[.slice ABr nBr cBr, vI Bj], .agg #[.slice ABr' nBr cBr', vI Bj]]) (cap := []) rfl rfl rfl Try.call40 (c_eqRing nBr cBr ABr bBr oBr xBr Bj cBr' ABr' bBr' oBr' lnBr hABr hABr' (by omega) w3 (((rBr.ext m1).ext m2).ext m3) (((rBr'.ext m1).ext m2).ext m3))) rfl rfl (ltb rfl) ?_
  rintro _ w4 ⟨rfl, m4⟩
  refine WL.det (op_not rfl) rfl rfl rfl ?_
  refine WL.end ?_
  refine NE.code ?_
  refine CE.cond_f rfl rfl ?_
  refine CE.skip' ?_
  refine NE.code ?_
  refine CE.seq ?_
  refine CE.seq ?_
  refine CE.region ?_
  refine WL.det (op_fieldAddr (off' := 4) rfl Try.runUnderlying36 rfl rfl Try.sizeOf29 rfl) rfl rfl rfl ?_
  refine WL.det (op_loadA (i := 4) (cs := [vI Dk, vF Dc0, vF Dc1, vF Dc2, vF Ds0, vF Ds1]) rfl Try.isAgg29 Try.sizeOf29 (((r1.ext m2).ext m3).ext m4).rng rfl rfl rfl) rfl rfl rfl ?_
  refine WL.det (op_fieldAddr (off' := 4) rfl Try.runUnderlying36 rfl rfl Try.sizeOf29 rfl) rfl rfl rfl ?_
  refine WL.det (op_loadA (i := 4) (cs := [vI Dk, vF Dc0', vF Dc1', vF Dc2', vF Ds0', vF Ds1']) rfl Try.isAgg29 Try.sizeOf29 ((r2.ext m3).ext m4).rng rfl rfl rfl) rfl rfl rfl ?_
  refine WL.call (oc_call (vs := [.agg #[vI Dk, vF Dc0, vF Dc1, vF Dc2, vF Ds0, vF Ds1], .agg #[vI Dk, vF Dc0', vF Dc1', vF Dc2', vF Ds0', vF Ds1']]) (cap := []) rfl rfl rfl Try.call41 (c_eqFilter Dk Dc0 Dc0e Dc1 Dc1e Dc2 Dc2e Ds0 Ds0e Ds1 Ds1e Dc0' Dc1' Dc2' Ds0' Ds1' hDc0 hDc0' hDc1 hDc1' hDc2 hDc2' hDs0 hDs0' hDs1 hDs1' w4)) rfl rfl (ltb rfl) ?_
  rintro _ w5 ⟨rfl, m5⟩
  refine WL.det (op_not rfl) rfl rfl rfl ?_
  refine WL.end ?_
  refine NE.code ?_
  refine CE.cond_f rfl rfl ?_
  refine CE.skip' ?_
  refine NE.code ?_
  refine CE.seq ?_
  refine CE.seq ?_
  refine CE.region ?_
  refine WL.det (op_fieldAddr (off' := 10) rfl Try.runUnderlying36 rfl rfl Try.sizeOf22 rfl) rfl rfl rfl ?_
  refine WL.det (op_load1 (i := 10) rfl Try.isAgg22 ((((r1.ext m2).ext m3).ext m4).ext m5).rng rfl rfl) rfl rfl rfl ?_
  refine WL.op (op_widen (e := (wide sle)) rfl hsl Try.runUnderlying22 Try.runUnderlying59 rfl) rfl rfl (ltb rfl) ?_
  rintro _ w6 ⟨⟨f1, rfl, hf1, lf1⟩, m6⟩
  refine WL.det (op_fieldAddr (off' := 10) rfl Try.runUnderlying36 rfl rfl Try.sizeOf22 rfl) rfl rfl rfl ?_
  refine WL.det (op_load1 (i := 10) rfl Try.isAgg22 ((((r2.ext m3).ext m4).ext m5).ext m6).rng rfl rfl) rfl rfl rfl ?_
  refine WL.op (op_widen (e := (wide sle)) rfl hsl' Try.runUnderlying22 Try.runUnderlying59 rfl) rfl rfl (ltb rfl) ?_
  rintro _ w7 ⟨⟨f2, rfl, hf2, lf2⟩, m7⟩
  refine WL.call (oc_call (vs := [.float .f64 f1, .float .f64 f2]) (cap := []) rfl rfl rfl Try.call15 (c_sameFloat f1 (wide sle) f2 (wide sle) hf1 hf2 w7)) rfl rfl (ltb rfl) ?_
  rintro _ w8 ⟨rfl, m8⟩
  refine WL.det (op_not rfl) rfl rfl rfl ?_
  refine WL.end ?_
  refine NE.code ?_
  refine CE.cond_f rfl (bnot_t (sameF_self _)) ?_
  refine CE.skip' ?_
  refine NE.code ?_
  refine CE.seq ?_
  refine CE.seq ?_
  refine CE.region ?_
  refine WL.det (op_fieldAddr (off' := 11) rfl Try.runUnderlying36 rfl rfl Try.sizeOf22 rfl) rfl rfl rfl ?_
  refine WL.det (op_load1 (i := 11) rfl Try.isAgg22 (((((((r1.ext m2).ext m3).ext m4).ext m5).ext m6).ext m7).ext m8).rng rfl rfl) rfl rfl rfl ?_
  refine WL.op (op_widen (e := (wide loe)) rfl hlo Try.runUnderlying22 Try.runUnderlying59 rfl) rfl rfl (ltb rfl) ?_
  rintro _ w9 ⟨⟨f3, rfl, hf3, lf3⟩, m9⟩
  refine WL.det (op_fieldAddr (off' := 11) rfl Try.runUnderlying36 rfl rfl Try.sizeOf22 rfl) rfl rfl rfl ?_
  refine WL.det (op_load1 (i := 11) rfl Try.isAgg22 (((((((r2.ext m3).ext m4).ext m5).ext m6).ext m7).ext m8).ext m9).rng rfl rfl) rfl rfl rfl ?_
  refine WL.op (op_widen (e := (wide loe)) rfl hlo' Try.runUnderlying22 Try.runUnderlying59 rfl) rfl rfl (ltb rfl) ?_
  rintro _ w10 ⟨⟨f4, rfl, hf4, lf4⟩, m10⟩
  refine WL.call (oc_call (vs := [.float .f64 f3, .float .f64 f4]) (cap := []) rfl rfl rfl Try.call15 (c_sameFloat f3 (wide loe) f4 (wide loe) hf3 hf4 w10)) rfl rfl (ltb rfl) ?_
  rintro _ w11 ⟨rfl, m11⟩
  refine WL.det (op_not rfl) rfl rfl rfl ?_
  refine WL.end ?_
  refine NE.code ?_
  refine CE.cond_f rfl (bnot_t (sameF_self _)) ?_
  refine CE.skip' ?_
  refine NE.code ?_
  refine CE.seq ?_
  refine CE.region ?_
  refine WL.det (op_assign rfl) rfl rfl rfl ?_
  refine WL.end ?_
  refine NE.code ?_
  refine CE.ret' ?_
  refine XE.leave1 Try.results18 rfl ?_
  refine ⟨rfl, ((((((((((((Mod.refl [] w).nt m1).nt m2).nt m3).nt m4).nt m5).nt m6).nt m7).nt m8).nt m9).nt m10).nt m11)⟩

set_option maxRecDepth 100000 in
set_option maxHeartbeats 2000000 in
theorem c_markBow (nNr : Nat) (cNr : Nat) (bNr : Nat) (xNr : List Nat) (Nj : Int) (nBr : Nat) (cBr : Nat) (bBr : Nat) (xBr : List Nat) (Bj : Int) (Dk : Int) (Dc0 : Nat) (Dc1 : Nat) (Dc2 : Nat) (Ds0 : Nat) (Ds1 : Nat) (sl : Nat) (lo : Nat) (k : Nat) (lnNr : xNr.length = nNr) (lnBr : xBr.length = nBr) (hnnNr : nNr ≤ 1048576) (hnnBr : nBr ≤ 1048576) (hk : k ≤ 1048576) (w : World) (rNr : Row w bNr 0 (fl xNr)) (rBr : Row w bBr 0 (fl xBr)) (nebNrbBr : bNr ≠ bBr) : Cl Try.prog 21 #[.agg #[vS bNr 0 nNr cNr, vI Nj, vS bBr 0 nBr cBr, vI Bj, vI Dk, vF Dc0, vF Dc1, vF Dc2, vF Ds0, vF Ds1, vF sl, vF lo], vI ((k : Nat) : Int)] w fun v w' => v = vI ((k + nNr + nBr : Nat) : Int) ∧ Row w' bNr 0 (fl (marks xNr k nNr)) ∧ Row w' bBr 0 (fl (marks xBr (k + nNr) nBr)) ∧ Mod [bNr, bBr] w w' := by
  refine Cl.of Try.func21 Try.ntmps21 rfl rfl (ρ := [(0, .agg #[vS bNr 0 nNr cNr, vI Nj, vS bBr 0 nBr cBr, vI Bj, vI Dk, vF Dc0, vF Dc1, vF Dc2, vF Ds0, vF Ds1, vF sl, vF lo]), (1, vI ((k : Nat) : Int))]) rfl ?_
  refine CE.seq ?_
  refine CE.region ?_
  refine WL.op (op_box (cs := [vS bNr 0 nNr cNr, vI Nj, vS bBr 0 nBr cBr, vI Bj, vI Dk, vF Dc0, vF Dc1, vF Dc2, vF Ds0, vF Ds1, vF sl, vF lo]) rfl rfl) rfl rfl (ltb rfl) ?_
  rintro _ w1 ⟨rfl, r1, m1, z1⟩
  refine WL.det (op_assign rfl) rfl rfl rfl ?_
  refine WL.end ?_
  refine NE.code ?_
  refine CE.seq ?_
  refine CE.region ?_
  refine WL.det (op_fieldAddr (off' := 0) rfl Try.runUnderlying36 rfl rfl Try.sizeOf25 rfl) rfl rfl rfl ?_
  refine WL.det (op_loadA (i := 0) (cs := [vS bNr 0 nNr cNr, vI Nj]) rfl Try.isAgg25 Try.sizeOf25 r1.rng rfl rfl rfl) rfl rfl rfl ?_
  refine WL.det (op_move rfl) rfl rfl rfl ?_
  refine WL.call (oc_call (vs := [.agg #[vS bNr 0 nNr cNr, vI Nj], vI ((k : Nat) : Int)]) (cap := []) rfl rfl rfl Try.call44 (c_markRing nNr cNr bNr xNr Nj k lnNr (by omega) (by omega) w1 (rNr.ext m1))) rfl rfl (ltb rfl) ?_
  rintro _ w2 ⟨rfl, r2, m2⟩
  refine WL.det (op_assign rfl) rfl rfl rfl ?_
  refine WL.end ?_
  refine NE.code ?_
  refine CE.seq ?_
  refine CE.region ?_
  refine WL.det (op_fieldAddr (off' := 2) rfl Try.runUnderlying36 rfl rfl Try.sizeOf25 rfl) rfl rfl rfl ?_
  refine WL.det (op_loadA (i := 2) (cs := [vS bBr 0 nBr cBr, vI Bj]) rfl Try.isAgg25 Try.sizeOf25 (r1.mod m2 (nC (lG (lL rNr.lt lR)) nN)).rng rfl rfl rfl) rfl rfl rfl ?_
  refine WL.det (op_move rfl) rfl rfl rfl ?_
  refine WL.call (oc_call (vs := [.agg #[vS bBr 0 nBr cBr, vI Bj], vI ((k + nNr : Nat) : Int)]) (cap := []) rfl rfl rfl Try.call44 (c_markRing nBr cBr bBr xBr Bj (k + nNr) lnBr (by omega) (by omega) w2 ((rBr.ext m1).mod m2 (nC (Ne.symm nebNrbBr) nN)))) rfl rfl (ltb rfl) ?_
  rintro _ w3 ⟨rfl, r3, m3⟩
  refine WL.det (op_assign rfl) rfl rfl rfl ?_
  refine WL.end ?_
  refine NE.code ?_
  refine CE.seq ?_
  refine CE.region ?_
  refine WL.det (op_move rfl) rfl rfl rfl ?_
  refine WL.det (op_assign rfl) rfl rfl rfl ?_
  refine WL.end ?_
  refine NE.code ?_
  refine CE.ret' ?_
  refine XE.leave1 Try.results21 rfl ?_
  refine ⟨?_, (r2.mod m3 (nC nebNrbBr nN)), r3, ((((Mod.refl [bNr, bBr] w).nt m1).then m2 ((aC (.inl (by simp)) aN))).then m3 ((aC (.inl (by simp)) aN)))⟩
  all_goals rfl

set_option maxRecDepth 100000 in
set_option maxHeartbeats 2000000 in
theorem c_heldBow (nNr : Nat) (cNr : Nat) (bNr : Nat) (xNr : List Nat) (Nj : Int) (nBr : Nat) (cBr : Nat) (bBr : Nat) (xBr : List Nat) (Bj : Int) (Dk : Int) (Dc0 : Nat) (Dc1 : Nat) (Dc2 : Nat) (Ds0 : Nat) (Ds1 : Nat) (sl : Nat) (lo : Nat) (k : Nat) (lnNr : xNr.length = nNr) (lnBr : xBr.length = nBr) (hnnNr : nNr ≤ 1048576) (hnnBr : nBr ≤ 1048576) (hk : k ≤ 1048576) (hhNr : Held xNr k nNr) (hhBr : Held xBr (k + nNr) nBr) (w : World) (rNr : Rng w bNr 0 (fl xNr)) (rBr : Rng w bBr 0 (fl xBr)) : Cl Try.prog 24 #[.agg #[vS bNr 0 nNr cNr, vI Nj, vS bBr 0 nBr cBr, vI Bj, vI Dk, vF Dc0, vF Dc1, vF Dc2, vF Ds0, vF Ds1, vF sl, vF lo], vI ((k : Nat) : Int)] w fun v w' => v = vI ((k + nNr + nBr : Nat) : Int) ∧ Mod [] w w' := by
  refine Cl.of Try.func24 Try.ntmps24 rfl rfl (ρ := [(0, .agg #[vS bNr 0 nNr cNr, vI Nj, vS bBr 0 nBr cBr, vI Bj, vI Dk, vF Dc0, vF Dc1, vF Dc2, vF Ds0, vF Ds1, vF sl, vF lo]), (1, vI ((k : Nat) : Int))]) rfl ?_
  refine CE.seq ?_
  refine CE.region ?_
  refine WL.op (op_box (cs := [vS bNr 0 nNr cNr, vI Nj, vS bBr 0 nBr cBr, vI Bj, vI Dk, vF Dc0, vF Dc1, vF Dc2, vF Ds0, vF Ds1, vF sl, vF lo]) rfl rfl) rfl rfl (ltb rfl) ?_
  rintro _ w1 ⟨rfl, r1, m1, z1⟩
  refine WL.det (op_assign rfl) rfl rfl rfl ?_
  refine WL.end ?_
  refine NE.code ?_
  refine CE.seq ?_
  refine CE.region ?_
  refine WL.det (op_fieldAddr (off' := 0) rfl Try.runUnderlying36 rfl rfl Try.sizeOf25 rfl) rfl rfl rfl ?_
  refine WL.det (op_loadA (i := 0) (cs := [vS bNr 0 nNr cNr, vI Nj]) rfl Try.isAgg25 Try.sizeOf25 r1.rng rfl rfl rfl) rfl rfl rfl ?_
  refine WL.det (op_move rfl) rfl rfl rfl ?_
  refine WL.call (oc_call (vs := [.agg #[vS bNr 0 nNr cNr, vI Nj], vI ((k : Nat) : Int)]) (cap := []) rfl rfl rfl Try.call47 (c_heldRing nNr cNr bNr xNr Nj k lnNr (by omega) (by omega) (by first | assumption | exact marks_held _ _ _) w1 (rNr.ext m1))) rfl rfl (ltb rfl) ?_
  rintro _ w2 ⟨rfl, m2⟩
  refine WL.det (op_assign rfl) rfl rfl rfl ?_
  refine WL.end ?_
  refine NE.code ?_
  refine CE.seq ?_
  refine CE.seq ?_
  refine CE.region ?_
  refine WL.det (op_move rfl) rfl rfl rfl ?_
  refine WL.det (op_lti_f rfl rfl (by omega)) rfl rfl rfl ?_
  refine WL.end ?_
  refine NE.code ?_
  refine CE.cond_f rfl rfl ?_
  refine CE.skip' ?_
  refine NE.code ?_
  refine CE.seq ?_
  refine CE.region ?_
  refine WL.det (op_fieldAddr (off' := 2) rfl Try.runUnderlying36 rfl rfl Try.sizeOf25 rfl) rfl rfl rfl ?_
  refine WL.det (op_loadA (i := 2) (cs := [vS bBr 0 nBr cBr, vI Bj]) rfl Try.isAgg25 Try.sizeOf25 (r1.ext m2).rng rfl rfl rfl) rfl rfl rfl ?_
  refine WL.det (op_move rfl) rfl rfl rfl ?_
  refine WL.call (oc_call (vs := [.agg #[vS bBr 0 nBr cBr, vI Bj], vI ((k + nNr : Nat) : Int)]) (cap := []) rfl rfl rfl Try.call47 (c_heldRing nBr cBr bBr xBr Bj (k + nNr) lnBr (by omega) (by omega) (by first | assumption | exact marks_held _ _ _) w2 ((rBr.ext m1).ext m2))) rfl rfl (ltb rfl) ?_
  rintro _ w3 ⟨rfl, m3⟩
  refine WL.det (op_assign rfl) rfl rfl rfl ?_
  refine WL.end ?_
  refine NE.code ?_
  refine CE.seq ?_
  refine CE.seq ?_
  refine CE.region ?_
  refine WL.det (op_move rfl) rfl rfl rfl ?_
  refine WL.det (op_lti_f rfl rfl (by omega)) rfl rfl rfl ?_
  refine WL.end ?_
  refine NE.code ?_
  refine CE.cond_f rfl rfl ?_
  refine CE.skip' ?_
  refine NE.code ?_
  refine CE.seq ?_
  refine CE.region ?_
  refine WL.det (op_move rfl) rfl rfl rfl ?_
  refine WL.det (op_assign rfl) rfl rfl rfl ?_
  refine WL.end ?_
  refine NE.code ?_
  refine CE.ret' ?_
  refine XE.leave1 Try.results24 rfl ?_
  refine ⟨?_, ((((Mod.refl [] w).nt m1).nt m2).nt m3)⟩
  all_goals rfl

set_option maxRecDepth 100000 in
set_option maxHeartbeats 2000000 in
theorem c_markBow_nil (Nj : Int) (Bj : Int) (Dk : Int) (Dc0 : Nat) (Dc1 : Nat) (Dc2 : Nat) (Ds0 : Nat) (Ds1 : Nat) (sl : Nat) (lo : Nat) (k : Nat) (hk : k ≤ 1048576) (w : World) : Cl Try.prog 21 #[.agg #[.slice none 0 0, vI Nj, .slice none 0 0, vI Bj, vI Dk, vF Dc0, vF Dc1, vF Dc2, vF Ds0, vF Ds1, vF sl, vF lo], vI ((k : Nat) : Int)] w fun v w' => v = vI ((k : Nat) : Int) ∧ Mod [] w w' := by
  refine Cl.of Try.func21 Try.ntmps21 rfl rfl (ρ := [(0, .agg #[.slice none 0 0, vI Nj, .slice none 0 0, vI Bj, vI Dk, vF Dc0, vF Dc1, vF Dc2, vF Ds0, vF Ds1, vF sl, vF lo]), (1, vI ((k : Nat) : Int))]) rfl ?_
  refine CE.seq ?_
  refine CE.region ?_
  refine WL.op (op_box (cs := [.slice none 0 0, vI Nj, .slice none 0 0, vI Bj, vI Dk, vF Dc0, vF Dc1, vF Dc2, vF Ds0, vF Ds1, vF sl, vF lo]) rfl rfl) rfl rfl (ltb rfl) ?_
  rintro _ w1 ⟨rfl, r1, m1, z1⟩
  refine WL.det (op_assign rfl) rfl rfl rfl ?_
  refine WL.end ?_
  refine NE.code ?_
  refine CE.seq ?_
  refine CE.region ?_
  refine WL.det (op_fieldAddr (off' := 0) rfl Try.runUnderlying36 rfl rfl Try.sizeOf25 rfl) rfl rfl rfl ?_
  refine WL.det (op_loadA (i := 0) (cs := [.slice none 0 0, vI Nj]) rfl Try.isAgg25 Try.sizeOf25 r1.rng rfl rfl rfl) rfl rfl rfl ?_
  refine WL.det (op_move rfl) rfl rfl rfl ?_
  refine WL.call (oc_call (vs := [.agg #[.slice none 0 0, vI Nj], vI ((k : Nat) : Int)]) (cap := []) rfl rfl rfl Try.call44 (c_markRing_nil Nj k (by omega) w1)) rfl rfl (ltb rfl) ?_
  rintro _ w2 ⟨rfl, m2⟩
  refine WL.det (op_assign rfl) rfl rfl rfl ?_
  refine WL.end ?_
  refine NE.code ?_
  refine CE.seq ?_
  refine CE.region ?_
  refine WL.det (op_fieldAddr (off' := 2) rfl Try.runUnderlying36 rfl rfl Try.sizeOf25 rfl) rfl rfl rfl ?_
  refine WL.det (op_loadA (i := 2) (cs := [.slice none 0 0, vI Bj]) rfl Try.isAgg25 Try.sizeOf25 (r1.ext m2).rng rfl rfl rfl) rfl rfl rfl ?_
  refine WL.det (op_move rfl) rfl rfl rfl ?_
  refine WL.call (oc_call (vs := [.agg #[.slice none 0 0, vI Bj], vI ((k : Nat) : Int)]) (cap := []) rfl rfl rfl Try.call44 (c_markRing_nil Bj k (by omega) w2)) rfl rfl (ltb rfl) ?_
  rintro _ w3 ⟨rfl, m3⟩
  refine WL.det (op_assign rfl) rfl rfl rfl ?_
  refine WL.end ?_
  refine NE.code ?_
  refine CE.seq ?_
  refine CE.region ?_
  refine WL.det (op_move rfl) rfl rfl rfl ?_
  refine WL.det (op_assign rfl) rfl rfl rfl ?_
  refine WL.end ?_
  refine NE.code ?_
  refine CE.ret' ?_
  refine XE.leave1 Try.results21 rfl ?_
  refine ⟨rfl, ((((Mod.refl [] w).nt m1).nt m2).nt m3)⟩

set_option maxRecDepth 100000 in
set_option maxHeartbeats 2000000 in
theorem c_heldBow_nil (Nj : Int) (Bj : Int) (Dk : Int) (Dc0 : Nat) (Dc1 : Nat) (Dc2 : Nat) (Ds0 : Nat) (Ds1 : Nat) (sl : Nat) (lo : Nat) (k : Nat) (hk : k ≤ 1048576) (w : World) : Cl Try.prog 24 #[.agg #[.slice none 0 0, vI Nj, .slice none 0 0, vI Bj, vI Dk, vF Dc0, vF Dc1, vF Dc2, vF Ds0, vF Ds1, vF sl, vF lo], vI ((k : Nat) : Int)] w fun v w' => v = vI ((k : Nat) : Int) ∧ Mod [] w w' := by
  refine Cl.of Try.func24 Try.ntmps24 rfl rfl (ρ := [(0, .agg #[.slice none 0 0, vI Nj, .slice none 0 0, vI Bj, vI Dk, vF Dc0, vF Dc1, vF Dc2, vF Ds0, vF Ds1, vF sl, vF lo]), (1, vI ((k : Nat) : Int))]) rfl ?_
  refine CE.seq ?_
  refine CE.region ?_
  refine WL.op (op_box (cs := [.slice none 0 0, vI Nj, .slice none 0 0, vI Bj, vI Dk, vF Dc0, vF Dc1, vF Dc2, vF Ds0, vF Ds1, vF sl, vF lo]) rfl rfl) rfl rfl (ltb rfl) ?_
  rintro _ w1 ⟨rfl, r1, m1, z1⟩
  refine WL.det (op_assign rfl) rfl rfl rfl ?_
  refine WL.end ?_
  refine NE.code ?_
  refine CE.seq ?_
  refine CE.region ?_
  refine WL.det (op_fieldAddr (off' := 0) rfl Try.runUnderlying36 rfl rfl Try.sizeOf25 rfl) rfl rfl rfl ?_
  refine WL.det (op_loadA (i := 0) (cs := [.slice none 0 0, vI Nj]) rfl Try.isAgg25 Try.sizeOf25 r1.rng rfl rfl rfl) rfl rfl rfl ?_
  refine WL.det (op_move rfl) rfl rfl rfl ?_
  refine WL.call (oc_call (vs := [.agg #[.slice none 0 0, vI Nj], vI ((k : Nat) : Int)]) (cap := []) rfl rfl rfl Try.call47 (c_heldRing_nil Nj k (by omega) w1)) rfl rfl (ltb rfl) ?_
  rintro _ w2 ⟨rfl, m2⟩
  refine WL.det (op_assign rfl) rfl rfl rfl ?_
  refine WL.end ?_
  refine NE.code ?_
  refine CE.seq ?_
  refine CE.seq ?_
  refine CE.region ?_
  refine WL.det (op_move rfl) rfl rfl rfl ?_
  refine WL.det (op_lti_f rfl rfl (by omega)) rfl rfl rfl ?_
  refine WL.end ?_
  refine NE.code ?_
  refine CE.cond_f rfl rfl ?_
  refine CE.skip' ?_
  refine NE.code ?_
  refine CE.seq ?_
  refine CE.region ?_
  refine WL.det (op_fieldAddr (off' := 2) rfl Try.runUnderlying36 rfl rfl Try.sizeOf25 rfl) rfl rfl rfl ?_
  refine WL.det (op_loadA (i := 2) (cs := [.slice none 0 0, vI Bj]) rfl Try.isAgg25 Try.sizeOf25 (r1.ext m2).rng rfl rfl rfl) rfl rfl rfl ?_
  refine WL.det (op_move rfl) rfl rfl rfl ?_
  refine WL.call (oc_call (vs := [.agg #[.slice none 0 0, vI Bj], vI ((k : Nat) : Int)]) (cap := []) rfl rfl rfl Try.call47 (c_heldRing_nil Bj k (by omega) w2)) rfl rfl (ltb rfl) ?_
  rintro _ w3 ⟨rfl, m3⟩
  refine WL.det (op_assign rfl) rfl rfl rfl ?_
  refine WL.end ?_
  refine NE.code ?_
  refine CE.seq ?_
  refine CE.seq ?_
  refine CE.region ?_
  refine WL.det (op_move rfl) rfl rfl rfl ?_
  refine WL.det (op_lti_f rfl rfl (by omega)) rfl rfl rfl ?_
  refine WL.end ?_
  refine NE.code ?_
  refine CE.cond_f rfl rfl ?_
  refine CE.skip' ?_
  refine NE.code ?_
  refine CE.seq ?_
  refine CE.region ?_
  refine WL.det (op_move rfl) rfl rfl rfl ?_
  refine WL.det (op_assign rfl) rfl rfl rfl ?_
  refine WL.end ?_
  refine NE.code ?_
  refine CE.ret' ?_
  refine XE.leave1 Try.results24 rfl ?_
  refine ⟨rfl, ((((Mod.refl [] w).nt m1).nt m2).nt m3)⟩

set_option maxRecDepth 100000 in
set_option maxHeartbeats 2000000 in
theorem c_eqRingS_nil (w : World) : Cl Try.prog 42 #[.slice none 0 0, .slice none 0 0] w fun v w' => v = .bool true ∧ Mod [] w w' := by
  refine Cl.of Try.func42 Try.ntmps42 rfl rfl (ρ := [(0, .slice none 0 0), (1, .slice none 0 0)]) rfl ?_
  refine CE.seq ?_
  refine CE.region ?_
  refine WL.det (op_assign rfl) rfl rfl rfl ?_
  refine WL.end ?_
  refine NE.code ?_
  refine CE.seq ?_
  refine CE.seq ?_
  refine CE.region ?_
  refine WL.det (op_move rfl) rfl rfl rfl ?_
  refine WL.det (op_len rfl Try.runUnderlying32) rfl rfl rfl ?_
  refine WL.det (op_move rfl) rfl rfl rfl ?_
  refine WL.det (op_len rfl Try.runUnderlying32) rfl rfl rfl ?_
  refine WL.det (op_nei rfl rfl) rfl rfl rfl ?_
  refine WL.end ?_
  refine NE.code ?_
  refine CE.cond_f rfl rfl ?_
  refine CE.skip' ?_
  refine NE.code ?_
  refine CE.seq ?_
  refine CE.seq ?_
  refine CE.region ?_
  refine WL.det (op_assign rfl) rfl rfl rfl ?_
  refine WL.end ?_
  refine NE.code ?_
  refine CE.block ?_
  refine CE.rounds 1 ?_
  refine RN.one ?_
  refine CE.seq ?_
  refine CE.seq ?_
  refine CE.region ?_
  refine WL.det (op_move rfl) rfl rfl rfl ?_
  refine WL.det (op_move rfl) rfl rfl rfl ?_
  refine WL.det (op_len rfl Try.runUnderlying32) rfl rfl rfl ?_
  refine WL.det (op_lti rfl rfl) rfl rfl rfl ?_
  refine WL.end ?_
  refine NE.code ?_
  refine CE.cond_f rfl rfl ?_
  refine CE.exit' ?_
  refine XE.exit_then ?_
  refine XE.exit_then ?_
  refine XE.exit_here ?_
  refine NE.code ?_
  refine CE.seq ?_
  refine CE.region ?_
  refine WL.det (op_assign rfl) rfl rfl rfl ?_
  refine WL.end ?_
  refine NE.code ?_
  refine CE.ret' ?_
  refine XE.leave1 Try.results42 rfl ?_
  refine ⟨rfl, (Mod.refl [] w)⟩

set_option maxRecDepth 100000 in
set_option maxHeartbeats 2000000 in
theorem c_markRingS_nil (k : Nat) (w : World) : Cl Try.prog 45 #[.slice none 0 0, vI ((k : Nat) : Int)] w fun v w' => v = vI ((k : Nat) : Int) ∧ Mod [] w w' := by
  refine Cl.of Try.func45 Try.ntmps45 rfl rfl (ρ := [(0, .slice none 0 0), (1, vI ((k : Nat) : Int))]) rfl ?_
  refine CE.seq ?_
  refine CE.region ?_
  refine WL.det (op_assign rfl) rfl rfl rfl ?_
  refine WL.end ?_
  refine NE.code ?_
  refine CE.seq ?_
  refine CE.seq ?_
  refine CE.region ?_
  refine WL.det (op_assign rfl) rfl rfl rfl ?_
  refine WL.end ?_
  refine NE.code ?_
  refine CE.block ?_
  refine CE.rounds 1 ?_
  refine RN.one ?_
  refine CE.seq ?_
  refine CE.seq ?_
  refine CE.region ?_
  refine WL.det (op_move rfl) rfl rfl rfl ?_
  refine WL.det (op_move rfl) rfl rfl rfl ?_
  refine WL.det (op_len rfl Try.runUnderlying32) rfl rfl rfl ?_
  refine WL.det (op_lti rfl rfl) rfl rfl rfl ?_
  refine WL.end ?_
  refine NE.code ?_
  refine CE.cond_f rfl rfl ?_
  refine CE.exit' ?_
  refine XE.exit_then ?_
  refine XE.exit_then ?_
  refine XE.exit_here ?_
  refine NE.code ?_
  refine CE.seq ?_
  refine CE.region ?_
  refine WL.det (op_move rfl) rfl rfl rfl ?_
  refine WL.det (op_assign rfl) rfl rfl rfl ?_
  refine WL.end ?_
  refine NE.code ?_
  refine CE.ret' ?_
  refine XE.leave1 Try.results45 rfl ?_
  refine ⟨rfl, (Mod.refl [] w)⟩

set_option maxRecDepth 100000 in
set_option maxHeartbeats 2000000 in
theorem c_heldRingS_nil (k : Nat) (w : World) : Cl Try.prog 48 #[.slice none 0 0, vI ((k : Nat) : Int)] w fun v w' => v = vI ((k : Nat) : Int) ∧ Mod [] w w' := by
  refine Cl.of Try.func48 Try.ntmps48 rfl rfl (ρ := [(0, .slice none 0 0), (1, vI ((k : Nat) : Int))]) rfl ?_
  refine CE.seq ?_
  refine CE.region ?_
  refine WL.det (op_assign rfl) rfl rfl rfl ?_
  refine WL.end ?_
  refine NE.code ?_
  refine CE.seq ?_
  refine CE.seq ?_
  refine CE.region ?_
  refine WL.det (op_assign rfl) rfl rfl rfl ?_
  refine WL.end ?_
  refine NE.code ?_
  refine CE.block ?_
  refine CE.rounds 1 ?_
  refine RN.one ?_
  refine CE.seq ?_
  refine CE.seq ?_
  refine CE.region ?_
  refine WL.det (op_move rfl) rfl rfl rfl ?_
  refine WL.det (op_move rfl) rfl rfl rfl ?_
  refine WL.det (op_len rfl Try.runUnderlying32) rfl rfl rfl ?_
  refine WL.det (op_lti rfl rfl) rfl rfl rfl ?_
  refine WL.end ?_
  refine NE.code ?_
  refine CE.cond_f rfl rfl ?_
  refine CE.exit' ?_
  refine XE.exit_then ?_
  refine XE.exit_then ?_
  refine XE.exit_here ?_
  refine NE.code ?_
  refine CE.seq ?_
  refine CE.region ?_
  refine WL.det (op_move rfl) rfl rfl rfl ?_
  refine WL.det (op_assign rfl) rfl rfl rfl ?_
  refine WL.end ?_
  refine NE.code ?_
  refine CE.ret' ?_
  refine XE.leave1 Try.results48 rfl ?_
  refine ⟨rfl, (Mod.refl [] w)⟩

set_option maxRecDepth 100000 in
set_option maxHeartbeats 2000000 in
theorem c_eqPipe_nil (w : World) : Cl Try.prog 17 #[.agg #[.slice none 0 0, .slice none 0 0, .slice none 0 0, vI 0, vF 0, vF 0, vF 0, vF 0, vF 0, .bool false, vF 0, vF 0, vF 0], .agg #[.slice none 0 0, .slice none 0 0, .slice none 0 0, vI 0, vF 0, vF 0, vF 0, vF 0, vF 0, .bool false, vF 0, vF 0, vF 0]] w fun v w' => v = .bool true ∧ Mod [] w w' := by
  refine Cl.of Try.func17 Try.ntmps17 rfl rfl (ρ := [(0, .agg #[.slice none 0 0, .slice none 0 0, .slice none 0 0, vI 0, vF 0, vF 0, vF 0, vF 0, vF 0, .bool false, vF 0, vF 0, vF 0]), (1, .agg #[.slice none 0 0, .slice none 0 0, .slice none 0 0, vI 0, vF 0, vF 0, vF 0, vF 0, vF 0, .bool false, vF 0, vF 0, vF 0])]) rfl ?_
  refine CE.seq ?_
  refine CE.region ?_
  refine WL.op (op_box (cs := [.slice none 0 0, .slice none 0 0, .slice none 0 0, vI 0, vF 0, vF 0, vF 0, vF 0, vF 0, .bool false, vF 0, vF 0, vF 0]) rfl rfl) rfl rfl (ltb rfl) ?_
  rintro _ w1 ⟨rfl, r1, m1, z1⟩
  refine WL.op (op_box (cs := [.slice none 0 0, .slice none 0 0, .slice none 0 0, vI 0, vF 0, vF 0, vF 0, vF 0, vF 0, .bool false, vF 0, vF 0, vF 0]) rfl rfl) rfl rfl (ltb rfl) ?_
  rintro _ w2 ⟨rfl, r2, m2, z2⟩
  refine WL.det (op_assign rfl) rfl rfl rfl ?_
  refine WL.end ?_
  refine NE.code ?_
  refine CE.seq ?_
  refine CE.seq ?_
  refine CE.region ?_
  refine WL.det (op_fieldAddr (off' := 0) rfl Try.runUnderlying34 rfl rfl Try.sizeOf32 rfl) rfl rfl rfl ?_
  refine WL.det (op_load1 (i := 0) rfl Try.isAgg32 (r1.ext m2).rng rfl rfl) rfl rfl rfl ?_
  refine WL.det (op_fieldAddr (off' := 0) rfl Try.runUnderlying34 rfl rfl Try.sizeOf32 rfl) rfl rfl rfl ?_
  refine WL.det (op_load1 (i := 0) rfl Try.isAgg32 r2.rng rfl rfl) rfl rfl rfl ?_
  refine WL.call (oc_call (vs := [.slice none 0 0, .slice none 0 0]) (cap := []) rfl rfl rfl Try.call42 (c_eqRingS_nil w2)) rfl rfl (ltb rfl) ?_
  rintro _ w3 ⟨rfl, m3⟩
  refine WL.det (op_not rfl) rfl rfl rfl ?_
  refine WL.end ?_
  refine NE.code ?_
  refine CE.cond_f rfl rfl ?_
  refine CE.skip' ?_
  refine NE.code ?_
  refine CE.seq ?_
  refine CE.seq ?_
  refine CE.region ?_
  refine WL.det (op_fieldAddr (off' := 1) rfl Try.runUnderlying34 rfl rfl Try.sizeOf32 rfl) rfl rfl rfl ?_
  refine WL.det (op_load1 (i := 1) rfl Try.isAgg32 ((r1.ext m2).ext m3).rng rfl rfl) rfl rfl rfl ?_
  refine WL.det (op_fieldAddr (off' := 1) rfl Try.runUnderlying34 rfl rfl Try.sizeOf32 rfl) rfl rfl rfl ?_
  refine WL.det (op_load1 (i := 1) rfl Try.isAgg32 (r2.ext m3).rng rfl rfl) rfl rfl rfl ?_
  refine WL.call (oc_call (vs := [.slice none 0 0, .slice none 0 0]) (cap := []) rfl rfl rfl Try.call42 (c_eqRingS_nil w3)) rfl rfl (ltb rfl) ?_
  rintro _ w4 ⟨rfl, m4⟩
  refine WL.det (op_not rfl) rfl rfl rfl ?_
  refine WL.end ?_
  refine NE.code ?_
  refine CE.cond_f rfl rfl ?_
  refine CE.skip' ?_
  refine NE.code ?_
  refine CE.seq ?_
  refine CE.seq ?_
  refine CE.region ?_
  refine WL.det (op_fieldAddr (off' := 2) rfl Try.runUnderlying34 rfl rfl Try.sizeOf23 rfl) rfl rfl rfl ?_
  refine WL.det (op_load1 (i := 2) rfl Try.isAgg23 (((r1.ext m2).ext m3).ext m4).rng rfl rfl) rfl rfl rfl ?_
  refine WL.det (op_fieldAddr (off' := 2) rfl Try.runUnderlying34 rfl rfl Try.sizeOf23 rfl) rfl rfl rfl ?_
  refine WL.det (op_load1 (i := 2) rfl Try.isAgg23 ((r2.ext m3).ext m4).rng rfl rfl) rfl rfl rfl ?_
  refine WL.call (oc_call (vs := [.slice none 0 0, .slice none 0 0]) (cap := []) rfl rfl rfl Try.call43 (c_eq32_same 0 0 none 0 0 [] 0 none 0 0 rfl (fun h => absurd h (Nat.lt_irrefl _)) (fun h => absurd h (Nat.lt_irrefl _)) (by omega) w4 (Rng.nil _ _ _) (Rng.nil _ _ _))) rfl rfl (ltb rfl) ?_
  rintro _ w5 ⟨rfl, m5⟩
  refine WL.det (op_not rfl) rfl rfl rfl ?_
  refine WL.end ?_
  refine NE.code ?_
  refine CE.cond_f rfl rfl ?_
  refine CE.skip' ?_
  refine NE.code ?_
  refine CE.seq ?_
  refine CE.seq ?_
  refine CE.region ?_
  refine WL.det (op_fieldAddr (off' := 3) rfl Try.runUnderlying34 rfl rfl Try.sizeOf29 rfl) rfl rfl rfl ?_
  refine WL.det (op_loadA (i := 3) (cs := [vI 0, vF 0, vF 0, vF 0, vF 0, vF 0]) rfl Try.isAgg29 Try.sizeOf29 ((((r1.ext m2).ext m3).ext m4).ext m5).rng rfl rfl rfl) rfl rfl rfl ?_
  refine WL.det (op_fieldAddr (off' := 3) rfl Try.runUnderlying34 rfl rfl Try.sizeOf29 rfl) rfl rfl rfl ?_
  refine WL.det (op_loadA (i := 3) (cs := [vI 0, vF 0, vF 0, vF 0, vF 0, vF 0]) rfl Try.isAgg29 Try.sizeOf29 (((r2.ext m3).ext m4).ext m5).rng rfl rfl rfl) rfl rfl rfl ?_
  refine WL.call (oc_call (vs := [.agg #[vI 0, vF 0, vF 0, vF 0, vF 0, vF 0], .agg #[vI 0, vF 0, vF 0, vF 0, vF 0, vF 0]]) (cap := []) rfl rfl rfl Try.call41 (c_eqFilter (0 : Int) 0 0 0 0 0 0 0 0 0 0 0 0 0 0 0 rfl rfl rfl rfl rfl rfl rfl rfl rfl rfl w5)) rfl rfl (ltb rfl) ?_
  rintro _ w6 ⟨rfl, m6⟩
  refine WL.det (op_not rfl) rfl rfl rfl ?_
  refine WL.end ?_
  refine NE.code ?_
  refine CE.cond_f rfl rfl ?_
  refine CE.skip' ?_
  refine NE.code ?_
  refine CE.seq ?_
  refine CE.seq ?_
  refine CE.region ?_
  refine WL.det (op_fieldAddr (off' := 9) rfl Try.runUnderlying34 rfl rfl Try.sizeOf4 rfl) rfl rfl rfl ?_
  refine WL.det (op_load1 (i := 9) rfl Try.isAgg4 (((((r1.ext m2).ext m3).ext m4).ext m5).ext m6).rng rfl rfl) rfl rfl rfl ?_
  refine WL.det (op_fieldAddr (off' := 9) rfl Try.runUnderlying34 rfl rfl Try.sizeOf4 rfl) rfl rfl rfl ?_
  refine WL.det (op_load1 (i := 9) rfl Try.isAgg4 ((((r2.ext m3).ext m4).ext m5).ext m6).rng rfl rfl) rfl rfl rfl ?_
  refine WL.det (op_neb_same rfl rfl Try.underlying4) rfl rfl rfl ?_
  refine WL.end ?_
  refine NE.code ?_
  refine CE.cond_f rfl rfl ?_
  refine CE.skip' ?_
  refine NE.code ?_
  refine CE.seq ?_
  refine CE.seq ?_
  refine CE.region ?_
  refine WL.det (op_fieldAddr (off' := 10) rfl Try.runUnderlying34 rfl rfl Try.sizeOf22 rfl) rfl rfl rfl ?_
  refine WL.det (op_load1 (i := 10) rfl Try.isAgg22 (((((r1.ext m2).ext m3).ext m4).ext m5).ext m6).rng rfl rfl) rfl rfl rfl ?_
  refine WL.op (op_widen (e := (wide 0)) rfl rfl Try.runUnderlying22 Try.runUnderlying59 rfl) rfl rfl (ltb rfl) ?_
  rintro _ w7 ⟨⟨f1, rfl, hf1, lf1⟩, m7⟩
  refine WL.det (op_fieldAddr (off' := 10) rfl Try.runUnderlying34 rfl rfl Try.sizeOf22 rfl) rfl rfl rfl ?_
  refine WL.det (op_load1 (i := 10) rfl Try.isAgg22 (((((r2.ext m3).ext m4).ext m5).ext m6).ext m7).rng rfl rfl) rfl rfl rfl ?_
  refine WL.op (op_widen (e := (wide 0)) rfl rfl Try.runUnderlying22 Try.runUnderlying59 rfl) rfl rfl (ltb rfl) ?_
  rintro _ w8 ⟨⟨f2, rfl, hf2, lf2⟩, m8⟩
  refine WL.call (oc_call (vs := [.float .f64 f1, .float .f64 f2]) (cap := []) rfl rfl rfl Try.call15 (c_sameFloat f1 (wide 0) f2 (wide 0) hf1 hf2 w8)) rfl rfl (ltb rfl) ?_
  rintro _ w9 ⟨rfl, m9⟩
  refine WL.det (op_not rfl) rfl rfl rfl ?_
  refine WL.end ?_
  refine NE.code ?_
  refine CE.cond_f rfl (bnot_t (sameF_self _)) ?_
  refine CE.skip' ?_
  refine NE.code ?_
  refine CE.seq ?_
  refine CE.seq ?_
  refine CE.region ?_
  refine WL.det (op_fieldAddr (off' := 11) rfl Try.runUnderlying34 rfl rfl Try.sizeOf22 rfl) rfl rfl rfl ?_
  refine WL.det (op_load1 (i := 11) rfl Try.isAgg22 ((((((((r1.ext m2).ext m3).ext m4).ext m5).ext m6).ext m7).ext m8).ext m9).rng rfl rfl) rfl rfl rfl ?_
  refine WL.op (op_widen (e := (wide 0)) rfl rfl Try.runUnderlying22 Try.runUnderlying59 rfl) rfl rfl (ltb rfl) ?_
  rintro _ w10 ⟨⟨f3, rfl, hf3, lf3⟩, m10⟩
  refine WL.det (op_fieldAddr (off' := 11) rfl Try.runUnderlying34 rfl rfl Try.sizeOf22 rfl) rfl rfl rfl ?_
  refine WL.det (op_load1 (i := 11) rfl Try.isAgg22 ((((((((r2.ext m3).ext m4).ext m5).ext m6).ext m7).ext m8).ext m9).ext m10).rng rfl rfl) rfl rfl rfl ?_
  refine WL.op (op_widen (e := (wide 0)) rfl rfl Try.runUnderlying22 Try.runUnderlying59 rfl) rfl rfl (ltb rfl) ?_
  rintro _ w11 ⟨⟨f4, rfl, hf4, lf4⟩, m11⟩
  refine WL.call (oc_call (vs := [.float .f64 f3, .float .f64 f4]) (cap := []) rfl rfl rfl Try.call15 (c_sameFloat f3 (wide 0) f4 (wide 0) hf3 hf4 w11)) rfl rfl (ltb rfl) ?_
  rintro _ w12 ⟨rfl, m12⟩
  refine WL.det (op_not rfl) rfl rfl rfl ?_
  refine WL.end ?_
  refine NE.code ?_
  refine CE.cond_f rfl (bnot_t (sameF_self _)) ?_
  refine CE.skip' ?_
  refine NE.code ?_
  refine CE.seq ?_
  refine CE.seq ?_
  refine CE.region ?_
  refine WL.det (op_fieldAddr (off' := 12) rfl Try.runUnderlying34 rfl rfl Try.sizeOf22 rfl) rfl rfl rfl ?_
  refine WL.det (op_load1 (i := 12) rfl Try.isAgg22 (((((((((((r1.ext m2).ext m3).ext m4).ext m5).ext m6).ext m7).ext m8).ext m9).ext m10).ext m11).ext m12).rng rfl rfl) rfl rfl rfl ?_
  refine WL.op (op_widen (e := (wide 0)) rfl rfl Try.runUnderlying22 Try.runUnderlying59 rfl) rfl rfl (ltb rfl) ?_
  rintro _ w13 ⟨⟨f5, rfl, hf5, lf5⟩, m13⟩
  refine WL.det (op_fieldAddr (off' := 12) rfl Try.runUnderlying34 rfl rfl Try.sizeOf22 rfl) rfl rfl rfl ?_
  refine WL.det (op_load1 (i := 12) rfl Try.isAgg22 (((((((((((r2.ext m3).ext m4).ext m5).ext m6).ext m7).ext m8).ext m9).ext m10).ext m11).ext m12).ext m13).rng rfl rfl) rfl rfl rfl ?_
  refine WL.op (op_widen (e := (wide 0)) rfl rfl Try.runUnderlying22 Try.runUnderlying59 rfl) rfl rfl (ltb rfl) ?_
  rintro _ w14 ⟨⟨f6, rfl, hf6, lf6⟩, m14⟩
  refine WL.call (oc_call (vs := [.float .f64 f5, .float .f64 f6]) (cap := []) rfl rfl rfl Try.call15 (c_sameFloat f5 (wide 0) f6 (wide 0) hf5 hf6 w14)) rfl rfl (ltb rfl) ?_
  rintro _ w15 ⟨rfl, m15⟩
  refine WL.det (op_not rfl) rfl rfl rfl ?_
  refine WL.end ?_
  refine NE.code ?_
  refine CE.cond_f rfl (bnot_t (sameF_self _)) ?_
  refine CE.skip' ?_
  refine NE.code ?_
  refine CE.seq ?_
  refine CE.region ?_
  refine WL.det (op_assign rfl) rfl rfl rfl ?_
  refine WL.end ?_
  refine NE.code ?_
  refine CE.ret' ?_
  refine XE.leave1 Try.results17 rfl ?_
  refine ⟨rfl, ((((((((((((((((Mod.refl [] w).nt m1).nt m2).nt m3).nt m4).nt m5).nt m6).nt m7).nt m8).nt m9).nt m10).nt m11).nt m12).nt m13).nt m14).nt m15)⟩

set_option maxRecDepth 100000 in
set_option maxHeartbeats 2000000 in
theorem c_markPipe_nil (k : Nat) (hk : k ≤ 1048576) (w : World) : Cl Try.prog 20 #[.agg #[.slice none 0 0, .slice none 0 0, .slice none 0 0, vI 0, vF 0, vF 0, vF 0, vF 0, vF 0, .bool false, vF 0, vF 0, vF 0], vI ((k : Nat) : Int)] w fun v w' => v = vI ((k : Nat) : Int) ∧ Mod [] w w' := by
  refine Cl.of Try.func20 Try.ntmps20 rfl rfl (ρ := [(0, .agg #[.slice none 0 0, .slice none 0 0, .slice none 0 0, vI 0, vF 0, vF 0, vF 0, vF 0, vF 0, .bool false, vF 0, vF 0, vF 0]), (1, vI ((k : Nat) : Int))]) rfl ?_
  refine CE.seq ?_
  refine CE.region ?_
  refine WL.op (op_box (cs := [.slice none 0 0, .slice none 0 0, .slice none 0 0, vI 0, vF 0, vF 0, vF 0, vF 0, vF 0, .bool false, vF 0, vF 0, vF 0]) rfl rfl) rfl rfl (ltb rfl) ?_
  rintro _ w1 ⟨rfl, r1, m1, z1⟩
  refine WL.det (op_assign rfl) rfl rfl rfl ?_
  refine WL.end ?_
  refine NE.code ?_
  refine CE.seq ?_
  refine CE.region ?_
  refine WL.det (op_fieldAddr (off' := 0) rfl Try.runUnderlying34 rfl rfl Try.sizeOf32 rfl) rfl rfl rfl ?_
  refine WL.det (op_load1 (i := 0) rfl Try.isAgg32 r1.rng rfl rfl) rfl rfl rfl ?_
  refine WL.det (op_move rfl) rfl rfl rfl ?_
  refine WL.call (oc_call (vs := [.slice none 0 0, vI ((k : Nat) : Int)]) (cap := []) rfl rfl rfl Try.call45 (c_markRingS_nil k w1)) rfl rfl (ltb rfl) ?_
  rintro _ w2 ⟨rfl, m2⟩
  refine WL.det (op_assign rfl) rfl rfl rfl ?_
  refine WL.end ?_
  refine NE.code ?_
  refine CE.seq ?_
  refine CE.region ?_
  refine WL.det (op_fieldAddr (off' := 1) rfl Try.runUnderlying34 rfl rfl Try.sizeOf32 rfl) rfl rfl rfl ?_
  refine WL.det (op_load1 (i := 1) rfl Try.isAgg32 (r1.ext m2).rng rfl rfl) rfl rfl rfl ?_
  refine WL.det (op_move rfl) rfl rfl rfl ?_
  refine WL.call (oc_call (vs := [.slice none 0 0, vI ((k : Nat) : Int)]) (cap := []) rfl rfl rfl Try.call45 (c_markRingS_nil k w2)) rfl rfl (ltb rfl) ?_
  rintro _ w3 ⟨rfl, m3⟩
  refine WL.det (op_assign rfl) rfl rfl rfl ?_
  refine WL.end ?_
  refine NE.code ?_
  refine CE.seq ?_
  refine CE.region ?_
  refine WL.det (op_fieldAddr (off' := 2) rfl Try.runUnderlying34 rfl rfl Try.sizeOf23 rfl) rfl rfl rfl ?_
  refine WL.det (op_load1 (i := 2) rfl Try.isAgg23 ((r1.ext m2).ext m3).rng rfl rfl) rfl rfl rfl ?_
  refine WL.det (op_move rfl) rfl rfl rfl ?_
  refine WL.call (oc_call (vs := [.slice none 0 0, vI ((k : Nat) : Int)]) (cap := []) rfl rfl rfl Try.call46 (c_mark32_nil k w3)) rfl rfl (ltb rfl) ?_
  rintro _ _ ⟨rfl, rfl⟩
  refine WL.det (op_assign rfl) rfl rfl rfl ?_
  refine WL.end ?_
  refine NE.code ?_
  refine CE.seq ?_
  refine CE.region ?_
  refine WL.det (op_move rfl) rfl rfl rfl ?_
  refine WL.det (op_assign rfl) rfl rfl rfl ?_
  refine WL.end ?_
  refine NE.code ?_
  refine CE.ret' ?_
  refine XE.leave1 Try.results20 rfl ?_
  refine ⟨rfl, ((((Mod.refl [] w).nt m1).nt m2).nt m3)⟩

set_option maxRecDepth 100000 in
set_option maxHeartbeats 2000000 in
theorem c_heldPipe_nil (k : Nat) (hk : k ≤ 1048576) (w : World) : Cl Try.prog 23 #[.agg #[.slice none 0 0, .slice none 0 0, .slice none 0 0, vI 0, vF 0, vF 0, vF 0, vF 0, vF 0, .bool false, vF 0, vF 0, vF 0], vI ((k : Nat) : Int)] w fun v w' => v = vI ((k : Nat) : Int) ∧ Mod [] w w' := by
  refine Cl.of Try.func23 Try.ntmps23 rfl rfl (ρ := [(0, .agg #[.slice none 0 0, .slice none 0 0, .slice none 0 0, vI 0, vF 0, vF 0, vF 0, vF 0, vF 0, .bool false, vF 0, vF 0, vF 0]), (1, vI ((k : Nat) : Int))]) rfl ?_
  refine CE.seq ?_
  refine CE.region ?_
  refine WL.op (op_box (cs := [.slice none 0 0, .slice none 0 0, .slice none 0 0, vI 0, vF 0, vF 0, vF 0, vF 0, vF 0, .bool false, vF 0, vF 0, vF 0]) rfl rfl) rfl rfl (ltb rfl) ?_
  rintro _ w1 ⟨rfl, r1, m1, z1⟩
  refine WL.det (op_assign rfl) rfl rfl rfl ?_
  refine WL.end ?_
  refine NE.code ?_
  refine CE.seq ?_
  refine CE.region ?_
  refine WL.det (op_fieldAddr (off' := 0) rfl Try.runUnderlying34 rfl rfl Try.sizeOf32 rfl) rfl rfl rfl ?_
  refine WL.det (op_load1 (i := 0) rfl Try.isAgg32 r1.rng rfl rfl) rfl rfl rfl ?_
  refine WL.det (op_move rfl) rfl rfl rfl ?_
  refine WL.call (oc_call (vs := [.slice none 0 0, vI ((k : Nat) : Int)]) (cap := []) rfl rfl rfl Try.call48 (c_heldRingS_nil k w1)) rfl rfl (ltb rfl) ?_
  rintro _ w2 ⟨rfl, m2⟩
  refine WL.det (op_assign rfl) rfl rfl rfl ?_
  refine WL.end ?_
  refine NE.code ?_
  refine CE.seq ?_
  refine CE.seq ?_
  refine CE.region ?_
  refine WL.det (op_move rfl) rfl rfl rfl ?_
  refine WL.det (op_lti_f rfl rfl (by omega)) rfl rfl rfl ?_
  refine WL.end ?_
  refine NE.code ?_
  refine CE.cond_f rfl rfl ?_
  refine CE.skip' ?_
  refine NE.code ?_
  refine CE.seq ?_
  refine CE.region ?_
  refine WL.det (op_fieldAddr (off' := 1) rfl Try.runUnderlying34 rfl rfl Try.sizeOf32 rfl) rfl rfl rfl ?_
  refine WL.det (op_load1 (i := 1) rfl Try.isAgg32 (r1.ext m2).rng rfl rfl) rfl rfl rfl ?_
  refine WL.det (op_move rfl) rfl rfl rfl ?_
  refine WL.call (oc_call (vs := [.slice none 0 0, vI ((k : Nat) : Int)]) (cap := []) rfl rfl rfl Try.call48 (c_heldRingS_nil k w2)) rfl rfl (ltb rfl) ?_
  rintro _ w3 ⟨rfl, m3⟩
  refine WL.det (op_assign rfl) rfl rfl rfl ?_
  refine WL.end ?_
  refine NE.code ?_
  refine CE.seq ?_
  refine CE.seq ?_
  refine CE.region ?_
  refine WL.det (op_move rfl) rfl rfl rfl ?_
  refine WL.det (op_lti_f rfl rfl (by omega)) rfl rfl rfl ?_
  refine WL.end ?_
  refine NE.code ?_
  refine CE.cond_f rfl rfl ?_
  refine CE.skip' ?_
  refine NE.code ?_
  refine CE.seq ?_
  refine CE.region ?_
  refine WL.det (op_fieldAddr (off' := 2) rfl Try.runUnderlying34 rfl rfl Try.sizeOf23 rfl) rfl rfl rfl ?_
  refine WL.det (op_load1 (i := 2) rfl Try.isAgg23 ((r1.ext m2).ext m3).rng rfl rfl) rfl rfl rfl ?_
  refine WL.det (op_move rfl) rfl rfl rfl ?_
  refine WL.call (oc_call (vs := [.slice none 0 0, vI ((k : Nat) : Int)]) (cap := []) rfl rfl rfl Try.call49 (c_held32 0 0 none 0 0 [] k rfl (fun h => absurd h (Nat.lt_irrefl _)) (by omega) (by omega) (by first | assumption | exact marks_held _ _ _) w3 (Rng.nil _ _ _))) rfl rfl (ltb rfl) ?_
  rintro _ w4 ⟨rfl, m4⟩
  refine WL.det (op_assign rfl) rfl rfl rfl ?_
  refine WL.end ?_
  refine NE.code ?_
  refine CE.seq ?_
  refine CE.seq ?_
  refine CE.region ?_
  refine WL.det (op_move rfl) rfl rfl rfl ?_
  refine WL.det (op_lti_f rfl rfl (by omega)) rfl rfl rfl ?_
  refine WL.end ?_
  refine NE.code ?_
  refine CE.cond_f rfl rfl ?_
  refine CE.skip' ?_
  refine NE.code ?_
  refine CE.seq ?_
  refine CE.region ?_
  refine WL.det (op_move rfl) rfl rfl rfl ?_
  refine WL.det (op_assign rfl) rfl rfl rfl ?_
  refine WL.end ?_
  refine NE.code ?_
  refine CE.ret' ?_
  refine XE.leave1 Try.results23 rfl ?_
  refine ⟨?_, (((((Mod.refl [] w).nt m1).nt m2).nt m3).nt m4)⟩
  all_goals simp_all

set_option maxRecDepth 100000 in
set_option maxHeartbeats 2000000 in
theorem c_eqVoice_nil (w : World) : Cl Try.prog 7 #[.agg #[vI (-1), vI 0, vI 0, .bool false, vF 0, .slice none 0 0, vI 0, vI 0, vF 0, vF 0, vF 0, vF 0, vF 0, vI 0, vF 0, vF 0, vF 0, vF 0, vF 0, vF 0, .slice none 0 0, .slice none 0 0, .slice none 0 0, vI 0, vF 0, vF 0, vF 0, vF 0, vF 0, .bool false, vF 0, vF 0, vF 0, .slice none 0 0, vI 0, .slice none 0 0, vI 0, vI 0, vF 0, vF 0, vF 0, vF 0, vF 0, vF 0, vF 0], .agg #[vI (-1), vI 0, vI 0, .bool false, vF 0, .slice none 0 0, vI 0, vI 0, vF 0, vF 0, vF 0, vF 0, vF 0, vI 0, vF 0, vF 0, vF 0, vF 0, vF 0, vF 0, .slice none 0 0, .slice none 0 0, .slice none 0 0, vI 0, vF 0, vF 0, vF 0, vF 0, vF 0, .bool false, vF 0, vF 0, vF 0, .slice none 0 0, vI 0, .slice none 0 0, vI 0, vI 0, vF 0, vF 0, vF 0, vF 0, vF 0, vF 0, vF 0]] w fun v w' => v = .bool true ∧ Mod [] w w' := by
  refine Cl.of Try.func7 Try.ntmps7 rfl rfl (ρ := [(0, .agg #[vI (-1), vI 0, vI 0, .bool false, vF 0, .slice none 0 0, vI 0, vI 0, vF 0, vF 0, vF 0, vF 0, vF 0, vI 0, vF 0, vF 0, vF 0, vF 0, vF 0, vF 0, .slice none 0 0, .slice none 0 0, .slice none 0 0, vI 0, vF 0, vF 0, vF 0, vF 0, vF 0, .bool false, vF 0, vF 0, vF 0, .slice none 0 0, vI 0, .slice none 0 0, vI 0, vI 0, vF 0, vF 0, vF 0, vF 0, vF 0, vF 0, vF 0]), (1, .agg #[vI (-1), vI 0, vI 0, .bool false, vF 0, .slice none 0 0, vI 0, vI 0, vF 0, vF 0, vF 0, vF 0, vF 0, vI 0, vF 0, vF 0, vF 0, vF 0, vF 0, vF 0, .slice none 0 0, .slice none 0 0, .slice none 0 0, vI 0, vF 0, vF 0, vF 0, vF 0, vF 0, .bool false, vF 0, vF 0, vF 0, .slice none 0 0, vI 0, .slice none 0 0, vI 0, vI 0, vF 0, vF 0, vF 0, vF 0, vF 0, vF 0, vF 0])]) rfl ?_
  refine CE.seq ?_
  refine CE.region ?_
  refine WL.op (op_box (cs := [vI (-1), vI 0, vI 0, .bool false, vF 0, .slice none 0 0, vI 0, vI 0, vF 0, vF 0, vF 0, vF 0, vF 0, vI 0, vF 0, vF 0, vF 0, vF 0, vF 0, vF 0, .slice none 0 0, .slice none 0 0, .slice none 0 0, vI 0, vF 0, vF 0, vF 0, vF 0, vF 0, .bool false, vF 0, vF 0, vF 0, .slice none 0 0, vI 0, .slice none 0 0, vI 0, vI 0, vF 0, vF 0, vF 0, vF 0, vF 0, vF 0, vF 0]) rfl rfl) rfl rfl (ltb rfl) ?_
  rintro _ w1 ⟨rfl, r1, m1, z1⟩
  refine WL.op (op_box (cs := [vI (-1), vI 0, vI 0, .bool false, vF 0, .slice none 0 0, vI 0, vI 0, vF 0, vF 0, vF 0, vF 0, vF 0, vI 0, vF 0, vF 0, vF 0, vF 0, vF 0, vF 0, .slice none 0 0, .slice none 0 0, .slice none 0 0, vI 0, vF 0, vF 0, vF 0, vF 0, vF 0, .bool false, vF 0, vF 0, vF 0, .slice none 0 0, vI 0, .slice none 0 0, vI 0, vI 0, vF 0, vF 0, vF 0, vF 0, vF 0, vF 0, vF 0]) rfl rfl) rfl rfl (ltb rfl) ?_
  rintro _ w2 ⟨rfl, r2, m2, z2⟩
  refine WL.det (op_assign rfl) rfl rfl rfl ?_
  refine WL.end ?_
  refine NE.code ?_
  refine CE.seq ?_
  refine CE.seq ?_
  refine CE.region ?_
  refine WL.det (op_fieldAddr (off' := 0) rfl Try.runUnderlying38 rfl rfl Try.sizeOf2 rfl) rfl rfl rfl ?_
  refine WL.det (op_load1 (i := 0) rfl Try.isAgg2 (r1.ext m2).rng rfl rfl) rfl rfl rfl ?_
  refine WL.det (op_fieldAddr (off' := 0) rfl Try.runUnderlying38 rfl rfl Try.sizeOf2 rfl) rfl rfl rfl ?_
  refine WL.det (op_load1 (i := 0) rfl Try.isAgg2 r2.rng rfl rfl) rfl rfl rfl ?_
  refine WL.det (op_nei rfl rfl) rfl rfl rfl ?_
  refine WL.end ?_
  refine NE.code ?_
  refine CE.cond_f rfl rfl ?_
  refine CE.skip' ?_
  refine NE.code ?_
  refine CE.seq ?_
  refine CE.seq ?_
  refine CE.region ?_
  refine WL.det (op_fieldAddr (off' := 1) rfl Try.runUnderlying38 rfl rfl Try.sizeOf2 rfl) rfl rfl rfl ?_
  refine WL.det (op_load1 (i := 1) rfl Try.isAgg2 (r1.ext m2).rng rfl rfl) rfl rfl rfl ?_
  refine WL.det (op_fieldAddr (off' := 1) rfl Try.runUnderlying38 rfl rfl Try.sizeOf2 rfl) rfl rfl rfl ?_
  refine WL.det (op_load1 (i := 1) rfl Try.isAgg2 r2.rng rfl rfl) rfl rfl rfl ?_
  refine WL.det (op_nei rfl rfl) rfl rfl rfl ?_
  refine WL.end ?_
  refine NE.code ?_
  refine CE.cond_f rfl rfl ?_
  refine CE.skip' ?_
  refine NE.code ?_
  refine CE.seq ?_
  refine CE.seq ?_
  refine CE.region ?_
  refine WL.det (op_fieldAddr (off' := 2) rfl Try.runUnderlying38 rfl rfl Try.sizeOf2 rfl) rfl rfl rfl ?_
  refine WL.det (op_load1 (i := 2) rfl Try.isAgg2 (r1.ext m2).rng rfl rfl) rfl rfl rfl ?_
  refine WL.det (op_fieldAddr (off' := 2) rfl Try.runUnderlying38 rfl rfl Try.sizeOf2 rfl) rfl rfl rfl ?_
  refine WL.det (op_load1 (i := 2) rfl Try.isAgg2 r2.rng rfl rfl) rfl rfl rfl ?_
  refine WL.det (op_nei rfl rfl) rfl rfl rfl ?_
  refine WL.end ?_
  refine NE.code ?_
  refine CE.cond_f rfl rfl ?_
  refine CE.skip' ?_
  refine NE.code ?_
  refine CE.seq ?_
  refine CE.seq ?_
  refine CE.region ?_
  refine WL.det (op_fieldAddr (off' := 3) rfl Try.runUnderlying38 rfl rfl Try.sizeOf4 rfl) rfl rfl rfl ?_
  refine WL.det (op_load1 (i := 3) rfl Try.isAgg4 (r1.ext m2).rng rfl rfl) rfl rfl rfl ?_
  refine WL.det (op_fieldAddr (off' := 3) rfl Try.runUnderlying38 rfl rfl Try.sizeOf4 rfl) rfl rfl rfl ?_
  refine WL.det (op_load1 (i := 3) rfl Try.isAgg4 r2.rng rfl rfl) rfl rfl rfl ?_
  refine WL.det (op_neb_same rfl rfl Try.underlying4) rfl rfl rfl ?_
  refine WL.end ?_
  refine NE.code ?_
  refine CE.cond_f rfl rfl ?_
  refine CE.skip' ?_
  refine NE.code ?_
  refine CE.seq ?_
  refine CE.seq ?_
  refine CE.region ?_
  refine WL.det (op_fieldAddr (off' := 4) rfl Try.runUnderlying38 rfl rfl Try.sizeOf22 rfl) rfl rfl rfl ?_
  refine WL.det (op_load1 (i := 4) rfl Try.isAgg22 (r1.ext m2).rng rfl rfl) rfl rfl rfl ?_
  refine WL.op (op_widen (e := (wide 0)) rfl rfl Try.runUnderlying22 Try.runUnderlying59 rfl) rfl rfl (ltb rfl) ?_
  rintro _ w3 ⟨⟨f1, rfl, hf1, lf1⟩, m3⟩
  refine WL.det (op_fieldAddr (off' := 4) rfl Try.runUnderlying38 rfl rfl Try.sizeOf22 rfl) rfl rfl rfl ?_
  refine WL.det (op_load1 (i := 4) rfl Try.isAgg22 (r2.ext m3).rng rfl rfl) rfl rfl rfl ?_
  refine WL.op (op_widen (e := (wide 0)) rfl rfl Try.runUnderlying22 Try.runUnderlying59 rfl) rfl rfl (ltb rfl) ?_
  rintro _ w4 ⟨⟨f2, rfl, hf2, lf2⟩, m4⟩
  refine WL.call (oc_call (vs := [.float .f64 f1, .float .f64 f2]) (cap := []) rfl rfl rfl Try.call15 (c_sameFloat f1 (wide 0) f2 (wide 0) hf1 hf2 w4)) rfl rfl (ltb rfl) ?_
  rintro _ w5 ⟨rfl, m5⟩
  refine WL.det (op_not rfl) rfl rfl rfl ?_
  refine WL.end ?_
  refine NE.code ?_
  refine CE.cond_f rfl (bnot_t (sameF_self _)) ?_
  refine CE.skip' ?_
  refine NE.code ?_
  refine CE.seq ?_
  refine CE.seq ?_
  refine CE.region ?_
  refine WL.det (op_fieldAddr (off' := 5) rfl Try.runUnderlying38 rfl rfl Try.sizeOf31 rfl) rfl rfl rfl ?_
  refine WL.det (op_loadA (i := 5) (cs := [.slice none 0 0, vI 0, vI 0, vF 0, vF 0, vF 0, vF 0, vF 0, vI 0, vF 0, vF 0, vF 0, vF 0, vF 0, vF 0]) rfl Try.isAgg31 Try.sizeOf31 ((((r1.ext m2).ext m3).ext m4).ext m5).rng rfl rfl rfl) rfl rfl rfl ?_
  refine WL.det (op_fieldAddr (off' := 5) rfl Try.runUnderlying38 rfl rfl Try.sizeOf31 rfl) rfl rfl rfl ?_
  refine WL.det (op_loadA (i := 5) (cs := [.slice none 0 0, vI 0, vI 0, vF 0, vF 0, vF 0, vF 0, vF 0, vI 0, vF 0, vF 0, vF 0, vF 0, vF 0, vF 0]) rfl Try.isAgg31 Try.sizeOf31 (((r2.ext m3).ext m4).ext m5).rng rfl rfl rfl) rfl rfl rfl ?_
  refine WL.call (oc_call (vs := [.agg #[.slice none 0 0, vI 0, vI 0, vF 0, vF 0, vF 0, vF 0, vF 0, vI 0, vF 0, vF 0, vF 0, vF 0, vF 0, vF 0], .agg #[.slice none 0 0, vI 0, vI 0, vF 0, vF 0, vF 0, vF 0, vF 0, vI 0, vF 0, vF 0, vF 0, vF 0, vF 0, vF 0]]) (cap := []) rfl rfl rfl Try.call16 (c_eqString 0 0 none 0 0 [] (0 : Int) (0 : Int) 0 0 0 0 0 0 0 0 0 0 (0 : Int) 0 0 0 0 0 0 0 0 0 0 0 0 0 none 0 0 0 0 0 0 0 0 0 0 0 0 0 rfl (fun h => absurd h (Nat.lt_irrefl _)) (fun h => absurd h (Nat.lt_irrefl _)) rfl rfl rfl rfl rfl rfl rfl rfl rfl rfl rfl rfl rfl rfl rfl rfl rfl rfl rfl rfl rfl rfl (by omega) w5 (Rng.nil _ _ _) (Rng.nil _ _ _))) rfl rfl (ltb rfl) ?_
  rintro _ w6 ⟨rfl, m6⟩
  refine WL.det (op_not rfl) rfl rfl rfl ?_
  refine WL.end ?_
  refine NE.code ?_
  refine CE.cond_f rfl rfl ?_
  refine CE.skip' ?_
  refine NE.code ?_
  refine CE.seq ?_
  refine CE.seq ?_
  refine CE.region ?_
  refine WL.det (op_fieldAddr (off' := 20) rfl Try.runUnderlying38 rfl rfl Try.sizeOf34 rfl) rfl rfl rfl ?_
  refine WL.det (op_loadA (i := 20) (cs := [.slice none 0 0, .slice none 0 0, .slice none 0 0, vI 0, vF 0, vF 0, vF 0, vF 0, vF 0, .bool false, vF 0, vF 0, vF 0]) rfl Try.isAgg34 Try.sizeOf34 (((((r1.ext m2).ext m3).ext m4).ext m5).ext m6).rng rfl rfl rfl) rfl rfl rfl ?_
  refine WL.det (op_fieldAddr (off' := 20) rfl Try.runUnderlying38 rfl rfl Try.sizeOf34 rfl) rfl rfl rfl ?_
  refine WL.det (op_loadA (i := 20) (cs := [.slice none 0 0, .slice none 0 0, .slice none 0 0, vI 0, vF 0, vF 0, vF 0, vF 0, vF 0, .bool false, vF 0, vF 0, vF 0]) rfl Try.isAgg34 Try.sizeOf34 ((((r2.ext m3).ext m4).ext m5).ext m6).rng rfl rfl rfl) rfl rfl rfl ?_
  refine WL.call (oc_call (vs := [.agg #[.slice none 0 0, .slice none 0 0, .slice none 0 0, vI 0, vF 0, vF 0, vF 0, vF 0, vF 0, .bool false, vF 0, vF 0, vF 0], .agg #[.slice none 0 0, .slice none 0 0, .slice none 0 0, vI 0, vF 0, vF 0, vF 0, vF 0, vF 0, .bool false, vF 0, vF 0, vF 0]]) (cap := []) rfl rfl rfl Try.call17 (c_eqPipe_nil w6)) rfl rfl (ltb rfl) ?_
  rintro _ w7 ⟨rfl, m7⟩
  refine WL.det (op_not rfl) rfl rfl rfl ?_
  refine WL.end ?_
  refine NE.code ?_
  refine CE.cond_f rfl rfl ?_
  refine CE.skip' ?_
  refine NE.code ?_
  refine CE.seq ?_
  refine CE.seq ?_
  refine CE.region ?_
  refine WL.det (op_fieldAddr (off' := 33) rfl Try.runUnderlying38 rfl rfl Try.sizeOf36 rfl) rfl rfl rfl ?_
  refine WL.det (op_loadA (i := 33) (cs := [.slice none 0 0, vI 0, .slice none 0 0, vI 0, vI 0, vF 0, vF 0, vF 0, vF 0, vF 0, vF 0, vF 0]) rfl Try.isAgg36 Try.sizeOf36 ((((((r1.ext m2).ext m3).ext m4).ext m5).ext m6).ext m7).rng rfl rfl rfl) rfl rfl rfl ?_
  refine WL.det (op_fieldAddr (off' := 33) rfl Try.runUnderlying38 rfl rfl Try.sizeOf36 rfl) rfl rfl rfl ?_
  refine WL.det (op_loadA (i := 33) (cs := [.slice none 0 0, vI 0, .slice none 0 0, vI 0, vI 0, vF 0, vF 0, vF 0, vF 0, vF 0, vF 0, vF 0]) rfl Try.isAgg36 Try.sizeOf36 (((((r2.ext m3).ext m4).ext m5).ext m6).ext m7).rng rfl rfl rfl) rfl rfl rfl ?_
  refine WL.call (oc_call (vs := [.agg #[.slice none 0 0, vI 0, .slice none 0 0, vI 0, vI 0, vF 0, vF 0, vF 0, vF 0, vF 0, vF 0, vF 0], .agg #[.slice none 0 0, vI 0, .slice none 0 0, vI 0, vI 0, vF 0, vF 0, vF 0, vF 0, vF 0, vF 0, vF 0]]) (cap := []) rfl rfl rfl Try.call18 (c_eqBow 0 0 none 0 0 [] (0 : Int) 0 0 none 0 0 [] (0 : Int) (0 : Int) 0 0 0 0 0 0 0 0 0 0 0 0 0 0 0 none 0 0 0 none 0 0 0 0 0 0 0 0 0 rfl (fun h => absurd h (Nat.lt_irrefl _)) rfl (fun h => absurd h (Nat.lt_irrefl _)) (fun h => absurd h (Nat.lt_irrefl _)) (fun h => absurd h (Nat.lt_irrefl _)) rfl rfl rfl rfl rfl rfl rfl rfl rfl rfl rfl rfl rfl rfl (by omega) (by omega) w7 (Rng.nil _ _ _) (Rng.nil _ _ _) (Rng.nil _ _ _) (Rng.nil _ _ _))) rfl rfl (ltb rfl) ?_
  rintro _ w8 ⟨rfl, m8⟩
  refine WL.det (op_not rfl) rfl rfl rfl ?_
  refine WL.end ?_
  refine NE.code ?_
  refine CE.cond_f rfl rfl ?_
  refine CE.skip' ?_
  refine NE.code ?_
  refine CE.seq ?_
  refine CE.region ?_
  refine WL.det (op_assign rfl) rfl rfl rfl ?_
  refine WL.end ?_
  refine NE.code ?_
  refine CE.ret' ?_
  refine XE.leave1 Try.results7 rfl ?_
  refine ⟨rfl, (((((((((Mod.refl [] w).nt m1).nt m2).nt m3).nt m4).nt m5).nt m6).nt m7).nt m8)⟩

set_option maxRecDepth 100000 in
set_option maxHeartbeats 2000000 in
theorem c_markVoice_nil (k : Nat) (hk : k ≤ 1048576) (w : World) : Cl Try.prog 8 #[.agg #[vI (-1), vI 0, vI 0, .bool false, vF 0, .slice none 0 0, vI 0, vI 0, vF 0, vF 0, vF 0, vF 0, vF 0, vI 0, vF 0, vF 0, vF 0, vF 0, vF 0, vF 0, .slice none 0 0, .slice none 0 0, .slice none 0 0, vI 0, vF 0, vF 0, vF 0, vF 0, vF 0, .bool false, vF 0, vF 0, vF 0, .slice none 0 0, vI 0, .slice none 0 0, vI 0, vI 0, vF 0, vF 0, vF 0, vF 0, vF 0, vF 0, vF 0], vI ((k : Nat) : Int)] w fun v w' => v = vI ((k : Nat) : Int) ∧ Mod [] w w' := by
  refine Cl.of Try.func8 Try.ntmps8 rfl rfl (ρ := [(0, .agg #[vI (-1), vI 0, vI 0, .bool false, vF 0, .slice none 0 0, vI 0, vI 0, vF 0, vF 0, vF 0, vF 0, vF 0, vI 0, vF 0, vF 0, vF 0, vF 0, vF 0, vF 0, .slice none 0 0, .slice none 0 0, .slice none 0 0, vI 0, vF 0, vF 0, vF 0, vF 0, vF 0, .bool false, vF 0, vF 0, vF 0, .slice none 0 0, vI 0, .slice none 0 0, vI 0, vI 0, vF 0, vF 0, vF 0, vF 0, vF 0, vF 0, vF 0]), (1, vI ((k : Nat) : Int))]) rfl ?_
  refine CE.seq ?_
  refine CE.region ?_
  refine WL.op (op_box (cs := [vI (-1), vI 0, vI 0, .bool false, vF 0, .slice none 0 0, vI 0, vI 0, vF 0, vF 0, vF 0, vF 0, vF 0, vI 0, vF 0, vF 0, vF 0, vF 0, vF 0, vF 0, .slice none 0 0, .slice none 0 0, .slice none 0 0, vI 0, vF 0, vF 0, vF 0, vF 0, vF 0, .bool false, vF 0, vF 0, vF 0, .slice none 0 0, vI 0, .slice none 0 0, vI 0, vI 0, vF 0, vF 0, vF 0, vF 0, vF 0, vF 0, vF 0]) rfl rfl) rfl rfl (ltb rfl) ?_
  rintro _ w1 ⟨rfl, r1, m1, z1⟩
  refine WL.det (op_assign rfl) rfl rfl rfl ?_
  refine WL.end ?_
  refine NE.code ?_
  refine CE.seq ?_
  refine CE.region ?_
  refine WL.det (op_fieldAddr (off' := 5) rfl Try.runUnderlying38 rfl rfl Try.sizeOf31 rfl) rfl rfl rfl ?_
  refine WL.det (op_loadA (i := 5) (cs := [.slice none 0 0, vI 0, vI 0, vF 0, vF 0, vF 0, vF 0, vF 0, vI 0, vF 0, vF 0, vF 0, vF 0, vF 0, vF 0]) rfl Try.isAgg31 Try.sizeOf31 r1.rng rfl rfl rfl) rfl rfl rfl ?_
  refine WL.det (op_move rfl) rfl rfl rfl ?_
  refine WL.call (oc_call (vs := [.agg #[.slice none 0 0, vI 0, vI 0, vF 0, vF 0, vF 0, vF 0, vF 0, vI 0, vF 0, vF 0, vF 0, vF 0, vF 0, vF 0], vI ((k : Nat) : Int)]) (cap := []) rfl rfl rfl Try.call19 (c_markString_nil (0 : Int) (0 : Int) 0 0 0 0 0 (0 : Int) 0 0 0 0 0 0 k (by omega) w1)) rfl rfl (ltb rfl) ?_
  rintro _ w2 ⟨rfl, m2⟩
  refine WL.det (op_assign rfl) rfl rfl rfl ?_
  refine WL.end ?_
  refine NE.code ?_
  refine CE.seq ?_
  refine CE.region ?_
  refine WL.det (op_fieldAddr (off' := 20) rfl Try.runUnderlying38 rfl rfl Try.sizeOf34 rfl) rfl rfl rfl ?_
  refine WL.det (op_loadA (i := 20) (cs := [.slice none 0 0, .slice none 0 0, .slice none 0 0, vI 0, vF 0, vF 0, vF 0, vF 0, vF 0, .bool false, vF 0, vF 0, vF 0]) rfl Try.isAgg34 Try.sizeOf34 (r1.ext m2).rng rfl rfl rfl) rfl rfl rfl ?_
  refine WL.det (op_move rfl) rfl rfl rfl ?_
  refine WL.call (oc_call (vs := [.agg #[.slice none 0 0, .slice none 0 0, .slice none 0 0, vI 0, vF 0, vF 0, vF 0, vF 0, vF 0, .bool false, vF 0, vF 0, vF 0], vI ((k : Nat) : Int)]) (cap := []) rfl rfl rfl Try.call20 (c_markPipe_nil k (by omega) w2)) rfl rfl (ltb rfl) ?_
  rintro _ w3 ⟨rfl, m3⟩
  refine WL.det (op_assign rfl) rfl rfl rfl ?_
  refine WL.end ?_
  refine NE.code ?_
  refine CE.seq ?_
  refine CE.region ?_
  refine WL.det (op_fieldAddr (off' := 33) rfl Try.runUnderlying38 rfl rfl Try.sizeOf36 rfl) rfl rfl rfl ?_
  refine WL.det (op_loadA (i := 33) (cs := [.slice none 0 0, vI 0, .slice none 0 0, vI 0, vI 0, vF 0, vF 0, vF 0, vF 0, vF 0, vF 0, vF 0]) rfl Try.isAgg36 Try.sizeOf36 ((r1.ext m2).ext m3).rng rfl rfl rfl) rfl rfl rfl ?_
  refine WL.det (op_move rfl) rfl rfl rfl ?_
  refine WL.call (oc_call (vs := [.agg #[.slice none 0 0, vI 0, .slice none 0 0, vI 0, vI 0, vF 0, vF 0, vF 0, vF 0, vF 0, vF 0, vF 0], vI ((k : Nat) : Int)]) (cap := []) rfl rfl rfl Try.call21 (c_markBow_nil (0 : Int) (0 : Int) (0 : Int) 0 0 0 0 0 0 0 k (by omega) w3)) rfl rfl (ltb rfl) ?_
  rintro _ w4 ⟨rfl, m4⟩
  refine WL.det (op_assign rfl) rfl rfl rfl ?_
  refine WL.end ?_
  refine NE.code ?_
  refine CE.seq ?_
  refine CE.region ?_
  refine WL.det (op_move rfl) rfl rfl rfl ?_
  refine WL.det (op_assign rfl) rfl rfl rfl ?_
  refine WL.end ?_
  refine NE.code ?_
  refine CE.ret' ?_
  refine XE.leave1 Try.results8 rfl ?_
  refine ⟨rfl, (((((Mod.refl [] w).nt m1).nt m2).nt m3).nt m4)⟩

set_option maxRecDepth 100000 in
set_option maxHeartbeats 2000000 in
theorem c_heldVoice_nil (k : Nat) (hk : k ≤ 1048576) (w : World) : Cl Try.prog 9 #[.agg #[vI (-1), vI 0, vI 0, .bool false, vF 0, .slice none 0 0, vI 0, vI 0, vF 0, vF 0, vF 0, vF 0, vF 0, vI 0, vF 0, vF 0, vF 0, vF 0, vF 0, vF 0, .slice none 0 0, .slice none 0 0, .slice none 0 0, vI 0, vF 0, vF 0, vF 0, vF 0, vF 0, .bool false, vF 0, vF 0, vF 0, .slice none 0 0, vI 0, .slice none 0 0, vI 0, vI 0, vF 0, vF 0, vF 0, vF 0, vF 0, vF 0, vF 0], vI ((k : Nat) : Int)] w fun v w' => v = vI ((k : Nat) : Int) ∧ Mod [] w w' := by
  refine Cl.of Try.func9 Try.ntmps9 rfl rfl (ρ := [(0, .agg #[vI (-1), vI 0, vI 0, .bool false, vF 0, .slice none 0 0, vI 0, vI 0, vF 0, vF 0, vF 0, vF 0, vF 0, vI 0, vF 0, vF 0, vF 0, vF 0, vF 0, vF 0, .slice none 0 0, .slice none 0 0, .slice none 0 0, vI 0, vF 0, vF 0, vF 0, vF 0, vF 0, .bool false, vF 0, vF 0, vF 0, .slice none 0 0, vI 0, .slice none 0 0, vI 0, vI 0, vF 0, vF 0, vF 0, vF 0, vF 0, vF 0, vF 0]), (1, vI ((k : Nat) : Int))]) rfl ?_
  refine CE.seq ?_
  refine CE.region ?_
  refine WL.op (op_box (cs := [vI (-1), vI 0, vI 0, .bool false, vF 0, .slice none 0 0, vI 0, vI 0, vF 0, vF 0, vF 0, vF 0, vF 0, vI 0, vF 0, vF 0, vF 0, vF 0, vF 0, vF 0, .slice none 0 0, .slice none 0 0, .slice none 0 0, vI 0, vF 0, vF 0, vF 0, vF 0, vF 0, .bool false, vF 0, vF 0, vF 0, .slice none 0 0, vI 0, .slice none 0 0, vI 0, vI 0, vF 0, vF 0, vF 0, vF 0, vF 0, vF 0, vF 0]) rfl rfl) rfl rfl (ltb rfl) ?_
  rintro _ w1 ⟨rfl, r1, m1, z1⟩
  refine WL.det (op_assign rfl) rfl rfl rfl ?_
  refine WL.end ?_
  refine NE.code ?_
  refine CE.seq ?_
  refine CE.region ?_
  refine WL.det (op_fieldAddr (off' := 5) rfl Try.runUnderlying38 rfl rfl Try.sizeOf31 rfl) rfl rfl rfl ?_
  refine WL.det (op_loadA (i := 5) (cs := [.slice none 0 0, vI 0, vI 0, vF 0, vF 0, vF 0, vF 0, vF 0, vI 0, vF 0, vF 0, vF 0, vF 0, vF 0, vF 0]) rfl Try.isAgg31 Try.sizeOf31 r1.rng rfl rfl rfl) rfl rfl rfl ?_
  refine WL.det (op_move rfl) rfl rfl rfl ?_
  refine WL.call (oc_call (vs := [.agg #[.slice none 0 0, vI 0, vI 0, vF 0, vF 0, vF 0, vF 0, vF 0, vI 0, vF 0, vF 0, vF 0, vF 0, vF 0, vF 0], vI ((k : Nat) : Int)]) (cap := []) rfl rfl rfl Try.call22 (c_heldString_nil (0 : Int) (0 : Int) 0 0 0 0 0 (0 : Int) 0 0 0 0 0 0 k (by omega) w1)) rfl rfl (ltb rfl) ?_
  rintro _ w2 ⟨rfl, m2⟩
  refine WL.det (op_assign rfl) rfl rfl rfl ?_
  refine WL.end ?_
  refine NE.code ?_
  refine CE.seq ?_
  refine CE.seq ?_
  refine CE.region ?_
  refine WL.det (op_move rfl) rfl rfl rfl ?_
  refine WL.det (op_lti_f rfl rfl (by omega)) rfl rfl rfl ?_
  refine WL.end ?_
  refine NE.code ?_
  refine CE.cond_f rfl rfl ?_
  refine CE.skip' ?_
  refine NE.code ?_
  refine CE.seq ?_
  refine CE.region ?_
  refine WL.det (op_fieldAddr (off' := 20) rfl Try.runUnderlying38 rfl rfl Try.sizeOf34 rfl) rfl rfl rfl ?_
  refine WL.det (op_loadA (i := 20) (cs := [.slice none 0 0, .slice none 0 0, .slice none 0 0, vI 0, vF 0, vF 0, vF 0, vF 0, vF 0, .bool false, vF 0, vF 0, vF 0]) rfl Try.isAgg34 Try.sizeOf34 (r1.ext m2).rng rfl rfl rfl) rfl rfl rfl ?_
  refine WL.det (op_move rfl) rfl rfl rfl ?_
  refine WL.call (oc_call (vs := [.agg #[.slice none 0 0, .slice none 0 0, .slice none 0 0, vI 0, vF 0, vF 0, vF 0, vF 0, vF 0, .bool false, vF 0, vF 0, vF 0], vI ((k : Nat) : Int)]) (cap := []) rfl rfl rfl Try.call23 (c_heldPipe_nil k (by omega) w2)) rfl rfl (ltb rfl) ?_
  rintro _ w3 ⟨rfl, m3⟩
  refine WL.det (op_assign rfl) rfl rfl rfl ?_
  refine WL.end ?_
  refine NE.code ?_
  refine CE.seq ?_
  refine CE.seq ?_
  refine CE.region ?_
  refine WL.det (op_move rfl) rfl rfl rfl ?_
  refine WL.det (op_lti_f rfl rfl (by omega)) rfl rfl rfl ?_
  refine WL.end ?_
  refine NE.code ?_
  refine CE.cond_f rfl rfl ?_
  refine CE.skip' ?_
  refine NE.code ?_
  refine CE.seq ?_
  refine CE.region ?_
  refine WL.det (op_fieldAddr (off' := 33) rfl Try.runUnderlying38 rfl rfl Try.sizeOf36 rfl) rfl rfl rfl ?_
  refine WL.det (op_loadA (i := 33) (cs := [.slice none 0 0, vI 0, .slice none 0 0, vI 0, vI 0, vF 0, vF 0, vF 0, vF 0, vF 0, vF 0, vF 0]) rfl Try.isAgg36 Try.sizeOf36 ((r1.ext m2).ext m3).rng rfl rfl rfl) rfl rfl rfl ?_
  refine WL.det (op_move rfl) rfl rfl rfl ?_
  refine WL.call (oc_call (vs := [.agg #[.slice none 0 0, vI 0, .slice none 0 0, vI 0, vI 0, vF 0, vF 0, vF 0, vF 0, vF 0, vF 0, vF 0], vI ((k : Nat) : Int)]) (cap := []) rfl rfl rfl Try.call24 (c_heldBow_nil (0 : Int) (0 : Int) (0 : Int) 0 0 0 0 0 0 0 k (by omega) w3)) rfl rfl (ltb rfl) ?_
  rintro _ w4 ⟨rfl, m4⟩
  refine WL.det (op_assign rfl) rfl rfl rfl ?_
  refine WL.end ?_
  refine NE.code ?_
  refine CE.seq ?_
  refine CE.seq ?_
  refine CE.region ?_
  refine WL.det (op_move rfl) rfl rfl rfl ?_
  refine WL.det (op_lti_f rfl rfl (by omega)) rfl rfl rfl ?_
  refine WL.end ?_
  refine NE.code ?_
  refine CE.cond_f rfl rfl ?_
  refine CE.skip' ?_
  refine NE.code ?_
  refine CE.seq ?_
  refine CE.region ?_
  refine WL.det (op_move rfl) rfl rfl rfl ?_
  refine WL.det (op_assign rfl) rfl rfl rfl ?_
  refine WL.end ?_
  refine NE.code ?_
  refine CE.ret' ?_
  refine XE.leave1 Try.results9 rfl ?_
  refine ⟨rfl, (((((Mod.refl [] w).nt m1).nt m2).nt m3).nt m4)⟩

set_option maxRecDepth 100000 in
set_option maxHeartbeats 2000000 in
theorem c_sFree (w : World) : Cl Try.prog 5 #[] w fun v w' => v = .agg #[vI (-1), vI 0, vI 0, .bool false, vF 0, .slice none 0 0, vI 0, vI 0, vF 0, vF 0, vF 0, vF 0, vF 0, vI 0, vF 0, vF 0, vF 0, vF 0, vF 0, vF 0, .slice none 0 0, .slice none 0 0, .slice none 0 0, vI 0, vF 0, vF 0, vF 0, vF 0, vF 0, .bool false, vF 0, vF 0, vF 0, .slice none 0 0, vI 0, .slice none 0 0, vI 0, vI 0, vF 0, vF 0, vF 0, vF 0, vF 0, vF 0, vF 0] ∧ Mod [] w w' := by
  refine Cl.of Try.func5 Try.ntmps5 rfl rfl (ρ := []) rfl ?_
  refine CE.seq ?_
  refine CE.region ?_
  refine WL.op (op_alloc (cs := [vI 0, vI 0, vI 0, .bool false, vF 0, .slice none 0 0, vI 0, vI 0, vF 0, vF 0, vF 0, vF 0, vF 0, vI 0, vF 0, vF 0, vF 0, vF 0, vF 0, vF 0, .slice none 0 0, .slice none 0 0, .slice none 0 0, vI 0, vF 0, vF 0, vF 0, vF 0, vF 0, .bool false, vF 0, vF 0, vF 0, .slice none 0 0, vI 0, .slice none 0 0, vI 0, vI 0, vF 0, vF 0, vF 0, vF 0, vF 0, vF 0, vF 0]) Try.zeroValue38 rfl) rfl rfl (ltb rfl) ?_
  rintro _ w1 ⟨rfl, r1, m1, z1⟩
  refine WL.end ?_
  refine NE.code ?_
  refine CE.seq ?_
  refine CE.region ?_
  refine WL.det (op_build (qs := [(0, vI (-1))]) (cells := #[vI (-1), vI 0, vI 0, .bool false, vF 0, .slice none 0 0, vI 0, vI 0, vF 0, vF 0, vF 0, vF 0, vF 0, vI 0, vF 0, vF 0, vF 0, vF 0, vF 0, vF 0, .slice none 0 0, .slice none 0 0, .slice none 0 0, vI 0, vF 0, vF 0, vF 0, vF 0, vF 0, .bool false, vF 0, vF 0, vF 0, .slice none 0 0, vI 0, .slice none 0 0, vI 0, vI 0, vF 0, vF 0, vF 0, vF 0, vF 0, vF 0, vF 0]) rfl (by kernel_rfl)) rfl rfl rfl ?_
  refine WL.op0 (op_store (i := 0) (cs := [vI (-1), vI 0, vI 0, .bool false, vF 0, .slice none 0 0, vI 0, vI 0, vF 0, vF 0, vF 0, vF 0, vF 0, vI 0, vF 0, vF 0, vF 0, vF 0, vF 0, vF 0, .slice none 0 0, .slice none 0 0, .slice none 0 0, vI 0, vF 0, vF 0, vF 0, vF 0, vF 0, .bool false, vF 0, vF 0, vF 0, .slice none 0 0, vI 0, .slice none 0 0, vI 0, vI 0, vF 0, vF 0, vF 0, vF 0, vF 0, vF 0, vF 0]) rfl rfl rfl Try.sizeOf38 rfl r1 rfl (lB rfl) rfl) rfl rfl ?_
  rintro _ w2 ⟨r2, m2, z2⟩
  have r3 : Row w2 w.heap.size 0 [vI (-1), vI 0, vI 0, .bool false, vF 0, .slice none 0 0, vI 0, vI 0, vF 0, vF 0, vF 0, vF 0, vF 0, vI 0, vF 0, vF 0, vF 0, vF 0, vF 0, vF 0, .slice none 0 0, .slice none 0 0, .slice none 0 0, vI 0, vF 0, vF 0, vF 0, vF 0, vF 0, .bool false, vF 0, vF 0, vF 0, .slice none 0 0, vI 0, .slice none 0 0, vI 0, vI 0, vF 0, vF 0, vF 0, vF 0, vF 0, vF 0, vF 0] := Row.congr r2 rfl
  refine WL.end ?_
  refine NE.code ?_
  refine CE.ret' ?_
  refine XE.leaveC Try.results5 (res_agg (cs := [vI (-1), vI 0, vI 0, .bool false, vF 0, .slice none 0 0, vI 0, vI 0, vF 0, vF 0, vF 0, vF 0, vF 0, vI 0, vF 0, vF 0, vF 0, vF 0, vF 0, vF 0, .slice none 0 0, .slice none 0 0, .slice none 0 0, vI 0, vF 0, vF 0, vF 0, vF 0, vF 0, .bool false, vF 0, vF 0, vF 0, .slice none 0 0, vI 0, .slice none 0 0, vI 0, vI 0, vF 0, vF 0, vF 0, vF 0, vF 0, vF 0, vF 0]) rfl Try.isAgg38 Try.sizeOf38 r3.rng rfl res_nil) ?_
  refine ⟨rfl, (((Mod.refl [] w).nt m1).then m2 ((aC (.inr lR) aN)))⟩

set_option maxRecDepth 100000 in
set_option maxHeartbeats 2000000 in
theorem c_iFree (w : World) : Cl Try.prog 6 #[] w fun v w' => v = .agg #[vI (-1), vI 0, vI 0, .bool false, vF 0, .slice none 0 0, vI 0, vI 0, vF 0, vF 0, vF 0, vF 0, vF 0, vI 0, vF 0, vF 0, vF 0, vF 0, vF 0, vF 0, .slice none 0 0, .slice none 0 0, .slice none 0 0, vI 0, vF 0, vF 0, vF 0, vF 0, vF 0, .bool false, vF 0, vF 0, vF 0, .slice none 0 0, vI 0, .slice none 0 0, vI 0, vI 0, vF 0, vF 0, vF 0, vF 0, vF 0, vF 0, vF 0] ∧ Mod [] w w' := by
  refine Cl.of Try.func6 Try.ntmps6 rfl rfl (ρ := []) rfl ?_
  refine CE.seq ?_
  refine CE.region ?_
  refine WL.op (op_alloc (cs := [vI 0, vI 0, vI 0, .bool false, vF 0, .slice none 0 0, vI 0, vI 0, vF 0, vF 0, vF 0, vF 0, vF 0, vI 0, vF 0, vF 0, vF 0, vF 0, vF 0, vF 0, .slice none 0 0, .slice none 0 0, .slice none 0 0, vI 0, vF 0, vF 0, vF 0, vF 0, vF 0, .bool false, vF 0, vF 0, vF 0, .slice none 0 0, vI 0, .slice none 0 0, vI 0, vI 0, vF 0, vF 0, vF 0, vF 0, vF 0, vF 0, vF 0]) Try.zeroValue38 rfl) rfl rfl (ltb rfl) ?_
  rintro _ w1 ⟨rfl, r1, m1, z1⟩
  refine WL.end ?_
  refine NE.code ?_
  refine CE.seq ?_
  refine CE.region ?_
  refine WL.det (op_build (qs := [(0, vI (-1))]) (cells := #[vI (-1), vI 0, vI 0, .bool false, vF 0, .slice none 0 0, vI 0, vI 0, vF 0, vF 0, vF 0, vF 0, vF 0, vI 0, vF 0, vF 0, vF 0, vF 0, vF 0, vF 0, .slice none 0 0, .slice none 0 0, .slice none 0 0, vI 0, vF 0, vF 0, vF 0, vF 0, vF 0, .bool false, vF 0, vF 0, vF 0, .slice none 0 0, vI 0, .slice none 0 0, vI 0, vI 0, vF 0, vF 0, vF 0, vF 0, vF 0, vF 0, vF 0]) rfl (by kernel_rfl)) rfl rfl rfl ?_
  refine WL.op0 (op_store (i := 0) (cs := [vI (-1), vI 0, vI 0, .bool false, vF 0, .slice none 0 0, vI 0, vI 0, vF 0, vF 0, vF 0, vF 0, vF 0, vI 0, vF 0, vF 0, vF 0, vF 0, vF 0, vF 0, .slice none 0 0, .slice none 0 0, .slice none 0 0, vI 0, vF 0, vF 0, vF 0, vF 0, vF 0, .bool false, vF 0, vF 0, vF 0, .slice none 0 0, vI 0, .slice none 0 0, vI 0, vI 0, vF 0, vF 0, vF 0, vF 0, vF 0, vF 0, vF 0]) rfl rfl rfl Try.sizeOf38 rfl r1 rfl (lB rfl) rfl) rfl rfl ?_
  rintro _ w2 ⟨r2, m2, z2⟩
  have r3 : Row w2 w.heap.size 0 [vI (-1), vI 0, vI 0, .bool false, vF 0, .slice none 0 0, vI 0, vI 0, vF 0, vF 0, vF 0, vF 0, vF 0, vI 0, vF 0, vF 0, vF 0, vF 0, vF 0, vF 0, .slice none 0 0, .slice none 0 0, .slice none 0 0, vI 0, vF 0, vF 0, vF 0, vF 0, vF 0, .bool false, vF 0, vF 0, vF 0, .slice none 0 0, vI 0, .slice none 0 0, vI 0, vI 0, vF 0, vF 0, vF 0, vF 0, vF 0, vF 0, vF 0] := Row.congr r2 rfl
  refine WL.end ?_
  refine NE.code ?_
  refine CE.ret' ?_
  refine XE.leaveC Try.results6 (res_agg (cs := [vI (-1), vI 0, vI 0, .bool false, vF 0, .slice none 0 0, vI 0, vI 0, vF 0, vF 0, vF 0, vF 0, vF 0, vI 0, vF 0, vF 0, vF 0, vF 0, vF 0, vF 0, .slice none 0 0, .slice none 0 0, .slice none 0 0, vI 0, vF 0, vF 0, vF 0, vF 0, vF 0, .bool false, vF 0, vF 0, vF 0, .slice none 0 0, vI 0, .slice none 0 0, vI 0, vI 0, vF 0, vF 0, vF 0, vF 0, vF 0, vF 0, vF 0]) rfl Try.isAgg38 Try.sizeOf38 r3.rng rfl res_nil) ?_
  refine ⟨rfl, (((Mod.refl [] w).nt m1).then m2 ((aC (.inr lR) aN)))⟩

end Go.Proofs.Ytdopidalhkcefaa
