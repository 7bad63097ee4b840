/- The law on plucking a string, walked. -/
import Derived.Test.YtabfdgpldcegiaaG6
import Derived.Test.YtabfdgpldcegiaaE8
set_option linter.unusedVariables false
set_option linter.unusedSimpArgs false
namespace Go.Proofs.Ytabfdgpldcegiaa

set_option maxRecDepth 100000 in
set_option maxHeartbeats 2000000 in
theorem law_pluck_inf (nLr : Nat) (cLr : Nat) (ALr : Option Addr) (bLr : Nat) (oLr : Nat) (xLr : List Nat) (Lj : Int) (Tk : Int) (Tc0 : Nat) (Tc1 : Nat) (Tc2 : Nat) (Ts0 : Nat) (Ts1 : Nat) (Dk : Int) (Dc0 : Nat) (Dc1 : Nat) (Dc2 : Nat) (Ds0 : Nat) (Ds1 : Nat) (g : Nat) (pl : Nat) (fo : Nat) (lnLr : xLr.length = nLr) (hALr : 0 < nLr → ALr = some ⟨bLr, oLr, none⟩) (wLr : W32 xLr) (hn : nLr ≤ 1024) (lTs0 : Ts0 < wid .f32) (lTs1 : Ts1 < wid .f32) (lDs0 : Ds0 < wid .f32) (lDs1 : Ds1 < wid .f32) (hv : vStr nLr Lj Tk Tc0 Tc1 Tc2 Ts0 Ts1 Dk Dc0 Dc1 Dc2 Ds0 Ds1 g = true) (hp : placeF pl = true) (hf : finF fo = false) (lpl : pl < wid .f32) (lfo : fo < wid .f32) (w : World) (rLr : Rng w bLr oLr (fl xLr)) : Cl Try.prog 5 #[.agg #[.slice ALr nLr cLr, vI Lj, vI Tk, vF Tc0, vF Tc1, vF Tc2, vF Ts0, vF Ts1, vI Dk, vF Dc0, vF Dc1, vF Dc2, vF Ds0, vF Ds1, vF g], vF pl, vF fo] w fun v w' => v = .bool true ∧ Mod [] w w' := by
  refine Cl.of Try.func5 Try.ntmps5 rfl rfl (ρ := [(0, .agg #[.slice ALr nLr cLr, vI Lj, vI Tk, vF Tc0, vF Tc1, vF Tc2, vF Ts0, vF Ts1, vI Dk, vF Dc0, vF Dc1, vF Dc2, vF Ds0, vF Ds1, vF g]), (1, vF pl), (2, vF fo)]) rfl ?_
  refine CE.seq ?_
  refine CE.region ?_
  refine WL.op (op_box (cs := [.slice ALr nLr cLr, vI Lj, vI Tk, vF Tc0, vF Tc1, vF Tc2, vF Ts0, vF Ts1, vI Dk, vF Dc0, vF Dc1, vF Dc2, vF Ds0, vF Ds1, vF g]) rfl rfl) rfl rfl (ltb rfl) ?_
  rintro _ w1 ⟨rfl, r1, m1, z1⟩
  refine WL.det (op_assign rfl) rfl rfl rfl ?_
  refine WL.end ?_
  refine NE.code ?_
  refine CE.seq ?_
  refine CE.region ?_
  refine WL.det (op_assign rfl) rfl rfl rfl ?_
  refine WL.end ?_
  refine NE.code ?_
  refine CE.seq ?_
  refine CE.region ?_
  refine WL.det (op_loadA (i := 0) (cs := [.slice ALr nLr cLr, vI Lj, vI Tk, vF Tc0, vF Tc1, vF Tc2, vF Ts0, vF Ts1, vI Dk, vF Dc0, vF Dc1, vF Dc2, vF Ds0, vF Ds1, vF g]) rfl Try.isAgg51 Try.sizeOf51 r1.rng rfl rfl rfl) rfl rfl rfl ?_
  refine WL.det (op_move rfl) rfl rfl rfl ?_
  refine WL.call (oc_call (vs := [.agg #[.slice ALr nLr cLr, vI Lj, vI Tk, vF Tc0, vF Tc1, vF Tc2, vF Ts0, vF Ts1, vI Dk, vF Dc0, vF Dc1, vF Dc2, vF Ds0, vF Ds1, vF g], vI 1048576]) (cap := []) rfl rfl rfl Try.call25 (c_szString 1048576 nLr cLr ALr Lj Tk Tc0 Tc1 Tc2 Ts0 Ts1 Dk Dc0 Dc1 Dc2 Ds0 Ds1 g (by omega) (by omega) w1)) rfl rfl (ltb rfl) ?_
  rintro _ w2 ⟨rfl, m2⟩
  refine WL.det (op_assign rfl) rfl rfl rfl ?_
  refine WL.end ?_
  refine NE.code ?_
  refine CE.seq ?_
  refine CE.seq ?_
  refine CE.region ?_
  refine WL.det (op_move rfl) rfl rfl rfl ?_
  refine WL.det (op_lti_f rfl rfl (by omega)) rfl rfl rfl ?_
  refine WL.end ?_
  refine NE.code ?_
  refine CE.cond_f rfl rfl ?_
  refine CE.skip' ?_
  refine NE.code ?_
  refine CE.seq ?_
  refine CE.region ?_
  refine WL.det (op_loadA (i := 0) (cs := [.slice ALr nLr cLr, vI Lj, vI Tk, vF Tc0, vF Tc1, vF Tc2, vF Ts0, vF Ts1, vI Dk, vF Dc0, vF Dc1, vF Dc2, vF Ds0, vF Ds1, vF g]) rfl Try.isAgg51 Try.sizeOf51 (r1.ext m2).rng rfl rfl rfl) rfl rfl rfl ?_
  refine WL.call (oc_call (vs := [.agg #[.slice ALr nLr cLr, vI Lj, vI Tk, vF Tc0, vF Tc1, vF Tc2, vF Ts0, vF Ts1, vI Dk, vF Dc0, vF Dc1, vF Dc2, vF Ds0, vF Ds1, vF g]]) (cap := []) rfl rfl rfl Try.call26 (c_toString nLr cLr ALr bLr oLr xLr Lj Tk Tc0 Tc1 Tc2 Ts0 Ts1 Dk Dc0 Dc1 Dc2 Ds0 Ds1 g lnLr hALr (by omega) w2 ((rLr.ext m1).ext m2))) rfl rfl (ltb rfl) ?_
  rintro _ w3 ⟨bLr'1, rfl, r2, ge1, m3⟩
  refine WL.det (op_move rfl) rfl rfl rfl ?_
  refine WL.det (op_move rfl) rfl rfl rfl ?_
  refine WL.call (oc_call (vs := [.agg #[vS bLr'1 0 nLr nLr, vI Lj, vI Tk, vF Tc0, vF Tc1, vF Tc2, vF Ts0, vF Ts1, vI Dk, vF Dc0, vF Dc1, vF Dc2, vF Ds0, vF Ds1, vF g], vF pl, vF fo]) (cap := []) rfl rfl rfl Try.call30 (c_sPluck_inf nLr nLr bLr'1 xLr Lj Tk Tc0 Tc1 Tc2 Ts0 Ts1 Dk Dc0 Dc1 Dc2 Ds0 Ds1 g pl fo lnLr (by omega) (by first | assumption | exact W32.get (by assumption) _ | decide +kernel) (by first | assumption | exact W32.get (by assumption) _ | decide +kernel) (by first | assumption | exact W32.get (by assumption) _ | decide +kernel) (by first | assumption | exact W32.get (by assumption) _ | decide +kernel) lpl lfo (by assumption) (by assumption) (by assumption) w3 r2.rng)) rfl rfl (ltb rfl) ?_
  rintro _ w4 ⟨rfl, m4⟩
  refine WL.det (op_move rfl) rfl rfl rfl ?_
  refine WL.det (op_extract rfl rfl) rfl rfl rfl ?_
  refine WL.det (op_extract rfl rfl) rfl rfl rfl ?_
  refine WL.op (op_alloc (cs := [.slice none 0 0, vI 0, vI 0, vF 0, vF 0, vF 0, vF 0, vF 0, vI 0, vF 0, vF 0, vF 0, vF 0, vF 0, vF 0]) Try.zeroValue33 rfl) rfl rfl (ltb rfl) ?_
  rintro _ w5 ⟨rfl, r3, m5, z2⟩
  refine WL.op0 (op_store (i := 0) (cs := [.slice none 0 0, vI 0, vI 0, vF 0, vF 0, vF 0, vF 0, vF 0, vI 0, vF 0, vF 0, vF 0, vF 0, vF 0, vF 0]) rfl rfl rfl Try.sizeOf33 rfl r3 rfl (lB rfl) rfl) rfl rfl ?_
  rintro _ w6 ⟨r4, m6, z3⟩
  have r5 : Row w6 w4.heap.size 0 [.slice none 0 0, vI 0, vI 0, vF 0, vF 0, vF 0, vF 0, vF 0, vI 0, vF 0, vF 0, vF 0, vF 0, vF 0, vF 0] := Row.congr r4 rfl
  refine WL.det (op_assign rfl) rfl rfl rfl ?_
  refine WL.end ?_
  refine NE.code ?_
  refine CE.seq ?_
  refine CE.region ?_
  refine WL.det (op_loadA (i := 0) (cs := [.slice ALr nLr cLr, vI Lj, vI Tk, vF Tc0, vF Tc1, vF Tc2, vF Ts0, vF Ts1, vI Dk, vF Dc0, vF Dc1, vF Dc2, vF Ds0, vF Ds1, vF g]) rfl Try.isAgg51 Try.sizeOf51 (((((r1.ext m2).ext m3).ext m4).ext m5).mod m6 (nC (lE (lL (lL r1.lt (lT (lT m2.size m3.size) m4.size)) lR)) nN)).rng rfl rfl rfl) rfl rfl rfl ?_
  refine WL.call (oc_call (vs := [.agg #[.slice ALr nLr cLr, vI Lj, vI Tk, vF Tc0, vF Tc1, vF Tc2, vF Ts0, vF Ts1, vI Dk, vF Dc0, vF Dc1, vF Dc2, vF Ds0, vF Ds1, vF g]]) (cap := []) rfl rfl rfl Try.call26 (c_toString nLr cLr ALr bLr oLr xLr Lj Tk Tc0 Tc1 Tc2 Ts0 Ts1 Dk Dc0 Dc1 Dc2 Ds0 Ds1 g lnLr hALr (by omega) w6 (Rng.youngS rLr (((((rLr.ext m1).ext m2).ext m3).ext m4).ext m5) m6 (allge_cons (lT (lT (lT (lT m1.size m2.size) m3.size) m4.size) lR) allge_nil)))) rfl rfl (ltb rfl) ?_
  rintro _ w7 ⟨bLr'2, rfl, r6, ge2, m7⟩
  refine WL.op (op_alloc (cs := [.slice none 0 0, vI 0, vI 0, vF 0, vF 0, vF 0, vF 0, vF 0, vI 0, vF 0, vF 0, vF 0, vF 0, vF 0, vF 0]) Try.zeroValue33 rfl) rfl rfl (ltb rfl) ?_
  rintro _ w8 ⟨rfl, r7, m8, z4⟩
  refine WL.op0 (op_store (i := 0) (cs := [vS bLr'2 0 nLr nLr, vI Lj, vI Tk, vF Tc0, vF Tc1, vF Tc2, vF Ts0, vF Ts1, vI Dk, vF Dc0, vF Dc1, vF Dc2, vF Ds0, vF Ds1, vF g]) rfl rfl rfl Try.sizeOf33 rfl r7 rfl (lB rfl) rfl) rfl rfl ?_
  rintro _ w9 ⟨r8, m9, z5⟩
  have r9 : Row w9 w7.heap.size 0 [vS bLr'2 0 nLr nLr, vI Lj, vI Tk, vF Tc0, vF Tc1, vF Tc2, vF Ts0, vF Ts1, vI Dk, vF Dc0, vF Dc1, vF Dc2, vF Ds0, vF Ds1, vF g] := Row.congr r8 rfl
  refine WL.end ?_
  refine NE.code ?_
  refine CE.seq ?_
  refine CE.region ?_
  refine WL.det (op_loadA (i := 0) (cs := [vS bLr'2 0 nLr nLr, vI Lj, vI Tk, vF Tc0, vF Tc1, vF Tc2, vF Ts0, vF Ts1, vI Dk, vF Dc0, vF Dc1, vF Dc2, vF Ds0, vF Ds1, vF g]) rfl Try.isAgg33 Try.sizeOf33 r9.rng rfl rfl rfl) rfl rfl rfl ?_
  refine WL.det (op_move rfl) rfl rfl rfl ?_
  refine WL.det (op_move rfl) rfl rfl rfl ?_
  refine WL.call (oc_call (vs := [.agg #[vS bLr'2 0 nLr nLr, vI Lj, vI Tk, vF Tc0, vF Tc1, vF Tc2, vF Ts0, vF Ts1, vI Dk, vF Dc0, vF Dc1, vF Dc2, vF Ds0, vF Ds1, vF g], vF pl, vF fo]) (cap := []) rfl rfl rfl Try.call31 (c_iPluck_inf nLr nLr bLr'2 xLr Lj Tk Tc0 Tc1 Tc2 Ts0 Ts1 Dk Dc0 Dc1 Dc2 Ds0 Ds1 g pl fo lnLr (by omega) (by first | assumption | exact W32.get (by assumption) _ | decide +kernel) (by first | assumption | exact W32.get (by assumption) _ | decide +kernel) (by first | assumption | exact W32.get (by assumption) _ | decide +kernel) (by first | assumption | exact W32.get (by assumption) _ | decide +kernel) lpl lfo (by assumption) (by assumption) (by assumption) w9 ((r6.ext m8).mod m9 (nC (lE (lL r6.lt lR)) nN)).rng)) rfl rfl (ltb rfl) ?_
  rintro _ w10 ⟨rfl, m10⟩
  refine WL.det (op_move rfl) rfl rfl rfl ?_
  refine WL.det (op_extract rfl rfl) rfl rfl rfl ?_
  refine WL.det (op_extract rfl rfl) rfl rfl rfl ?_
  refine WL.op (op_alloc (cs := [.slice none 0 0, vI 0, vI 0, vF 0, vF 0, vF 0, vF 0, vF 0, vI 0, vF 0, vF 0, vF 0, vF 0, vF 0, vF 0]) Try.zeroValue33 rfl) rfl rfl (ltb rfl) ?_
  rintro _ w11 ⟨rfl, r10, m11, z6⟩
  refine WL.op0 (op_store (i := 0) (cs := [.slice none 0 0, vI 0, vI 0, vF 0, vF 0, vF 0, vF 0, vF 0, vI 0, vF 0, vF 0, vF 0, vF 0, vF 0, vF 0]) rfl rfl rfl Try.sizeOf33 rfl r10 rfl (lB rfl) rfl) rfl rfl ?_
  rintro _ w12 ⟨r11, m12, z7⟩
  have r12 : Row w12 w10.heap.size 0 [.slice none 0 0, vI 0, vI 0, vF 0, vF 0, vF 0, vF 0, vF 0, vI 0, vF 0, vF 0, vF 0, vF 0, vF 0, vF 0] := Row.congr r11 rfl
  refine WL.det (op_assign rfl) rfl rfl rfl ?_
  refine WL.end ?_
  refine NE.code ?_
  refine CE.seq ?_
  refine CE.seq ?_
  refine CE.region ?_
  refine WL.det (op_loadA (i := 0) (cs := [.slice none 0 0, vI 0, vI 0, vF 0, vF 0, vF 0, vF 0, vF 0, vI 0, vF 0, vF 0, vF 0, vF 0, vF 0, vF 0]) rfl Try.isAgg33 Try.sizeOf33 r12.rng rfl rfl rfl) rfl rfl rfl ?_
  refine WL.det (op_loadA (i := 0) (cs := [.slice none 0 0, vI 0, vI 0, vF 0, vF 0, vF 0, vF 0, vF 0, vI 0, vF 0, vF 0, vF 0, vF 0, vF 0, vF 0]) rfl Try.isAgg33 Try.sizeOf33 ((((((r5.ext m7).ext m8).mod m9 (nC (lE (lL (lL r3.lt (lT m6.size m7.size)) lR)) nN)).ext m10).ext m11).mod m12 (nC (lE (lL (lL r3.lt (lT (lT (lT (lT m6.size m7.size) m8.size) m9.size) m10.size)) lR)) nN)).rng rfl rfl rfl) rfl rfl rfl ?_
  refine WL.call (oc_call (vs := [.agg #[.slice none 0 0, vI 0, vI 0, vF 0, vF 0, vF 0, vF 0, vF 0, vI 0, vF 0, vF 0, vF 0, vF 0, vF 0, vF 0], .agg #[.slice none 0 0, vI 0, vI 0, vF 0, vF 0, vF 0, vF 0, vF 0, vI 0, vF 0, vF 0, vF 0, vF 0, vF 0, vF 0]]) (cap := []) rfl rfl rfl Try.call27 (c_eqString 0 0 none 0 0 [] (0 : Int) (0 : Int) 0 0 0 0 0 0 0 0 0 0 (0 : Int) 0 0 0 0 0 0 0 0 0 0 0 0 0 none 0 0 0 0 0 0 0 0 0 0 0 0 0 rfl (fun h => absurd h (Nat.lt_irrefl _)) (fun h => absurd h (Nat.lt_irrefl _)) rfl rfl rfl rfl rfl rfl rfl rfl rfl rfl rfl rfl rfl rfl rfl rfl rfl rfl rfl rfl rfl rfl (by omega) w12 (Rng.nil _ _ _) (Rng.nil _ _ _))) rfl rfl (ltb rfl) ?_
  rintro _ w13 ⟨rfl, m13⟩
  refine WL.det (op_not rfl) rfl rfl rfl ?_
  refine WL.det (op_move rfl) rfl rfl rfl ?_
  refine WL.yes rfl rfl rfl (ltb rfl) rfl rfl ?_
  refine WL.det (op_move rfl) rfl rfl rfl ?_
  refine WL.yes rfl rfl rfl (ltb rfl) rfl rfl ?_
  refine WL.det (op_move rfl) rfl rfl rfl ?_
  refine WL.yes rfl rfl rfl (ltb rfl) rfl rfl ?_
  refine WL.det (op_nei rfl rfl) rfl rfl rfl ?_
  refine WL.det (op_pick_f rfl rfl rfl) rfl rfl rfl ?_
  refine WL.end ?_
  refine NE.code ?_
  refine CE.cond_f rfl rfl ?_
  refine CE.skip' ?_
  refine NE.code ?_
  refine CE.seq ?_
  refine CE.seq ?_
  refine CE.draw (fun | 2 => some (fun _ wA uA wB => ∃ (bLr' : Nat), uA = .agg #[vS bLr' 0 nLr nLr, vI Lj, vI Tk, vF Tc0, vF Tc1, vF Tc2, vF Ts0, vF Ts1, vI Dk, vF Dc0, vF Dc1, vF Dc2, vF Ds0, vF Ds1, vF g] ∧ Row wB bLr' 0 (fl xLr) ∧ wA.heap.size ≤ bLr' ∧ Mod [] wA wB) | _ => none) [0, 1, 2] [3, 4] [] (by kernel_rfl) (by kernel_rfl) ?_
  have md1 : Mod [] w13 w13.drew := (Mod.refl _ _).drew
  generalize w13.drew = w14 at md1 ⊢
  refine DR.det (i := 0) rfl rfl (by kernel_rfl) (.free rfl) rfl rfl (fun wD mD => op_loadA (i := 0) (cs := [vS bLr'2 0 nLr nLr, vI Lj, vI Tk, vF Tc0, vF Tc1, vF Tc2, vF Ts0, vF Ts1, vI Dk, vF Dc0, vF Dc1, vF Dc2, vF Ds0, vF Ds1, vF g]) rfl Try.isAgg33 Try.sizeOf33 ((((((r9.ext m10).ext m11).mod m12 (nC (lE (lL (lL r7.lt (lT m9.size m10.size)) lR)) nN)).ext m13).ext md1).ext mD).rng rfl rfl rfl) ?_
  refine DR.det (i := 1) rfl rfl (by kernel_rfl) (.free rfl) rfl rfl (fun wD mD => op_loadA (i := 0) (cs := [.slice ALr nLr cLr, vI Lj, vI Tk, vF Tc0, vF Tc1, vF Tc2, vF Ts0, vF Ts1, vI Dk, vF Dc0, vF Dc1, vF Dc2, vF Ds0, vF Ds1, vF g]) rfl Try.isAgg51 Try.sizeOf51 ((((((((((((((r1.ext m2).ext m3).ext m4).ext m5).mod m6 (nC (lE (lL (lL r1.lt (lT (lT m2.size m3.size) m4.size)) lR)) nN)).ext m7).ext m8).mod m9 (nC (lE (lL (lL r1.lt (lT (lT (lT (lT (lT m2.size m3.size) m4.size) m5.size) m6.size) m7.size)) lR)) nN)).ext m10).ext m11).mod m12 (nC (lE (lL (lL r1.lt (lT (lT (lT (lT (lT (lT (lT (lT m2.size m3.size) m4.size) m5.size) m6.size) m7.size) m8.size) m9.size) m10.size)) lR)) nN)).ext m13).ext md1).ext mD).rng rfl rfl rfl) ?_
  refine DR.one (i := 2) rfl rfl (by kernel_rfl) (.free rfl) rfl (ltb rfl) (vs := [.func (.func 26) #[] #[], .agg #[.slice ALr nLr cLr, vI Lj, vI Tk, vF Tc0, vF Tc1, vF Tc2, vF Ts0, vF Ts1, vI Dk, vF Dc0, vF Dc1, vF Dc2, vF Ds0, vF Ds1, vF g]]) rfl ?_
  intro w15 m14
  refine ⟨oc_call (vs := [.agg #[.slice ALr nLr cLr, vI Lj, vI Tk, vF Tc0, vF Tc1, vF Tc2, vF Ts0, vF Ts1, vI Dk, vF Dc0, vF Dc1, vF Dc2, vF Ds0, vF Ds1, vF g]]) (cap := []) rfl rfl rfl Try.call26 (c_toString nLr cLr ALr bLr oLr xLr Lj Tk Tc0 Tc1 Tc2 Ts0 Ts1 Dk Dc0 Dc1 Dc2 Ds0 Ds1 g lnLr hALr (by omega) w15 ((((Rng.youngS rLr (((Rng.youngS rLr (((Rng.youngS rLr (((((rLr.ext m1).ext m2).ext m3).ext m4).ext m5) m6 (allge_cons (lT (lT (lT (lT m1.size m2.size) m3.size) m4.size) lR) allge_nil)).ext m7).ext m8) m9 (allge_cons (lT (lT (lT (lT (lT (lT (lT m1.size m2.size) m3.size) m4.size) m5.size) m6.size) m7.size) lR) allge_nil)).ext m10).ext m11) m12 (allge_cons (lT (lT (lT (lT (lT (lT (lT (lT (lT (lT m1.size m2.size) m3.size) m4.size) m5.size) m6.size) m7.size) m8.size) m9.size) m10.size) lR) allge_nil)).ext m13).ext md1).ext m14)), ?_⟩
  rintro _ w16 ⟨bLr'3, rfl, r13, ge3, m15⟩
  refine ⟨(((Mod.refl [] w14).nt m14).nt m15), ?_⟩
  refine DR.done rfl ?_
  intro w17 m16
  refine WO.call rfl (.free rfl) rfl (ltb rfl) (oc_call (vs := [.agg #[vS bLr'2 0 nLr nLr, vI Lj, vI Tk, vF Tc0, vF Tc1, vF Tc2, vF Ts0, vF Ts1, vI Dk, vF Dc0, vF Dc1, vF Dc2, vF Ds0, vF Ds1, vF g], .agg #[vS bLr'3 0 nLr nLr, vI Lj, vI Tk, vF Tc0, vF Tc1, vF Tc2, vF Ts0, vF Ts1, vI Dk, vF Dc0, vF Dc1, vF Dc2, vF Ds0, vF Ds1, vF g]]) (cap := []) rfl rfl rfl Try.call27 (c_eqString nLr nLr (some ⟨bLr'2, 0, none⟩) bLr'2 0 xLr Lj Tk Tc0 Tc0 Tc1 Tc1 Tc2 Tc2 Ts0 Ts0 Ts1 Ts1 Dk Dc0 Dc0 Dc1 Dc1 Dc2 Dc2 Ds0 Ds0 Ds1 Ds1 g g nLr (some ⟨bLr'3, 0, none⟩) bLr'3 0 Tc0 Tc1 Tc2 Ts0 Ts1 Dc0 Dc1 Dc2 Ds0 Ds1 g lnLr (fun _ => rfl) (fun _ => rfl) rfl rfl rfl rfl rfl rfl rfl rfl rfl rfl rfl rfl rfl rfl rfl rfl rfl rfl rfl rfl rfl rfl (by omega) w17 ((((((((((r6.ext m8).mod m9 (nC (lE (lL r6.lt lR)) nN)).ext m10).ext m11).mod m12 (nC (lE (lL (lL r6.lt (lT (lT m8.size m9.size) m10.size)) lR)) nN)).ext m13).ext md1).ext m14).ext m15).ext m16).rng (r13.ext m16).rng)) ?_
  rintro _ w18 ⟨rfl, m17⟩
  refine WO.det (op_not rfl) rfl (.free rfl) rfl rfl ?_
  refine WO.end ?_
  refine NE.code ?_
  refine CE.cond_f rfl rfl ?_
  refine CE.skip' ?_
  refine NE.code ?_
  refine CE.seq ?_
  refine CE.region ?_
  refine WL.det (op_assign rfl) rfl rfl rfl ?_
  refine WL.end ?_
  refine NE.code ?_
  refine CE.seq ?_
  refine CE.region ?_
  refine WL.det (op_loadA (i := 0) (cs := [vS bLr'2 0 nLr nLr, vI Lj, vI Tk, vF Tc0, vF Tc1, vF Tc2, vF Ts0, vF Ts1, vI Dk, vF Dc0, vF Dc1, vF Dc2, vF Ds0, vF Ds1, vF g]) rfl Try.isAgg33 Try.sizeOf33 (((((((((r9.ext m10).ext m11).mod m12 (nC (lE (lL (lL r7.lt (lT m9.size m10.size)) lR)) nN)).ext m13).ext md1).ext m14).ext m15).ext m16).ext m17).rng rfl rfl rfl) rfl rfl rfl ?_
  refine WL.det (op_move rfl) rfl rfl rfl ?_
  refine WL.call (oc_call (vs := [.agg #[vS bLr'2 0 nLr nLr, vI Lj, vI Tk, vF Tc0, vF Tc1, vF Tc2, vF Ts0, vF Ts1, vI Dk, vF Dc0, vF Dc1, vF Dc2, vF Ds0, vF Ds1, vF g], vI 1]) (cap := []) rfl rfl rfl Try.call28 (c_markString nLr nLr bLr'2 xLr Lj Tk Tc0 Tc1 Tc2 Ts0 Ts1 Dk Dc0 Dc1 Dc2 Ds0 Ds1 g 1 lnLr (by omega) (by omega) w18 (((((((((((r6.ext m8).mod m9 (nC (lE (lL r6.lt lR)) nN)).ext m10).ext m11).mod m12 (nC (lE (lL (lL r6.lt (lT (lT m8.size m9.size) m10.size)) lR)) nN)).ext m13).ext md1).ext m14).ext m15).ext m16).ext m17))) rfl rfl (ltb rfl) ?_
  rintro _ w19 ⟨rfl, r14, m18⟩
  refine WL.det (op_assign rfl) rfl rfl rfl ?_
  refine WL.end ?_
  refine NE.code ?_
  refine CE.seq ?_
  refine CE.seq ?_
  refine CE.region ?_
  refine WL.det (op_move rfl) rfl rfl rfl ?_
  refine WL.det (op_lti_f rfl rfl (by omega)) rfl rfl rfl ?_
  refine WL.det (op_move rfl) rfl rfl rfl ?_
  refine WL.yes rfl rfl rfl (ltb rfl) rfl rfl ?_
  refine WL.det (op_loadA (i := 0) (cs := [.slice none 0 0, vI 0, vI 0, vF 0, vF 0, vF 0, vF 0, vF 0, vI 0, vF 0, vF 0, vF 0, vF 0, vF 0, vF 0]) rfl Try.isAgg33 Try.sizeOf33 (((((((r12.ext m13).ext md1).ext m14).ext m15).ext m16).ext m17).mod m18 (nC (lG (lL (lL r6.lt (lT (lT m8.size m9.size) m10.size)) lR)) nN)).rng rfl rfl rfl) rfl rfl rfl ?_
  refine WL.yes rfl rfl rfl (ltb rfl) rfl rfl ?_
  refine WL.det (op_loadA (i := 0) (cs := [.slice none 0 0, vI 0, vI 0, vF 0, vF 0, vF 0, vF 0, vF 0, vI 0, vF 0, vF 0, vF 0, vF 0, vF 0, vF 0]) rfl Try.isAgg33 Try.sizeOf33 (((((((((((((r5.ext m7).ext m8).mod m9 (nC (lE (lL (lL r3.lt (lT m6.size m7.size)) lR)) nN)).ext m10).ext m11).mod m12 (nC (lE (lL (lL r3.lt (lT (lT (lT (lT m6.size m7.size) m8.size) m9.size) m10.size)) lR)) nN)).ext m13).ext md1).ext m14).ext m15).ext m16).ext m17).mod m18 (nC (lE (lL (lL r3.lt m6.size) ge2)) nN)).rng rfl rfl rfl) rfl rfl rfl ?_
  refine WL.yes rfl rfl rfl (ltb rfl) rfl rfl ?_
  refine WL.call (oc_call (vs := [.agg #[.slice none 0 0, vI 0, vI 0, vF 0, vF 0, vF 0, vF 0, vF 0, vI 0, vF 0, vF 0, vF 0, vF 0, vF 0, vF 0], .agg #[.slice none 0 0, vI 0, vI 0, vF 0, vF 0, vF 0, vF 0, vF 0, vI 0, vF 0, vF 0, vF 0, vF 0, vF 0, vF 0]]) (cap := []) rfl rfl rfl Try.call27 (c_eqString 0 0 none 0 0 [] (0 : Int) (0 : Int) 0 0 0 0 0 0 0 0 0 0 (0 : Int) 0 0 0 0 0 0 0 0 0 0 0 0 0 none 0 0 0 0 0 0 0 0 0 0 0 0 0 rfl (fun h => absurd h (Nat.lt_irrefl _)) (fun h => absurd h (Nat.lt_irrefl _)) rfl rfl rfl rfl rfl rfl rfl rfl rfl rfl rfl rfl rfl rfl rfl rfl rfl rfl rfl rfl rfl rfl (by omega) w19 (Rng.nil _ _ _) (Rng.nil _ _ _))) rfl rfl (ltb rfl) ?_
  rintro _ w20 ⟨rfl, m19⟩
  refine WL.yes rfl rfl rfl (ltb rfl) rfl rfl ?_
  refine WL.det (op_not rfl) rfl rfl rfl ?_
  refine WL.det (op_pick_f rfl rfl rfl) rfl rfl rfl ?_
  refine WL.det (op_move rfl) rfl rfl rfl ?_
  refine WL.yes rfl rfl rfl (ltb rfl) rfl rfl ?_
  refine WL.det (op_move rfl) rfl rfl rfl ?_
  refine WL.yes rfl rfl rfl (ltb rfl) rfl rfl ?_
  refine WL.det (op_move rfl) rfl rfl rfl ?_
  refine WL.yes rfl rfl rfl (ltb rfl) rfl rfl ?_
  refine WL.det (op_nei rfl rfl) rfl rfl rfl ?_
  refine WL.det (op_pick_f rfl rfl rfl) rfl rfl rfl ?_
  refine WL.end ?_
  refine NE.code ?_
  refine CE.cond_f rfl rfl ?_
  refine CE.skip' ?_
  refine NE.code ?_
  refine CE.seq ?_
  refine CE.region ?_
  refine WL.det (op_assign rfl) rfl rfl rfl ?_
  refine WL.end ?_
  refine NE.code ?_
  refine CE.seq ?_
  refine CE.region ?_
  refine WL.det (op_loadA (i := 0) (cs := [.slice none 0 0, vI 0, vI 0, vF 0, vF 0, vF 0, vF 0, vF 0, vI 0, vF 0, vF 0, vF 0, vF 0, vF 0, vF 0]) rfl Try.isAgg33 Try.sizeOf33 ((((((((r12.ext m13).ext md1).ext m14).ext m15).ext m16).ext m17).mod m18 (nC (lG (lL (lL r6.lt (lT (lT m8.size m9.size) m10.size)) lR)) nN)).ext m19).rng rfl rfl rfl) rfl rfl rfl ?_
  refine WL.det (op_move rfl) rfl rfl rfl ?_
  refine WL.call (oc_call (vs := [.agg #[.slice none 0 0, vI 0, vI 0, vF 0, vF 0, vF 0, vF 0, vF 0, vI 0, vF 0, vF 0, vF 0, vF 0, vF 0, vF 0], vI 1]) (cap := []) rfl rfl rfl Try.call28 (c_markString_nil (0 : Int) (0 : Int) 0 0 0 0 0 (0 : Int) 0 0 0 0 0 0 1 (by omega) w20)) rfl rfl (ltb rfl) ?_
  rintro _ w21 ⟨rfl, m20⟩
  refine WL.det (op_assign rfl) rfl rfl rfl ?_
  refine WL.end ?_
  refine NE.code ?_
  refine CE.seq ?_
  refine CE.region ?_
  refine WL.det (op_assign rfl) rfl rfl rfl ?_
  refine WL.end ?_
  refine NE.code ?_
  refine CE.seq ?_
  refine CE.region ?_
  refine WL.det (op_loadA (i := 0) (cs := [.slice none 0 0, vI 0, vI 0, vF 0, vF 0, vF 0, vF 0, vF 0, vI 0, vF 0, vF 0, vF 0, vF 0, vF 0, vF 0]) rfl Try.isAgg33 Try.sizeOf33 (((((((((r12.ext m13).ext md1).ext m14).ext m15).ext m16).ext m17).mod m18 (nC (lG (lL (lL r6.lt (lT (lT m8.size m9.size) m10.size)) lR)) nN)).ext m19).ext m20).rng rfl rfl rfl) rfl rfl rfl ?_
  refine WL.det (op_move rfl) rfl rfl rfl ?_
  refine WL.call (oc_call (vs := [.agg #[.slice none 0 0, vI 0, vI 0, vF 0, vF 0, vF 0, vF 0, vF 0, vI 0, vF 0, vF 0, vF 0, vF 0, vF 0, vF 0], vI 1]) (cap := []) rfl rfl rfl Try.call29 (c_heldString_nil (0 : Int) (0 : Int) 0 0 0 0 0 (0 : Int) 0 0 0 0 0 0 1 (by omega) w21)) rfl rfl (ltb rfl) ?_
  rintro _ w22 ⟨rfl, m21⟩
  refine WL.det (op_assign rfl) rfl rfl rfl ?_
  refine WL.end ?_
  refine NE.code ?_
  refine CE.seq ?_
  refine CE.seq ?_
  refine CE.region ?_
  refine WL.det (op_move rfl) rfl rfl rfl ?_
  refine WL.det (op_lti rfl rfl) rfl rfl rfl ?_
  refine WL.end ?_
  refine NE.code ?_
  refine CE.cond_f rfl rfl ?_
  refine CE.skip' ?_
  refine NE.code ?_
  refine CE.seq ?_
  refine CE.seq ?_
  refine CE.region ?_
  refine WL.det (op_move rfl) rfl rfl rfl ?_
  refine WL.det (op_move rfl) rfl rfl rfl ?_
  refine WL.det (op_nei rfl rfl) rfl rfl rfl ?_
  refine WL.end ?_
  refine NE.code ?_
  refine CE.cond_f rfl rfl ?_
  refine CE.skip' ?_
  refine NE.code ?_
  refine CE.seq ?_
  refine CE.region ?_
  refine WL.det (op_loadA (i := 0) (cs := [.slice ALr nLr cLr, vI Lj, vI Tk, vF Tc0, vF Tc1, vF Tc2, vF Ts0, vF Ts1, vI Dk, vF Dc0, vF Dc1, vF Dc2, vF Ds0, vF Ds1, vF g]) rfl Try.isAgg51 Try.sizeOf51 (((((((((((((((((((((r1.ext m2).ext m3).ext m4).ext m5).mod m6 (nC (lE (lL (lL r1.lt (lT (lT m2.size m3.size) m4.size)) lR)) nN)).ext m7).ext m8).mod m9 (nC (lE (lL (lL r1.lt (lT (lT (lT (lT (lT m2.size m3.size) m4.size) m5.size) m6.size) m7.size)) lR)) nN)).ext m10).ext m11).mod m12 (nC (lE (lL (lL r1.lt (lT (lT (lT (lT (lT (lT (lT (lT m2.size m3.size) m4.size) m5.size) m6.size) m7.size) m8.size) m9.size) m10.size)) lR)) nN)).ext m13).ext md1).ext m14).ext m15).ext m16).ext m17).mod m18 (nC (lE (lL (lL r1.lt (lT (lT (lT (lT m2.size m3.size) m4.size) m5.size) m6.size)) ge2)) nN)).ext m19).ext m20).ext m21).rng rfl rfl rfl) rfl rfl rfl ?_
  refine WL.call (oc_call (vs := [.agg #[.slice ALr nLr cLr, vI Lj, vI Tk, vF Tc0, vF Tc1, vF Tc2, vF Ts0, vF Ts1, vI Dk, vF Dc0, vF Dc1, vF Dc2, vF Ds0, vF Ds1, vF g]]) (cap := []) rfl rfl rfl Try.call26 (c_toString nLr cLr ALr bLr oLr xLr Lj Tk Tc0 Tc1 Tc2 Ts0 Ts1 Dk Dc0 Dc1 Dc2 Ds0 Ds1 g lnLr hALr (by omega) w22 ((((Rng.youngS rLr (((((((Rng.youngS rLr (((Rng.youngS rLr (((Rng.youngS rLr (((((rLr.ext m1).ext m2).ext m3).ext m4).ext m5) m6 (allge_cons (lT (lT (lT (lT m1.size m2.size) m3.size) m4.size) lR) allge_nil)).ext m7).ext m8) m9 (allge_cons (lT (lT (lT (lT (lT (lT (lT m1.size m2.size) m3.size) m4.size) m5.size) m6.size) m7.size) lR) allge_nil)).ext m10).ext m11) m12 (allge_cons (lT (lT (lT (lT (lT (lT (lT (lT (lT (lT m1.size m2.size) m3.size) m4.size) m5.size) m6.size) m7.size) m8.size) m9.size) m10.size) lR) allge_nil)).ext m13).ext md1).ext m14).ext m15).ext m16).ext m17) m18 (allge_cons (lT (lT (lT (lT (lT (lT m1.size m2.size) m3.size) m4.size) m5.size) m6.size) ge2) allge_nil)).ext m19).ext m20).ext m21))) rfl rfl (ltb rfl) ?_
  rintro _ w23 ⟨bLr'4, rfl, r15, ge4, m22⟩
  refine WL.det (op_move rfl) rfl rfl rfl ?_
  refine WL.det (op_move rfl) rfl rfl rfl ?_
  refine WL.call (oc_call (vs := [.agg #[vS bLr'4 0 nLr nLr, vI Lj, vI Tk, vF Tc0, vF Tc1, vF Tc2, vF Ts0, vF Ts1, vI Dk, vF Dc0, vF Dc1, vF Dc2, vF Ds0, vF Ds1, vF g], vF pl, vF fo]) (cap := []) rfl rfl rfl Try.call31 (c_iPluck_inf nLr nLr bLr'4 xLr Lj Tk Tc0 Tc1 Tc2 Ts0 Ts1 Dk Dc0 Dc1 Dc2 Ds0 Ds1 g pl fo lnLr (by omega) (by first | assumption | exact W32.get (by assumption) _ | decide +kernel) (by first | assumption | exact W32.get (by assumption) _ | decide +kernel) (by first | assumption | exact W32.get (by assumption) _ | decide +kernel) (by first | assumption | exact W32.get (by assumption) _ | decide +kernel) lpl lfo (by assumption) (by assumption) (by assumption) w23 r15.rng)) rfl rfl (ltb rfl) ?_
  rintro _ w24 ⟨rfl, m23⟩
  refine WL.det (op_move rfl) rfl rfl rfl ?_
  refine WL.det (op_extract rfl rfl) rfl rfl rfl ?_
  refine WL.det (op_extract rfl rfl) rfl rfl rfl ?_
  refine WL.op (op_alloc (cs := [.slice none 0 0, vI 0, vI 0, vF 0, vF 0, vF 0, vF 0, vF 0, vI 0, vF 0, vF 0, vF 0, vF 0, vF 0, vF 0]) Try.zeroValue33 rfl) rfl rfl (ltb rfl) ?_
  rintro _ w25 ⟨rfl, r16, m24, z8⟩
  refine WL.op0 (op_store (i := 0) (cs := [.slice none 0 0, vI 0, vI 0, vF 0, vF 0, vF 0, vF 0, vF 0, vI 0, vF 0, vF 0, vF 0, vF 0, vF 0, vF 0]) rfl rfl rfl Try.sizeOf33 rfl r16 rfl (lB rfl) rfl) rfl rfl ?_
  rintro _ w26 ⟨r17, m25, z9⟩
  have r18 : Row w26 w24.heap.size 0 [.slice none 0 0, vI 0, vI 0, vF 0, vF 0, vF 0, vF 0, vF 0, vI 0, vF 0, vF 0, vF 0, vF 0, vF 0, vF 0] := Row.congr r17 rfl
  refine WL.det (op_assign rfl) rfl rfl rfl ?_
  refine WL.end ?_
  refine NE.code ?_
  refine CE.seq ?_
  refine CE.seq ?_
  refine CE.region ?_
  refine WL.det (op_loadA (i := 0) (cs := [.slice none 0 0, vI 0, vI 0, vF 0, vF 0, vF 0, vF 0, vF 0, vI 0, vF 0, vF 0, vF 0, vF 0, vF 0, vF 0]) rfl Try.isAgg33 Try.sizeOf33 r18.rng rfl rfl rfl) rfl rfl rfl ?_
  refine WL.det (op_loadA (i := 0) (cs := [.slice none 0 0, vI 0, vI 0, vF 0, vF 0, vF 0, vF 0, vF 0, vI 0, vF 0, vF 0, vF 0, vF 0, vF 0, vF 0]) rfl Try.isAgg33 Try.sizeOf33 ((((((((((((((((((((r5.ext m7).ext m8).mod m9 (nC (lE (lL (lL r3.lt (lT m6.size m7.size)) lR)) nN)).ext m10).ext m11).mod m12 (nC (lE (lL (lL r3.lt (lT (lT (lT (lT m6.size m7.size) m8.size) m9.size) m10.size)) lR)) nN)).ext m13).ext md1).ext m14).ext m15).ext m16).ext m17).mod m18 (nC (lE (lL (lL r3.lt m6.size) ge2)) nN)).ext m19).ext m20).ext m21).ext m22).ext m23).ext m24).mod m25 (nC (lE (lL (lL r3.lt (lT (lT (lT (lT (lT (lT (lT (lT (lT (lT (lT (lT (lT (lT (lT (lT (lT (lT m6.size m7.size) m8.size) m9.size) m10.size) m11.size) m12.size) m13.size) md1.size) m14.size) m15.size) m16.size) m17.size) m18.size) m19.size) m20.size) m21.size) m22.size) m23.size)) lR)) nN)).rng rfl rfl rfl) rfl rfl rfl ?_
  refine WL.call (oc_call (vs := [.agg #[.slice none 0 0, vI 0, vI 0, vF 0, vF 0, vF 0, vF 0, vF 0, vI 0, vF 0, vF 0, vF 0, vF 0, vF 0, vF 0], .agg #[.slice none 0 0, vI 0, vI 0, vF 0, vF 0, vF 0, vF 0, vF 0, vI 0, vF 0, vF 0, vF 0, vF 0, vF 0, vF 0]]) (cap := []) rfl rfl rfl Try.call27 (c_eqString 0 0 none 0 0 [] (0 : Int) (0 : Int) 0 0 0 0 0 0 0 0 0 0 (0 : Int) 0 0 0 0 0 0 0 0 0 0 0 0 0 none 0 0 0 0 0 0 0 0 0 0 0 0 0 rfl (fun h => absurd h (Nat.lt_irrefl _)) (fun h => absurd h (Nat.lt_irrefl _)) rfl rfl rfl rfl rfl rfl rfl rfl rfl rfl rfl rfl rfl rfl rfl rfl rfl rfl rfl rfl rfl rfl (by omega) w26 (Rng.nil _ _ _) (Rng.nil _ _ _))) rfl rfl (ltb rfl) ?_
  rintro _ w27 ⟨rfl, m26⟩
  refine WL.det (op_not rfl) rfl rfl rfl ?_
  refine WL.det (op_move rfl) rfl rfl rfl ?_
  refine WL.yes rfl rfl rfl (ltb rfl) rfl rfl ?_
  refine WL.det (op_move rfl) rfl rfl rfl ?_
  refine WL.yes rfl rfl rfl (ltb rfl) rfl rfl ?_
  refine WL.det (op_move rfl) rfl rfl rfl ?_
  refine WL.yes rfl rfl rfl (ltb rfl) rfl rfl ?_
  refine WL.det (op_nei rfl rfl) rfl rfl rfl ?_
  refine WL.det (op_pick_f rfl rfl rfl) rfl rfl rfl ?_
  refine WL.end ?_
  refine NE.code ?_
  refine CE.cond_f rfl rfl ?_
  refine CE.skip' ?_
  refine NE.code ?_
  refine CE.seq ?_
  refine CE.region ?_
  refine WL.det (op_assign rfl) rfl rfl rfl ?_
  refine WL.end ?_
  refine NE.code ?_
  refine CE.seq ?_
  refine CE.region ?_
  refine WL.det (op_loadA (i := 0) (cs := [.slice none 0 0, vI 0, vI 0, vF 0, vF 0, vF 0, vF 0, vF 0, vI 0, vF 0, vF 0, vF 0, vF 0, vF 0, vF 0]) rfl Try.isAgg33 Try.sizeOf33 (((((((((((((((r12.ext m13).ext md1).ext m14).ext m15).ext m16).ext m17).mod m18 (nC (lG (lL (lL r6.lt (lT (lT m8.size m9.size) m10.size)) lR)) nN)).ext m19).ext m20).ext m21).ext m22).ext m23).ext m24).mod m25 (nC (lE (lL (lL r10.lt (lT (lT (lT (lT (lT (lT (lT (lT (lT (lT (lT (lT m12.size m13.size) md1.size) m14.size) m15.size) m16.size) m17.size) m18.size) m19.size) m20.size) m21.size) m22.size) m23.size)) lR)) nN)).ext m26).rng rfl rfl rfl) rfl rfl rfl ?_
  refine WL.det (op_move rfl) rfl rfl rfl ?_
  refine WL.call (oc_call (vs := [.agg #[.slice none 0 0, vI 0, vI 0, vF 0, vF 0, vF 0, vF 0, vF 0, vI 0, vF 0, vF 0, vF 0, vF 0, vF 0, vF 0], vI 1]) (cap := []) rfl rfl rfl Try.call29 (c_heldString_nil (0 : Int) (0 : Int) 0 0 0 0 0 (0 : Int) 0 0 0 0 0 0 1 (by omega) w27)) rfl rfl (ltb rfl) ?_
  rintro _ w28 ⟨rfl, m27⟩
  refine WL.det (op_assign rfl) rfl rfl rfl ?_
  refine WL.end ?_
  refine NE.code ?_
  refine CE.seq ?_
  refine CE.seq ?_
  refine CE.region ?_
  refine WL.det (op_move rfl) rfl rfl rfl ?_
  refine WL.det (op_lti rfl rfl) rfl rfl rfl ?_
  refine WL.end ?_
  refine NE.code ?_
  refine CE.cond_f rfl rfl ?_
  refine CE.skip' ?_
  refine NE.code ?_
  refine CE.seq ?_
  refine CE.seq ?_
  refine CE.region ?_
  refine WL.det (op_move rfl) rfl rfl rfl ?_
  refine WL.det (op_move rfl) rfl rfl rfl ?_
  refine WL.det (op_nei rfl rfl) rfl rfl rfl ?_
  refine WL.end ?_
  refine NE.code ?_
  refine CE.cond_f rfl rfl ?_
  refine CE.skip' ?_
  refine NE.code ?_
  refine CE.seq ?_
  refine CE.region ?_
  refine WL.det (op_assign rfl) rfl rfl rfl ?_
  refine WL.end ?_
  refine NE.code ?_
  refine CE.ret' ?_
  refine XE.leave1 Try.results5 rfl ?_
  refine ⟨rfl, (((((((((((((((((((((((((((((Mod.refl [] w).nt m1).nt m2).nt m3).nt m4).nt m5).then m6 ((aC (.inr (lT (lT (lT (lT m1.size m2.size) m3.size) m4.size) lR)) aN))).nt m7).nt m8).then m9 ((aC (.inr (lT (lT (lT (lT (lT (lT (lT m1.size m2.size) m3.size) m4.size) m5.size) m6.size) m7.size) lR)) aN))).nt m10).nt m11).then m12 ((aC (.inr (lT (lT (lT (lT (lT (lT (lT (lT (lT (lT m1.size m2.size) m3.size) m4.size) m5.size) m6.size) m7.size) m8.size) m9.size) m10.size) lR)) aN))).nt m13).nt md1).nt m14).nt m15).nt m16).nt m17).then m18 ((aC (.inr (lT (lT (lT (lT (lT (lT m1.size m2.size) m3.size) m4.size) m5.size) m6.size) ge2)) aN))).nt m19).nt m20).nt m21).nt m22).nt m23).nt m24).then m25 ((aC (.inr (lT (lT (lT (lT (lT (lT (lT (lT (lT (lT (lT (lT (lT (lT (lT (lT (lT (lT (lT (lT (lT (lT (lT (lT m1.size m2.size) m3.size) m4.size) m5.size) m6.size) m7.size) m8.size) m9.size) m10.size) m11.size) m12.size) m13.size) md1.size) m14.size) m15.size) m16.size) m17.size) m18.size) m19.size) m20.size) m21.size) m22.size) m23.size) lR)) aN))).nt m26).nt m27)⟩

set_option maxRecDepth 100000 in
set_option maxHeartbeats 2000000 in
theorem law_pluck_out (nLr : Nat) (cLr : Nat) (ALr : Option Addr) (bLr : Nat) (oLr : Nat) (xLr : List Nat) (Lj : Int) (Tk : Int) (Tc0 : Nat) (Tc1 : Nat) (Tc2 : Nat) (Ts0 : Nat) (Ts1 : Nat) (Dk : Int) (Dc0 : Nat) (Dc1 : Nat) (Dc2 : Nat) (Ds0 : Nat) (Ds1 : Nat) (g : Nat) (pl : Nat) (fo : Nat) (lnLr : xLr.length = nLr) (hALr : 0 < nLr → ALr = some ⟨bLr, oLr, none⟩) (wLr : W32 xLr) (hn : nLr ≤ 1024) (lTs0 : Ts0 < wid .f32) (lTs1 : Ts1 < wid .f32) (lDs0 : Ds0 < wid .f32) (lDs1 : Ds1 < wid .f32) (hv : vStr nLr Lj Tk Tc0 Tc1 Tc2 Ts0 Ts1 Dk Dc0 Dc1 Dc2 Ds0 Ds1 g = true) (hp : placeF pl = false) (lpl : pl < wid .f32) (lfo : fo < wid .f32) (w : World) (rLr : Rng w bLr oLr (fl xLr)) : Cl Try.prog 5 #[.agg #[.slice ALr nLr cLr, vI Lj, vI Tk, vF Tc0, vF Tc1, vF Tc2, vF Ts0, vF Ts1, vI Dk, vF Dc0, vF Dc1, vF Dc2, vF Ds0, vF Ds1, vF g], vF pl, vF fo] w fun v w' => v = .bool true ∧ Mod [] w w' := by
  refine Cl.of Try.func5 Try.ntmps5 rfl rfl (ρ := [(0, .agg #[.slice ALr nLr cLr, vI Lj, vI Tk, vF Tc0, vF Tc1, vF Tc2, vF Ts0, vF Ts1, vI Dk, vF Dc0, vF Dc1, vF Dc2, vF Ds0, vF Ds1, vF g]), (1, vF pl), (2, vF fo)]) rfl ?_
  refine CE.seq ?_
  refine CE.region ?_
  refine WL.op (op_box (cs := [.slice ALr nLr cLr, vI Lj, vI Tk, vF Tc0, vF Tc1, vF Tc2, vF Ts0, vF Ts1, vI Dk, vF Dc0, vF Dc1, vF Dc2, vF Ds0, vF Ds1, vF g]) rfl rfl) rfl rfl (ltb rfl) ?_
  rintro _ w1 ⟨rfl, r1, m1, z1⟩
  refine WL.det (op_assign rfl) rfl rfl rfl ?_
  refine WL.end ?_
  refine NE.code ?_
  refine CE.seq ?_
  refine CE.region ?_
  refine WL.det (op_assign rfl) rfl rfl rfl ?_
  refine WL.end ?_
  refine NE.code ?_
  refine CE.seq ?_
  refine CE.region ?_
  refine WL.det (op_loadA (i := 0) (cs := [.slice ALr nLr cLr, vI Lj, vI Tk, vF Tc0, vF Tc1, vF Tc2, vF Ts0, vF Ts1, vI Dk, vF Dc0, vF Dc1, vF Dc2, vF Ds0, vF Ds1, vF g]) rfl Try.isAgg51 Try.sizeOf51 r1.rng rfl rfl rfl) rfl rfl rfl ?_
  refine WL.det (op_move rfl) rfl rfl rfl ?_
  refine WL.call (oc_call (vs := [.agg #[.slice ALr nLr cLr, vI Lj, vI Tk, vF Tc0, vF Tc1, vF Tc2, vF Ts0, vF Ts1, vI Dk, vF Dc0, vF Dc1, vF Dc2, vF Ds0, vF Ds1, vF g], vI 1048576]) (cap := []) rfl rfl rfl Try.call25 (c_szString 1048576 nLr cLr ALr Lj Tk Tc0 Tc1 Tc2 Ts0 Ts1 Dk Dc0 Dc1 Dc2 Ds0 Ds1 g (by omega) (by omega) w1)) rfl rfl (ltb rfl) ?_
  rintro _ w2 ⟨rfl, m2⟩
  refine WL.det (op_assign rfl) rfl rfl rfl ?_
  refine WL.end ?_
  refine NE.code ?_
  refine CE.seq ?_
  refine CE.seq ?_
  refine CE.region ?_
  refine WL.det (op_move rfl) rfl rfl rfl ?_
  refine WL.det (op_lti_f rfl rfl (by omega)) rfl rfl rfl ?_
  refine WL.end ?_
  refine NE.code ?_
  refine CE.cond_f rfl rfl ?_
  refine CE.skip' ?_
  refine NE.code ?_
  refine CE.seq ?_
  refine CE.region ?_
  refine WL.det (op_loadA (i := 0) (cs := [.slice ALr nLr cLr, vI Lj, vI Tk, vF Tc0, vF Tc1, vF Tc2, vF Ts0, vF Ts1, vI Dk, vF Dc0, vF Dc1, vF Dc2, vF Ds0, vF Ds1, vF g]) rfl Try.isAgg51 Try.sizeOf51 (r1.ext m2).rng rfl rfl rfl) rfl rfl rfl ?_
  refine WL.call (oc_call (vs := [.agg #[.slice ALr nLr cLr, vI Lj, vI Tk, vF Tc0, vF Tc1, vF Tc2, vF Ts0, vF Ts1, vI Dk, vF Dc0, vF Dc1, vF Dc2, vF Ds0, vF Ds1, vF g]]) (cap := []) rfl rfl rfl Try.call26 (c_toString nLr cLr ALr bLr oLr xLr Lj Tk Tc0 Tc1 Tc2 Ts0 Ts1 Dk Dc0 Dc1 Dc2 Ds0 Ds1 g lnLr hALr (by omega) w2 ((rLr.ext m1).ext m2))) rfl rfl (ltb rfl) ?_
  rintro _ w3 ⟨bLr'1, rfl, r2, ge1, m3⟩
  refine WL.det (op_move rfl) rfl rfl rfl ?_
  refine WL.det (op_move rfl) rfl rfl rfl ?_
  refine WL.call (oc_call (vs := [.agg #[vS bLr'1 0 nLr nLr, vI Lj, vI Tk, vF Tc0, vF Tc1, vF Tc2, vF Ts0, vF Ts1, vI Dk, vF Dc0, vF Dc1, vF Dc2, vF Ds0, vF Ds1, vF g], vF pl, vF fo]) (cap := []) rfl rfl rfl Try.call30 (c_sPluck_out nLr nLr bLr'1 xLr Lj Tk Tc0 Tc1 Tc2 Ts0 Ts1 Dk Dc0 Dc1 Dc2 Ds0 Ds1 g pl fo lnLr (by omega) (by first | assumption | exact W32.get (by assumption) _ | decide +kernel) (by first | assumption | exact W32.get (by assumption) _ | decide +kernel) (by first | assumption | exact W32.get (by assumption) _ | decide +kernel) (by first | assumption | exact W32.get (by assumption) _ | decide +kernel) lpl lfo (by assumption) (by assumption) w3 r2.rng)) rfl rfl (ltb rfl) ?_
  rintro _ w4 ⟨rfl, m4⟩
  refine WL.det (op_move rfl) rfl rfl rfl ?_
  refine WL.det (op_extract rfl rfl) rfl rfl rfl ?_
  refine WL.det (op_extract rfl rfl) rfl rfl rfl ?_
  refine WL.op (op_alloc (cs := [.slice none 0 0, vI 0, vI 0, vF 0, vF 0, vF 0, vF 0, vF 0, vI 0, vF 0, vF 0, vF 0, vF 0, vF 0, vF 0]) Try.zeroValue33 rfl) rfl rfl (ltb rfl) ?_
  rintro _ w5 ⟨rfl, r3, m5, z2⟩
  refine WL.op0 (op_store (i := 0) (cs := [.slice none 0 0, vI 0, vI 0, vF 0, vF 0, vF 0, vF 0, vF 0, vI 0, vF 0, vF 0, vF 0, vF 0, vF 0, vF 0]) rfl rfl rfl Try.sizeOf33 rfl r3 rfl (lB rfl) rfl) rfl rfl ?_
  rintro _ w6 ⟨r4, m6, z3⟩
  have r5 : Row w6 w4.heap.size 0 [.slice none 0 0, vI 0, vI 0, vF 0, vF 0, vF 0, vF 0, vF 0, vI 0, vF 0, vF 0, vF 0, vF 0, vF 0, vF 0] := Row.congr r4 rfl
  refine WL.det (op_assign rfl) rfl rfl rfl ?_
  refine WL.end ?_
  refine NE.code ?_
  refine CE.seq ?_
  refine CE.region ?_
  refine WL.det (op_loadA (i := 0) (cs := [.slice ALr nLr cLr, vI Lj, vI Tk, vF Tc0, vF Tc1, vF Tc2, vF Ts0, vF Ts1, vI Dk, vF Dc0, vF Dc1, vF Dc2, vF Ds0, vF Ds1, vF g]) rfl Try.isAgg51 Try.sizeOf51 (((((r1.ext m2).ext m3).ext m4).ext m5).mod m6 (nC (lE (lL (lL r1.lt (lT (lT m2.size m3.size) m4.size)) lR)) nN)).rng rfl rfl rfl) rfl rfl rfl ?_
  refine WL.call (oc_call (vs := [.agg #[.slice ALr nLr cLr, vI Lj, vI Tk, vF Tc0, vF Tc1, vF Tc2, vF Ts0, vF Ts1, vI Dk, vF Dc0, vF Dc1, vF Dc2, vF Ds0, vF Ds1, vF g]]) (cap := []) rfl rfl rfl Try.call26 (c_toString nLr cLr ALr bLr oLr xLr Lj Tk Tc0 Tc1 Tc2 Ts0 Ts1 Dk Dc0 Dc1 Dc2 Ds0 Ds1 g lnLr hALr (by omega) w6 (Rng.youngS rLr (((((rLr.ext m1).ext m2).ext m3).ext m4).ext m5) m6 (allge_cons (lT (lT (lT (lT m1.size m2.size) m3.size) m4.size) lR) allge_nil)))) rfl rfl (ltb rfl) ?_
  rintro _ w7 ⟨bLr'2, rfl, r6, ge2, m7⟩
  refine WL.op (op_alloc (cs := [.slice none 0 0, vI 0, vI 0, vF 0, vF 0, vF 0, vF 0, vF 0, vI 0, vF 0, vF 0, vF 0, vF 0, vF 0, vF 0]) Try.zeroValue33 rfl) rfl rfl (ltb rfl) ?_
  rintro _ w8 ⟨rfl, r7, m8, z4⟩
  refine WL.op0 (op_store (i := 0) (cs := [vS bLr'2 0 nLr nLr, vI Lj, vI Tk, vF Tc0, vF Tc1, vF Tc2, vF Ts0, vF Ts1, vI Dk, vF Dc0, vF Dc1, vF Dc2, vF Ds0, vF Ds1, vF g]) rfl rfl rfl Try.sizeOf33 rfl r7 rfl (lB rfl) rfl) rfl rfl ?_
  rintro _ w9 ⟨r8, m9, z5⟩
  have r9 : Row w9 w7.heap.size 0 [vS bLr'2 0 nLr nLr, vI Lj, vI Tk, vF Tc0, vF Tc1, vF Tc2, vF Ts0, vF Ts1, vI Dk, vF Dc0, vF Dc1, vF Dc2, vF Ds0, vF Ds1, vF g] := Row.congr r8 rfl
  refine WL.end ?_
  refine NE.code ?_
  refine CE.seq ?_
  refine CE.region ?_
  refine WL.det (op_loadA (i := 0) (cs := [vS bLr'2 0 nLr nLr, vI Lj, vI Tk, vF Tc0, vF Tc1, vF Tc2, vF Ts0, vF Ts1, vI Dk, vF Dc0, vF Dc1, vF Dc2, vF Ds0, vF Ds1, vF g]) rfl Try.isAgg33 Try.sizeOf33 r9.rng rfl rfl rfl) rfl rfl rfl ?_
  refine WL.det (op_move rfl) rfl rfl rfl ?_
  refine WL.det (op_move rfl) rfl rfl rfl ?_
  refine WL.call (oc_call (vs := [.agg #[vS bLr'2 0 nLr nLr, vI Lj, vI Tk, vF Tc0, vF Tc1, vF Tc2, vF Ts0, vF Ts1, vI Dk, vF Dc0, vF Dc1, vF Dc2, vF Ds0, vF Ds1, vF g], vF pl, vF fo]) (cap := []) rfl rfl rfl Try.call31 (c_iPluck_out nLr nLr bLr'2 xLr Lj Tk Tc0 Tc1 Tc2 Ts0 Ts1 Dk Dc0 Dc1 Dc2 Ds0 Ds1 g pl fo lnLr (by omega) (by first | assumption | exact W32.get (by assumption) _ | decide +kernel) (by first | assumption | exact W32.get (by assumption) _ | decide +kernel) (by first | assumption | exact W32.get (by assumption) _ | decide +kernel) (by first | assumption | exact W32.get (by assumption) _ | decide +kernel) lpl lfo (by assumption) (by assumption) w9 ((r6.ext m8).mod m9 (nC (lE (lL r6.lt lR)) nN)).rng)) rfl rfl (ltb rfl) ?_
  rintro _ w10 ⟨rfl, m10⟩
  refine WL.det (op_move rfl) rfl rfl rfl ?_
  refine WL.det (op_extract rfl rfl) rfl rfl rfl ?_
  refine WL.det (op_extract rfl rfl) rfl rfl rfl ?_
  refine WL.op (op_alloc (cs := [.slice none 0 0, vI 0, vI 0, vF 0, vF 0, vF 0, vF 0, vF 0, vI 0, vF 0, vF 0, vF 0, vF 0, vF 0, vF 0]) Try.zeroValue33 rfl) rfl rfl (ltb rfl) ?_
  rintro _ w11 ⟨rfl, r10, m11, z6⟩
  refine WL.op0 (op_store (i := 0) (cs := [.slice none 0 0, vI 0, vI 0, vF 0, vF 0, vF 0, vF 0, vF 0, vI 0, vF 0, vF 0, vF 0, vF 0, vF 0, vF 0]) rfl rfl rfl Try.sizeOf33 rfl r10 rfl (lB rfl) rfl) rfl rfl ?_
  rintro _ w12 ⟨r11, m12, z7⟩
  have r12 : Row w12 w10.heap.size 0 [.slice none 0 0, vI 0, vI 0, vF 0, vF 0, vF 0, vF 0, vF 0, vI 0, vF 0, vF 0, vF 0, vF 0, vF 0, vF 0] := Row.congr r11 rfl
  refine WL.det (op_assign rfl) rfl rfl rfl ?_
  refine WL.end ?_
  refine NE.code ?_
  refine CE.seq ?_
  refine CE.seq ?_
  refine CE.region ?_
  refine WL.det (op_loadA (i := 0) (cs := [.slice none 0 0, vI 0, vI 0, vF 0, vF 0, vF 0, vF 0, vF 0, vI 0, vF 0, vF 0, vF 0, vF 0, vF 0, vF 0]) rfl Try.isAgg33 Try.sizeOf33 r12.rng rfl rfl rfl) rfl rfl rfl ?_
  refine WL.det (op_loadA (i := 0) (cs := [.slice none 0 0, vI 0, vI 0, vF 0, vF 0, vF 0, vF 0, vF 0, vI 0, vF 0, vF 0, vF 0, vF 0, vF 0, vF 0]) rfl Try.isAgg33 Try.sizeOf33 ((((((r5.ext m7).ext m8).mod m9 (nC (lE (lL (lL r3.lt (lT m6.size m7.size)) lR)) nN)).ext m10).ext m11).mod m12 (nC (lE (lL (lL r3.lt (lT (lT (lT (lT m6.size m7.size) m8.size) m9.size) m10.size)) lR)) nN)).rng rfl rfl rfl) rfl rfl rfl ?_
  refine WL.call (oc_call (vs := [.agg #[.slice none 0 0, vI 0, vI 0, vF 0, vF 0, vF 0, vF 0, vF 0, vI 0, vF 0, vF 0, vF 0, vF 0, vF 0, vF 0], .agg #[.slice none 0 0, vI 0, vI 0, vF 0, vF 0, vF 0, vF 0, vF 0, vI 0, vF 0, vF 0, vF 0, vF 0, vF 0, vF 0]]) (cap := []) rfl rfl rfl Try.call27 (c_eqString 0 0 none 0 0 [] (0 : Int) (0 : Int) 0 0 0 0 0 0 0 0 0 0 (0 : Int) 0 0 0 0 0 0 0 0 0 0 0 0 0 none 0 0 0 0 0 0 0 0 0 0 0 0 0 rfl (fun h => absurd h (Nat.lt_irrefl _)) (fun h => absurd h (Nat.lt_irrefl _)) rfl rfl rfl rfl rfl rfl rfl rfl rfl rfl rfl rfl rfl rfl rfl rfl rfl rfl rfl rfl rfl rfl (by omega) w12 (Rng.nil _ _ _) (Rng.nil _ _ _))) rfl rfl (ltb rfl) ?_
  rintro _ w13 ⟨rfl, m13⟩
  refine WL.det (op_not rfl) rfl rfl rfl ?_
  refine WL.det (op_move rfl) rfl rfl rfl ?_
  refine WL.yes rfl rfl rfl (ltb rfl) rfl rfl ?_
  refine WL.det (op_move rfl) rfl rfl rfl ?_
  refine WL.yes rfl rfl rfl (ltb rfl) rfl rfl ?_
  refine WL.det (op_move rfl) rfl rfl rfl ?_
  refine WL.yes rfl rfl rfl (ltb rfl) rfl rfl ?_
  refine WL.det (op_nei rfl rfl) rfl rfl rfl ?_
  refine WL.det (op_pick_f rfl rfl rfl) rfl rfl rfl ?_
  refine WL.end ?_
  refine NE.code ?_
  refine CE.cond_f rfl rfl ?_
  refine CE.skip' ?_
  refine NE.code ?_
  refine CE.seq ?_
  refine CE.seq ?_
  refine CE.draw (fun | 2 => some (fun _ wA uA wB => ∃ (bLr' : Nat), uA = .agg #[vS bLr' 0 nLr nLr, vI Lj, vI Tk, vF Tc0, vF Tc1, vF Tc2, vF Ts0, vF Ts1, vI Dk, vF Dc0, vF Dc1, vF Dc2, vF Ds0, vF Ds1, vF g] ∧ Row wB bLr' 0 (fl xLr) ∧ wA.heap.size ≤ bLr' ∧ Mod [] wA wB) | _ => none) [0, 1, 2] [3, 4] [] (by kernel_rfl) (by kernel_rfl) ?_
  have md1 : Mod [] w13 w13.drew := (Mod.refl _ _).drew
  generalize w13.drew = w14 at md1 ⊢
  refine DR.det (i := 0) rfl rfl (by kernel_rfl) (.free rfl) rfl rfl (fun wD mD => op_loadA (i := 0) (cs := [vS bLr'2 0 nLr nLr, vI Lj, vI Tk, vF Tc0, vF Tc1, vF Tc2, vF Ts0, vF Ts1, vI Dk, vF Dc0, vF Dc1, vF Dc2, vF Ds0, vF Ds1, vF g]) rfl Try.isAgg33 Try.sizeOf33 ((((((r9.ext m10).ext m11).mod m12 (nC (lE (lL (lL r7.lt (lT m9.size m10.size)) lR)) nN)).ext m13).ext md1).ext mD).rng rfl rfl rfl) ?_
  refine DR.det (i := 1) rfl rfl (by kernel_rfl) (.free rfl) rfl rfl (fun wD mD => op_loadA (i := 0) (cs := [.slice ALr nLr cLr, vI Lj, vI Tk, vF Tc0, vF Tc1, vF Tc2, vF Ts0, vF Ts1, vI Dk, vF Dc0, vF Dc1, vF Dc2, vF Ds0, vF Ds1, vF g]) rfl Try.isAgg51 Try.sizeOf51 ((((((((((((((r1.ext m2).ext m3).ext m4).ext m5).mod m6 (nC (lE (lL (lL r1.lt (lT (lT m2.size m3.size) m4.size)) lR)) nN)).ext m7).ext m8).mod m9 (nC (lE (lL (lL r1.lt (lT (lT (lT (lT (lT m2.size m3.size) m4.size) m5.size) m6.size) m7.size)) lR)) nN)).ext m10).ext m11).mod m12 (nC (lE (lL (lL r1.lt (lT (lT (lT (lT (lT (lT (lT (lT m2.size m3.size) m4.size) m5.size) m6.size) m7.size) m8.size) m9.size) m10.size)) lR)) nN)).ext m13).ext md1).ext mD).rng rfl rfl rfl) ?_
  refine DR.one (i := 2) rfl rfl (by kernel_rfl) (.free rfl) rfl (ltb rfl) (vs := [.func (.func 26) #[] #[], .agg #[.slice ALr nLr cLr, vI Lj, vI Tk, vF Tc0, vF Tc1, vF Tc2, vF Ts0, vF Ts1, vI Dk, vF Dc0, vF Dc1, vF Dc2, vF Ds0, vF Ds1, vF g]]) rfl ?_
  intro w15 m14
  refine ⟨oc_call (vs := [.agg #[.slice ALr nLr cLr, vI Lj, vI Tk, vF Tc0, vF Tc1, vF Tc2, vF Ts0, vF Ts1, vI Dk, vF Dc0, vF Dc1, vF Dc2, vF Ds0, vF Ds1, vF g]]) (cap := []) rfl rfl rfl Try.call26 (c_toString nLr cLr ALr bLr oLr xLr Lj Tk Tc0 Tc1 Tc2 Ts0 Ts1 Dk Dc0 Dc1 Dc2 Ds0 Ds1 g lnLr hALr (by omega) w15 ((((Rng.youngS rLr (((Rng.youngS rLr (((Rng.youngS rLr (((((rLr.ext m1).ext m2).ext m3).ext m4).ext m5) m6 (allge_cons (lT (lT (lT (lT m1.size m2.size) m3.size) m4.size) lR) allge_nil)).ext m7).ext m8) m9 (allge_cons (lT (lT (lT (lT (lT (lT (lT m1.size m2.size) m3.size) m4.size) m5.size) m6.size) m7.size) lR) allge_nil)).ext m10).ext m11) m12 (allge_cons (lT (lT (lT (lT (lT (lT (lT (lT (lT (lT m1.size m2.size) m3.size) m4.size) m5.size) m6.size) m7.size) m8.size) m9.size) m10.size) lR) allge_nil)).ext m13).ext md1).ext m14)), ?_⟩
  rintro _ w16 ⟨bLr'3, rfl, r13, ge3, m15⟩
  refine ⟨(((Mod.refl [] w14).nt m14).nt m15), ?_⟩
  refine DR.done rfl ?_
  intro w17 m16
  refine WO.call rfl (.free rfl) rfl (ltb rfl) (oc_call (vs := [.agg #[vS bLr'2 0 nLr nLr, vI Lj, vI Tk, vF Tc0, vF Tc1, vF Tc2, vF Ts0, vF Ts1, vI Dk, vF Dc0, vF Dc1, vF Dc2, vF Ds0, vF Ds1, vF g], .agg #[vS bLr'3 0 nLr nLr, vI Lj, vI Tk, vF Tc0, vF Tc1, vF Tc2, vF Ts0, vF Ts1, vI Dk, vF Dc0, vF Dc1, vF Dc2, vF Ds0, vF Ds1, vF g]]) (cap := []) rfl rfl rfl Try.call27 (c_eqString nLr nLr (some ⟨bLr'2, 0, none⟩) bLr'2 0 xLr Lj Tk Tc0 Tc0 Tc1 Tc1 Tc2 Tc2 Ts0 Ts0 Ts1 Ts1 Dk Dc0 Dc0 Dc1 Dc1 Dc2 Dc2 Ds0 Ds0 Ds1 Ds1 g g nLr (some ⟨bLr'3, 0, none⟩) bLr'3 0 Tc0 Tc1 Tc2 Ts0 Ts1 Dc0 Dc1 Dc2 Ds0 Ds1 g lnLr (fun _ => rfl) (fun _ => rfl) rfl rfl rfl rfl rfl rfl rfl rfl rfl rfl rfl rfl rfl rfl rfl rfl rfl rfl rfl rfl rfl rfl (by omega) w17 ((((((((((r6.ext m8).mod m9 (nC (lE (lL r6.lt lR)) nN)).ext m10).ext m11).mod m12 (nC (lE (lL (lL r6.lt (lT (lT m8.size m9.size) m10.size)) lR)) nN)).ext m13).ext md1).ext m14).ext m15).ext m16).rng (r13.ext m16).rng)) ?_
  rintro _ w18 ⟨rfl, m17⟩
  refine WO.det (op_not rfl) rfl (.free rfl) rfl rfl ?_
  refine WO.end ?_
  refine NE.code ?_
  refine CE.cond_f rfl rfl ?_
  refine CE.skip' ?_
  refine NE.code ?_
  refine CE.seq ?_
  refine CE.region ?_
  refine WL.det (op_assign rfl) rfl rfl rfl ?_
  refine WL.end ?_
  refine NE.code ?_
  refine CE.seq ?_
  refine CE.region ?_
  refine WL.det (op_loadA (i := 0) (cs := [vS bLr'2 0 nLr nLr, vI Lj, vI Tk, vF Tc0, vF Tc1, vF Tc2, vF Ts0, vF Ts1, vI Dk, vF Dc0, vF Dc1, vF Dc2, vF Ds0, vF Ds1, vF g]) rfl Try.isAgg33 Try.sizeOf33 (((((((((r9.ext m10).ext m11).mod m12 (nC (lE (lL (lL r7.lt (lT m9.size m10.size)) lR)) nN)).ext m13).ext md1).ext m14).ext m15).ext m16).ext m17).rng rfl rfl rfl) rfl rfl rfl ?_
  refine WL.det (op_move rfl) rfl rfl rfl ?_
  refine WL.call (oc_call (vs := [.agg #[vS bLr'2 0 nLr nLr, vI Lj, vI Tk, vF Tc0, vF Tc1, vF Tc2, vF Ts0, vF Ts1, vI Dk, vF Dc0, vF Dc1, vF Dc2, vF Ds0, vF Ds1, vF g], vI 1]) (cap := []) rfl rfl rfl Try.call28 (c_markString nLr nLr bLr'2 xLr Lj Tk Tc0 Tc1 Tc2 Ts0 Ts1 Dk Dc0 Dc1 Dc2 Ds0 Ds1 g 1 lnLr (by omega) (by omega) w18 (((((((((((r6.ext m8).mod m9 (nC (lE (lL r6.lt lR)) nN)).ext m10).ext m11).mod m12 (nC (lE (lL (lL r6.lt (lT (lT m8.size m9.size) m10.size)) lR)) nN)).ext m13).ext md1).ext m14).ext m15).ext m16).ext m17))) rfl rfl (ltb rfl) ?_
  rintro _ w19 ⟨rfl, r14, m18⟩
  refine WL.det (op_assign rfl) rfl rfl rfl ?_
  refine WL.end ?_
  refine NE.code ?_
  refine CE.seq ?_
  refine CE.seq ?_
  refine CE.region ?_
  refine WL.det (op_move rfl) rfl rfl rfl ?_
  refine WL.det (op_lti_f rfl rfl (by omega)) rfl rfl rfl ?_
  refine WL.det (op_move rfl) rfl rfl rfl ?_
  refine WL.yes rfl rfl rfl (ltb rfl) rfl rfl ?_
  refine WL.det (op_loadA (i := 0) (cs := [.slice none 0 0, vI 0, vI 0, vF 0, vF 0, vF 0, vF 0, vF 0, vI 0, vF 0, vF 0, vF 0, vF 0, vF 0, vF 0]) rfl Try.isAgg33 Try.sizeOf33 (((((((r12.ext m13).ext md1).ext m14).ext m15).ext m16).ext m17).mod m18 (nC (lG (lL (lL r6.lt (lT (lT m8.size m9.size) m10.size)) lR)) nN)).rng rfl rfl rfl) rfl rfl rfl ?_
  refine WL.yes rfl rfl rfl (ltb rfl) rfl rfl ?_
  refine WL.det (op_loadA (i := 0) (cs := [.slice none 0 0, vI 0, vI 0, vF 0, vF 0, vF 0, vF 0, vF 0, vI 0, vF 0, vF 0, vF 0, vF 0, vF 0, vF 0]) rfl Try.isAgg33 Try.sizeOf33 (((((((((((((r5.ext m7).ext m8).mod m9 (nC (lE (lL (lL r3.lt (lT m6.size m7.size)) lR)) nN)).ext m10).ext m11).mod m12 (nC (lE (lL (lL r3.lt (lT (lT (lT (lT m6.size m7.size) m8.size) m9.size) m10.size)) lR)) nN)).ext m13).ext md1).ext m14).ext m15).ext m16).ext m17).mod m18 (nC (lE (lL (lL r3.lt m6.size) ge2)) nN)).rng rfl rfl rfl) rfl rfl rfl ?_
  refine WL.yes rfl rfl rfl (ltb rfl) rfl rfl ?_
  refine WL.call (oc_call (vs := [.agg #[.slice none 0 0, vI 0, vI 0, vF 0, vF 0, vF 0, vF 0, vF 0, vI 0, vF 0, vF 0, vF 0, vF 0, vF 0, vF 0], .agg #[.slice none 0 0, vI 0, vI 0, vF 0, vF 0, vF 0, vF 0, vF 0, vI 0, vF 0, vF 0, vF 0, vF 0, vF 0, vF 0]]) (cap := []) rfl rfl rfl Try.call27 (c_eqString 0 0 none 0 0 [] (0 : Int) (0 : Int) 0 0 0 0 0 0 0 0 0 0 (0 : Int) 0 0 0 0 0 0 0 0 0 0 0 0 0 none 0 0 0 0 0 0 0 0 0 0 0 0 0 rfl (fun h => absurd h (Nat.lt_irrefl _)) (fun h => absurd h (Nat.lt_irrefl _)) rfl rfl rfl rfl rfl rfl rfl rfl rfl rfl rfl rfl rfl rfl rfl rfl rfl rfl rfl rfl rfl rfl (by omega) w19 (Rng.nil _ _ _) (Rng.nil _ _ _))) rfl rfl (ltb rfl) ?_
  rintro _ w20 ⟨rfl, m19⟩
  refine WL.yes rfl rfl rfl (ltb rfl) rfl rfl ?_
  refine WL.det (op_not rfl) rfl rfl rfl ?_
  refine WL.det (op_pick_f rfl rfl rfl) rfl rfl rfl ?_
  refine WL.det (op_move rfl) rfl rfl rfl ?_
  refine WL.yes rfl rfl rfl (ltb rfl) rfl rfl ?_
  refine WL.det (op_move rfl) rfl rfl rfl ?_
  refine WL.yes rfl rfl rfl (ltb rfl) rfl rfl ?_
  refine WL.det (op_move rfl) rfl rfl rfl ?_
  refine WL.yes rfl rfl rfl (ltb rfl) rfl rfl ?_
  refine WL.det (op_nei rfl rfl) rfl rfl rfl ?_
  refine WL.det (op_pick_f rfl rfl rfl) rfl rfl rfl ?_
  refine WL.end ?_
  refine NE.code ?_
  refine CE.cond_f rfl rfl ?_
  refine CE.skip' ?_
  refine NE.code ?_
  refine CE.seq ?_
  refine CE.region ?_
  refine WL.det (op_assign rfl) rfl rfl rfl ?_
  refine WL.end ?_
  refine NE.code ?_
  refine CE.seq ?_
  refine CE.region ?_
  refine WL.det (op_loadA (i := 0) (cs := [.slice none 0 0, vI 0, vI 0, vF 0, vF 0, vF 0, vF 0, vF 0, vI 0, vF 0, vF 0, vF 0, vF 0, vF 0, vF 0]) rfl Try.isAgg33 Try.sizeOf33 ((((((((r12.ext m13).ext md1).ext m14).ext m15).ext m16).ext m17).mod m18 (nC (lG (lL (lL r6.lt (lT (lT m8.size m9.size) m10.size)) lR)) nN)).ext m19).rng rfl rfl rfl) rfl rfl rfl ?_
  refine WL.det (op_move rfl) rfl rfl rfl ?_
  refine WL.call (oc_call (vs := [.agg #[.slice none 0 0, vI 0, vI 0, vF 0, vF 0, vF 0, vF 0, vF 0, vI 0, vF 0, vF 0, vF 0, vF 0, vF 0, vF 0], vI 1]) (cap := []) rfl rfl rfl Try.call28 (c_markString_nil (0 : Int) (0 : Int) 0 0 0 0 0 (0 : Int) 0 0 0 0 0 0 1 (by omega) w20)) rfl rfl (ltb rfl) ?_
  rintro _ w21 ⟨rfl, m20⟩
  refine WL.det (op_assign rfl) rfl rfl rfl ?_
  refine WL.end ?_
  refine NE.code ?_
  refine CE.seq ?_
  refine CE.region ?_
  refine WL.det (op_assign rfl) rfl rfl rfl ?_
  refine WL.end ?_
  refine NE.code ?_
  refine CE.seq ?_
  refine CE.region ?_
  refine WL.det (op_loadA (i := 0) (cs := [.slice none 0 0, vI 0, vI 0, vF 0, vF 0, vF 0, vF 0, vF 0, vI 0, vF 0, vF 0, vF 0, vF 0, vF 0, vF 0]) rfl Try.isAgg33 Try.sizeOf33 (((((((((r12.ext m13).ext md1).ext m14).ext m15).ext m16).ext m17).mod m18 (nC (lG (lL (lL r6.lt (lT (lT m8.size m9.size) m10.size)) lR)) nN)).ext m19).ext m20).rng rfl rfl rfl) rfl rfl rfl ?_
  refine WL.det (op_move rfl) rfl rfl rfl ?_
  refine WL.call (oc_call (vs := [.agg #[.slice none 0 0, vI 0, vI 0, vF 0, vF 0, vF 0, vF 0, vF 0, vI 0, vF 0, vF 0, vF 0, vF 0, vF 0, vF 0], vI 1]) (cap := []) rfl rfl rfl Try.call29 (c_heldString_nil (0 : Int) (0 : Int) 0 0 0 0 0 (0 : Int) 0 0 0 0 0 0 1 (by omega) w21)) rfl rfl (ltb rfl) ?_
  rintro _ w22 ⟨rfl, m21⟩
  refine WL.det (op_assign rfl) rfl rfl rfl ?_
  refine WL.end ?_
  refine NE.code ?_
  refine CE.seq ?_
  refine CE.seq ?_
  refine CE.region ?_
  refine WL.det (op_move rfl) rfl rfl rfl ?_
  refine WL.det (op_lti rfl rfl) rfl rfl rfl ?_
  refine WL.end ?_
  refine NE.code ?_
  refine CE.cond_f rfl rfl ?_
  refine CE.skip' ?_
  refine NE.code ?_
  refine CE.seq ?_
  refine CE.seq ?_
  refine CE.region ?_
  refine WL.det (op_move rfl) rfl rfl rfl ?_
  refine WL.det (op_move rfl) rfl rfl rfl ?_
  refine WL.det (op_nei rfl rfl) rfl rfl rfl ?_
  refine WL.end ?_
  refine NE.code ?_
  refine CE.cond_f rfl rfl ?_
  refine CE.skip' ?_
  refine NE.code ?_
  refine CE.seq ?_
  refine CE.region ?_
  refine WL.det (op_loadA (i := 0) (cs := [.slice ALr nLr cLr, vI Lj, vI Tk, vF Tc0, vF Tc1, vF Tc2, vF Ts0, vF Ts1, vI Dk, vF Dc0, vF Dc1, vF Dc2, vF Ds0, vF Ds1, vF g]) rfl Try.isAgg51 Try.sizeOf51 (((((((((((((((((((((r1.ext m2).ext m3).ext m4).ext m5).mod m6 (nC (lE (lL (lL r1.lt (lT (lT m2.size m3.size) m4.size)) lR)) nN)).ext m7).ext m8).mod m9 (nC (lE (lL (lL r1.lt (lT (lT (lT (lT (lT m2.size m3.size) m4.size) m5.size) m6.size) m7.size)) lR)) nN)).ext m10).ext m11).mod m12 (nC (lE (lL (lL r1.lt (lT (lT (lT (lT (lT (lT (lT (lT m2.size m3.size) m4.size) m5.size) m6.size) m7.size) m8.size) m9.size) m10.size)) lR)) nN)).ext m13).ext md1).ext m14).ext m15).ext m16).ext m17).mod m18 (nC (lE (lL (lL r1.lt (lT (lT (lT (lT m2.size m3.size) m4.size) m5.size) m6.size)) ge2)) nN)).ext m19).ext m20).ext m21).rng rfl rfl rfl) rfl rfl rfl ?_
  refine WL.call (oc_call (vs := [.agg #[.slice ALr nLr cLr, vI Lj, vI Tk, vF Tc0, vF Tc1, vF Tc2, vF Ts0, vF Ts1, vI Dk, vF Dc0, vF Dc1, vF Dc2, vF Ds0, vF Ds1, vF g]]) (cap := []) rfl rfl rfl Try.call26 (c_toString nLr cLr ALr bLr oLr xLr Lj Tk Tc0 Tc1 Tc2 Ts0 Ts1 Dk Dc0 Dc1 Dc2 Ds0 Ds1 g lnLr hALr (by omega) w22 ((((Rng.youngS rLr (((((((Rng.youngS rLr (((Rng.youngS rLr (((Rng.youngS rLr (((((rLr.ext m1).ext m2).ext m3).ext m4).ext m5) m6 (allge_cons (lT (lT (lT (lT m1.size m2.size) m3.size) m4.size) lR) allge_nil)).ext m7).ext m8) m9 (allge_cons (lT (lT (lT (lT (lT (lT (lT m1.size m2.size) m3.size) m4.size) m5.size) m6.size) m7.size) lR) allge_nil)).ext m10).ext m11) m12 (allge_cons (lT (lT (lT (lT (lT (lT (lT (lT (lT (lT m1.size m2.size) m3.size) m4.size) m5.size) m6.size) m7.size) m8.size) m9.size) m10.size) lR) allge_nil)).ext m13).ext md1).ext m14).ext m15).ext m16).ext m17) m18 (allge_cons (lT (lT (lT (lT (lT (lT m1.size m2.size) m3.size) m4.size) m5.size) m6.size) ge2) allge_nil)).ext m19).ext m20).ext m21))) rfl rfl (ltb rfl) ?_
  rintro _ w23 ⟨bLr'4, rfl, r15, ge4, m22⟩
  refine WL.det (op_move rfl) rfl rfl rfl ?_
  refine WL.det (op_move rfl) rfl rfl rfl ?_
  refine WL.call (oc_call (vs := [.agg #[vS bLr'4 0 nLr nLr, vI Lj, vI Tk, vF Tc0, vF Tc1, vF Tc2, vF Ts0, vF Ts1, vI Dk, vF Dc0, vF Dc1, vF Dc2, vF Ds0, vF Ds1, vF g], vF pl, vF fo]) (cap := []) rfl rfl rfl Try.call31 (c_iPluck_out nLr nLr bLr'4 xLr Lj Tk Tc0 Tc1 Tc2 Ts0 Ts1 Dk Dc0 Dc1 Dc2 Ds0 Ds1 g pl fo lnLr (by omega) (by first | assumption | exact W32.get (by assumption) _ | decide +kernel) (by first | assumption | exact W32.get (by assumption) _ | decide +kernel) (by first | assumption | exact W32.get (by assumption) _ | decide +kernel) (by first | assumption | exact W32.get (by assumption) _ | decide +kernel) lpl lfo (by assumption) (by assumption) w23 r15.rng)) rfl rfl (ltb rfl) ?_
  rintro _ w24 ⟨rfl, m23⟩
  refine WL.det (op_move rfl) rfl rfl rfl ?_
  refine WL.det (op_extract rfl rfl) rfl rfl rfl ?_
  refine WL.det (op_extract rfl rfl) rfl rfl rfl ?_
  refine WL.op (op_alloc (cs := [.slice none 0 0, vI 0, vI 0, vF 0, vF 0, vF 0, vF 0, vF 0, vI 0, vF 0, vF 0, vF 0, vF 0, vF 0, vF 0]) Try.zeroValue33 rfl) rfl rfl (ltb rfl) ?_
  rintro _ w25 ⟨rfl, r16, m24, z8⟩
  refine WL.op0 (op_store (i := 0) (cs := [.slice none 0 0, vI 0, vI 0, vF 0, vF 0, vF 0, vF 0, vF 0, vI 0, vF 0, vF 0, vF 0, vF 0, vF 0, vF 0]) rfl rfl rfl Try.sizeOf33 rfl r16 rfl (lB rfl) rfl) rfl rfl ?_
  rintro _ w26 ⟨r17, m25, z9⟩
  have r18 : Row w26 w24.heap.size 0 [.slice none 0 0, vI 0, vI 0, vF 0, vF 0, vF 0, vF 0, vF 0, vI 0, vF 0, vF 0, vF 0, vF 0, vF 0, vF 0] := Row.congr r17 rfl
  refine WL.det (op_assign rfl) rfl rfl rfl ?_
  refine WL.end ?_
  refine NE.code ?_
  refine CE.seq ?_
  refine CE.seq ?_
  refine CE.region ?_
  refine WL.det (op_loadA (i := 0) (cs := [.slice none 0 0, vI 0, vI 0, vF 0, vF 0, vF 0, vF 0, vF 0, vI 0, vF 0, vF 0, vF 0, vF 0, vF 0, vF 0]) rfl Try.isAgg33 Try.sizeOf33 r18.rng rfl rfl rfl) rfl rfl rfl ?_
  refine WL.det (op_loadA (i := 0) (cs := [.slice none 0 0, vI 0, vI 0, vF 0, vF 0, vF 0, vF 0, vF 0, vI 0, vF 0, vF 0, vF 0, vF 0, vF 0, vF 0]) rfl Try.isAgg33 Try.sizeOf33 ((((((((((((((((((((r5.ext m7).ext m8).mod m9 (nC (lE (lL (lL r3.lt (lT m6.size m7.size)) lR)) nN)).ext m10).ext m11).mod m12 (nC (lE (lL (lL r3.lt (lT (lT (lT (lT m6.size m7.size) m8.size) m9.size) m10.size)) lR)) nN)).ext m13).ext md1).ext m14).ext m15).ext m16).ext m17).mod m18 (nC (lE (lL (lL r3.lt m6.size) ge2)) nN)).ext m19).ext m20).ext m21).ext m22).ext m23).ext m24).mod m25 (nC (lE (lL (lL r3.lt (lT (lT (lT (lT (lT (lT (lT (lT (lT (lT (lT (lT (lT (lT (lT (lT (lT (lT m6.size m7.size) m8.size) m9.size) m10.size) m11.size) m12.size) m13.size) md1.size) m14.size) m15.size) m16.size) m17.size) m18.size) m19.size) m20.size) m21.size) m22.size) m23.size)) lR)) nN)).rng rfl rfl rfl) rfl rfl rfl ?_
  refine WL.call (oc_call (vs := [.agg #[.slice none 0 0, vI 0, vI 0, vF 0, vF 0, vF 0, vF 0, vF 0, vI 0, vF 0, vF 0, vF 0, vF 0, vF 0, vF 0], .agg #[.slice none 0 0, vI 0, vI 0, vF 0, vF 0, vF 0, vF 0, vF 0, vI 0, vF 0, vF 0, vF 0, vF 0, vF 0, vF 0]]) (cap := []) rfl rfl rfl Try.call27 (c_eqString 0 0 none 0 0 [] (0 : Int) (0 : Int) 0 0 0 0 0 0 0 0 0 0 (0 : Int) 0 0 0 0 0 0 0 0 0 0 0 0 0 none 0 0 0 0 0 0 0 0 0 0 0 0 0 rfl (fun h => absurd h (Nat.lt_irrefl _)) (fun h => absurd h (Nat.lt_irrefl _)) rfl rfl rfl rfl rfl rfl rfl rfl rfl rfl rfl rfl rfl rfl rfl rfl rfl rfl rfl rfl rfl rfl (by omega) w26 (Rng.nil _ _ _) (Rng.nil _ _ _))) rfl rfl (ltb rfl) ?_
  rintro _ w27 ⟨rfl, m26⟩
  refine WL.det (op_not rfl) rfl rfl rfl ?_
  refine WL.det (op_move rfl) rfl rfl rfl ?_
  refine WL.yes rfl rfl rfl (ltb rfl) rfl rfl ?_
  refine WL.det (op_move rfl) rfl rfl rfl ?_
  refine WL.yes rfl rfl rfl (ltb rfl) rfl rfl ?_
  refine WL.det (op_move rfl) rfl rfl rfl ?_
  refine WL.yes rfl rfl rfl (ltb rfl) rfl rfl ?_
  refine WL.det (op_nei rfl rfl) rfl rfl rfl ?_
  refine WL.det (op_pick_f rfl rfl rfl) rfl rfl rfl ?_
  refine WL.end ?_
  refine NE.code ?_
  refine CE.cond_f rfl rfl ?_
  refine CE.skip' ?_
  refine NE.code ?_
  refine CE.seq ?_
  refine CE.region ?_
  refine WL.det (op_assign rfl) rfl rfl rfl ?_
  refine WL.end ?_
  refine NE.code ?_
  refine CE.seq ?_
  refine CE.region ?_
  refine WL.det (op_loadA (i := 0) (cs := [.slice none 0 0, vI 0, vI 0, vF 0, vF 0, vF 0, vF 0, vF 0, vI 0, vF 0, vF 0, vF 0, vF 0, vF 0, vF 0]) rfl Try.isAgg33 Try.sizeOf33 (((((((((((((((r12.ext m13).ext md1).ext m14).ext m15).ext m16).ext m17).mod m18 (nC (lG (lL (lL r6.lt (lT (lT m8.size m9.size) m10.size)) lR)) nN)).ext m19).ext m20).ext m21).ext m22).ext m23).ext m24).mod m25 (nC (lE (lL (lL r10.lt (lT (lT (lT (lT (lT (lT (lT (lT (lT (lT (lT (lT m12.size m13.size) md1.size) m14.size) m15.size) m16.size) m17.size) m18.size) m19.size) m20.size) m21.size) m22.size) m23.size)) lR)) nN)).ext m26).rng rfl rfl rfl) rfl rfl rfl ?_
  refine WL.det (op_move rfl) rfl rfl rfl ?_
  refine WL.call (oc_call (vs := [.agg #[.slice none 0 0, vI 0, vI 0, vF 0, vF 0, vF 0, vF 0, vF 0, vI 0, vF 0, vF 0, vF 0, vF 0, vF 0, vF 0], vI 1]) (cap := []) rfl rfl rfl Try.call29 (c_heldString_nil (0 : Int) (0 : Int) 0 0 0 0 0 (0 : Int) 0 0 0 0 0 0 1 (by omega) w27)) rfl rfl (ltb rfl) ?_
  rintro _ w28 ⟨rfl, m27⟩
  refine WL.det (op_assign rfl) rfl rfl rfl ?_
  refine WL.end ?_
  refine NE.code ?_
  refine CE.seq ?_
  refine CE.seq ?_
  refine CE.region ?_
  refine WL.det (op_move rfl) rfl rfl rfl ?_
  refine WL.det (op_lti rfl rfl) rfl rfl rfl ?_
  refine WL.end ?_
  refine NE.code ?_
  refine CE.cond_f rfl rfl ?_
  refine CE.skip' ?_
  refine NE.code ?_
  refine CE.seq ?_
  refine CE.seq ?_
  refine CE.region ?_
  refine WL.det (op_move rfl) rfl rfl rfl ?_
  refine WL.det (op_move rfl) rfl rfl rfl ?_
  refine WL.det (op_nei rfl rfl) rfl rfl rfl ?_
  refine WL.end ?_
  refine NE.code ?_
  refine CE.cond_f rfl rfl ?_
  refine CE.skip' ?_
  refine NE.code ?_
  refine CE.seq ?_
  refine CE.region ?_
  refine WL.det (op_assign rfl) rfl rfl rfl ?_
  refine WL.end ?_
  refine NE.code ?_
  refine CE.ret' ?_
  refine XE.leave1 Try.results5 rfl ?_
  refine ⟨rfl, (((((((((((((((((((((((((((((Mod.refl [] w).nt m1).nt m2).nt m3).nt m4).nt m5).then m6 ((aC (.inr (lT (lT (lT (lT m1.size m2.size) m3.size) m4.size) lR)) aN))).nt m7).nt m8).then m9 ((aC (.inr (lT (lT (lT (lT (lT (lT (lT m1.size m2.size) m3.size) m4.size) m5.size) m6.size) m7.size) lR)) aN))).nt m10).nt m11).then m12 ((aC (.inr (lT (lT (lT (lT (lT (lT (lT (lT (lT (lT m1.size m2.size) m3.size) m4.size) m5.size) m6.size) m7.size) m8.size) m9.size) m10.size) lR)) aN))).nt m13).nt md1).nt m14).nt m15).nt m16).nt m17).then m18 ((aC (.inr (lT (lT (lT (lT (lT (lT m1.size m2.size) m3.size) m4.size) m5.size) m6.size) ge2)) aN))).nt m19).nt m20).nt m21).nt m22).nt m23).nt m24).then m25 ((aC (.inr (lT (lT (lT (lT (lT (lT (lT (lT (lT (lT (lT (lT (lT (lT (lT (lT (lT (lT (lT (lT (lT (lT (lT (lT m1.size m2.size) m3.size) m4.size) m5.size) m6.size) m7.size) m8.size) m9.size) m10.size) m11.size) m12.size) m13.size) md1.size) m14.size) m15.size) m16.size) m17.size) m18.size) m19.size) m20.size) m21.size) m22.size) m23.size) lR)) aN))).nt m26).nt m27)⟩

set_option maxRecDepth 100000 in
set_option maxHeartbeats 2000000 in
theorem law_pluck_bad (nLr : Nat) (cLr : Nat) (ALr : Option Addr) (bLr : Nat) (oLr : Nat) (xLr : List Nat) (Lj : Int) (Tk : Int) (Tc0 : Nat) (Tc1 : Nat) (Tc2 : Nat) (Ts0 : Nat) (Ts1 : Nat) (Dk : Int) (Dc0 : Nat) (Dc1 : Nat) (Dc2 : Nat) (Ds0 : Nat) (Ds1 : Nat) (g : Nat) (pl : Nat) (fo : Nat) (lnLr : xLr.length = nLr) (hALr : 0 < nLr → ALr = some ⟨bLr, oLr, none⟩) (wLr : W32 xLr) (lTs0 : Ts0 < wid .f32) (lTs1 : Ts1 < wid .f32) (lDs0 : Ds0 < wid .f32) (lDs1 : Ds1 < wid .f32) (hv : vStr nLr Lj Tk Tc0 Tc1 Tc2 Ts0 Ts1 Dk Dc0 Dc1 Dc2 Ds0 Ds1 g = false) (hm : nLr ≤ 9223372036854775807) (lpl : pl < wid .f32) (lfo : fo < wid .f32) (w : World) (rLr : Rng w bLr oLr (fl xLr)) : Cl Try.prog 5 #[.agg #[.slice ALr nLr cLr, vI Lj, vI Tk, vF Tc0, vF Tc1, vF Tc2, vF Ts0, vF Ts1, vI Dk, vF Dc0, vF Dc1, vF Dc2, vF Ds0, vF Ds1, vF g], vF pl, vF fo] w fun v w' => v = .bool true ∧ Mod [] w w' := by
  refine Cl.of Try.func5 Try.ntmps5 rfl rfl (ρ := [(0, .agg #[.slice ALr nLr cLr, vI Lj, vI Tk, vF Tc0, vF Tc1, vF Tc2, vF Ts0, vF Ts1, vI Dk, vF Dc0, vF Dc1, vF Dc2, vF Ds0, vF Ds1, vF g]), (1, vF pl), (2, vF fo)]) rfl ?_
  refine CE.seq ?_
  refine CE.region ?_
  refine WL.op (op_box (cs := [.slice ALr nLr cLr, vI Lj, vI Tk, vF Tc0, vF Tc1, vF Tc2, vF Ts0, vF Ts1, vI Dk, vF Dc0, vF Dc1, vF Dc2, vF Ds0, vF Ds1, vF g]) rfl rfl) rfl rfl (ltb rfl) ?_
  rintro _ w1 ⟨rfl, r1, m1, z1⟩
  refine WL.det (op_assign rfl) rfl rfl rfl ?_
  refine WL.end ?_
  refine NE.code ?_
  refine CE.seq ?_
  refine CE.region ?_
  refine WL.det (op_assign rfl) rfl rfl rfl ?_
  refine WL.end ?_
  refine NE.code ?_
  refine CE.seq ?_
  refine CE.region ?_
  refine WL.det (op_loadA (i := 0) (cs := [.slice ALr nLr cLr, vI Lj, vI Tk, vF Tc0, vF Tc1, vF Tc2, vF Ts0, vF Ts1, vI Dk, vF Dc0, vF Dc1, vF Dc2, vF Ds0, vF Ds1, vF g]) rfl Try.isAgg51 Try.sizeOf51 r1.rng rfl rfl rfl) rfl rfl rfl ?_
  refine WL.det (op_move rfl) rfl rfl rfl ?_
  rcases Bool.eq_false_or_eq_true (decide (1048576 < nLr)) with hb1 | hb1
  · have hp1 := hb1; try simp only [Bool.and_eq_true, Bool.or_eq_true, Bool.not_eq_true', Bool.not_eq_false', Bool.and_eq_false_iff, Bool.or_eq_false_iff, decide_eq_true_eq, decide_eq_false_iff_not, beq_iff_eq, bne_iff_ne, beq_eq_false_iff_ne, bne_eq_false_iff_eq, ne_eq, Bool.false_eq_true, not_false_eq_true, not_true_eq_false, vIn_t, vIn_f] at hp1
    refine WL.call (oc_call (vs := [.agg #[.slice ALr nLr cLr, vI Lj, vI Tk, vF Tc0, vF Tc1, vF Tc2, vF Ts0, vF Ts1, vI Dk, vF Dc0, vF Dc1, vF Dc2, vF Ds0, vF Ds1, vF g], vI 1048576]) (cap := []) rfl rfl rfl Try.call25 (c_szString_over 1048576 nLr cLr ALr Lj Tk Tc0 Tc1 Tc2 Ts0 Ts1 Dk Dc0 Dc1 Dc2 Ds0 Ds1 g (by omega) (by omega) (by omega) w1)) rfl rfl (ltb rfl) ?_
    rintro _ w2 ⟨rfl, m2⟩
    refine WL.det (op_assign rfl) rfl rfl rfl ?_
    refine WL.end ?_
    refine NE.code ?_
    refine CE.seq ?_
    refine CE.seq ?_
    refine CE.region ?_
    refine WL.det (op_move rfl) rfl rfl rfl ?_
    refine WL.det (op_lti rfl rfl) rfl rfl rfl ?_
    refine WL.end ?_
    refine NE.code ?_
    refine CE.cond_t rfl rfl ?_
    refine CE.seq ?_
    refine CE.region ?_
    refine WL.det (op_assign rfl) rfl rfl rfl ?_
    refine WL.end ?_
    refine NE.code ?_
    refine CE.ret' ?_
    refine XE.ret_then ?_
    refine XE.leave1 Try.results5 rfl ?_
    refine ⟨rfl, (((Mod.refl [] w).nt m1).nt m2)⟩
  · have hp1 := hb1; try simp only [Bool.and_eq_true, Bool.or_eq_true, Bool.not_eq_true', Bool.not_eq_false', Bool.and_eq_false_iff, Bool.or_eq_false_iff, decide_eq_true_eq, decide_eq_false_iff_not, beq_iff_eq, bne_iff_ne, beq_eq_false_iff_ne, bne_eq_false_iff_eq, ne_eq, Bool.false_eq_true, not_false_eq_true, not_true_eq_false, vIn_t, vIn_f] at hp1
    refine WL.call (oc_call (vs := [.agg #[.slice ALr nLr cLr, vI Lj, vI Tk, vF Tc0, vF Tc1, vF Tc2, vF Ts0, vF Ts1, vI Dk, vF Dc0, vF Dc1, vF Dc2, vF Ds0, vF Ds1, vF g], vI 1048576]) (cap := []) rfl rfl rfl Try.call25 (c_szString 1048576 nLr cLr ALr Lj Tk Tc0 Tc1 Tc2 Ts0 Ts1 Dk Dc0 Dc1 Dc2 Ds0 Ds1 g (by omega) (by omega) w1)) rfl rfl (ltb rfl) ?_
    rintro _ w3 ⟨rfl, m3⟩
    refine WL.det (op_assign rfl) rfl rfl rfl ?_
    refine WL.end ?_
    refine NE.code ?_
    refine CE.seq ?_
    refine CE.seq ?_
    refine CE.region ?_
    refine WL.det (op_move rfl) rfl rfl rfl ?_
    refine WL.det (op_lti_f rfl rfl (by omega)) rfl rfl rfl ?_
    refine WL.end ?_
    refine NE.code ?_
    refine CE.cond_f rfl rfl ?_
    refine CE.skip' ?_
    refine NE.code ?_
    refine CE.seq ?_
    refine CE.region ?_
    refine WL.det (op_loadA (i := 0) (cs := [.slice ALr nLr cLr, vI Lj, vI Tk, vF Tc0, vF Tc1, vF Tc2, vF Ts0, vF Ts1, vI Dk, vF Dc0, vF Dc1, vF Dc2, vF Ds0, vF Ds1, vF g]) rfl Try.isAgg51 Try.sizeOf51 (r1.ext m3).rng rfl rfl rfl) rfl rfl rfl ?_
    refine WL.call (oc_call (vs := [.agg #[.slice ALr nLr cLr, vI Lj, vI Tk, vF Tc0, vF Tc1, vF Tc2, vF Ts0, vF Ts1, vI Dk, vF Dc0, vF Dc1, vF Dc2, vF Ds0, vF Ds1, vF g]]) (cap := []) rfl rfl rfl Try.call26 (c_toString nLr cLr ALr bLr oLr xLr Lj Tk Tc0 Tc1 Tc2 Ts0 Ts1 Dk Dc0 Dc1 Dc2 Ds0 Ds1 g lnLr hALr (by omega) w3 ((rLr.ext m1).ext m3))) rfl rfl (ltb rfl) ?_
    rintro _ w4 ⟨bLr'1, rfl, r2, ge1, m4⟩
    refine WL.det (op_move rfl) rfl rfl rfl ?_
    refine WL.det (op_move rfl) rfl rfl rfl ?_
    refine WL.call (oc_call (vs := [.agg #[vS bLr'1 0 nLr nLr, vI Lj, vI Tk, vF Tc0, vF Tc1, vF Tc2, vF Ts0, vF Ts1, vI Dk, vF Dc0, vF Dc1, vF Dc2, vF Ds0, vF Ds1, vF g], vF pl, vF fo]) (cap := []) rfl rfl rfl Try.call30 (c_sPluck_bad nLr nLr bLr'1 xLr Lj Tk Tc0 Tc1 Tc2 Ts0 Ts1 Dk Dc0 Dc1 Dc2 Ds0 Ds1 g pl fo lnLr (by omega) (by first | assumption | exact W32.get (by assumption) _ | decide +kernel) (by first | assumption | exact W32.get (by assumption) _ | decide +kernel) (by first | assumption | exact W32.get (by assumption) _ | decide +kernel) (by first | assumption | exact W32.get (by assumption) _ | decide +kernel) lpl lfo (by assumption) w4 r2.rng)) rfl rfl (ltb rfl) ?_
    rintro _ w5 ⟨rfl, m5⟩
    refine WL.det (op_move rfl) rfl rfl rfl ?_
    refine WL.det (op_extract rfl rfl) rfl rfl rfl ?_
    refine WL.det (op_extract rfl rfl) rfl rfl rfl ?_
    refine WL.op (op_alloc (cs := [.slice none 0 0, vI 0, vI 0, vF 0, vF 0, vF 0, vF 0, vF 0, vI 0, vF 0, vF 0, vF 0, vF 0, vF 0, vF 0]) Try.zeroValue33 rfl) rfl rfl (ltb rfl) ?_
    rintro _ w6 ⟨rfl, r3, m6, z2⟩
    refine WL.op0 (op_store (i := 0) (cs := [.slice none 0 0, vI 0, vI 0, vF 0, vF 0, vF 0, vF 0, vF 0, vI 0, vF 0, vF 0, vF 0, vF 0, vF 0, vF 0]) rfl rfl rfl Try.sizeOf33 rfl r3 rfl (lB rfl) rfl) rfl rfl ?_
    rintro _ w7 ⟨r4, m7, z3⟩
    have r5 : Row w7 w5.heap.size 0 [.slice none 0 0, vI 0, vI 0, vF 0, vF 0, vF 0, vF 0, vF 0, vI 0, vF 0, vF 0, vF 0, vF 0, vF 0, vF 0] := Row.congr r4 rfl
    refine WL.det (op_assign rfl) rfl rfl rfl ?_
    refine WL.end ?_
    refine NE.code ?_
    refine CE.seq ?_
    refine CE.region ?_
    refine WL.det (op_loadA (i := 0) (cs := [.slice ALr nLr cLr, vI Lj, vI Tk, vF Tc0, vF Tc1, vF Tc2, vF Ts0, vF Ts1, vI Dk, vF Dc0, vF Dc1, vF Dc2, vF Ds0, vF Ds1, vF g]) rfl Try.isAgg51 Try.sizeOf51 (((((r1.ext m3).ext m4).ext m5).ext m6).mod m7 (nC (lE (lL (lL r1.lt (lT (lT m3.size m4.size) m5.size)) lR)) nN)).rng rfl rfl rfl) rfl rfl rfl ?_
    refine WL.call (oc_call (vs := [.agg #[.slice ALr nLr cLr, vI Lj, vI Tk, vF Tc0, vF Tc1, vF Tc2, vF Ts0, vF Ts1, vI Dk, vF Dc0, vF Dc1, vF Dc2, vF Ds0, vF Ds1, vF g]]) (cap := []) rfl rfl rfl Try.call26 (c_toString nLr cLr ALr bLr oLr xLr Lj Tk Tc0 Tc1 Tc2 Ts0 Ts1 Dk Dc0 Dc1 Dc2 Ds0 Ds1 g lnLr hALr (by omega) w7 (Rng.youngS rLr (((((rLr.ext m1).ext m3).ext m4).ext m5).ext m6) m7 (allge_cons (lT (lT (lT (lT m1.size m3.size) m4.size) m5.size) lR) allge_nil)))) rfl rfl (ltb rfl) ?_
    rintro _ w8 ⟨bLr'2, rfl, r6, ge2, m8⟩
    refine WL.op (op_alloc (cs := [.slice none 0 0, vI 0, vI 0, vF 0, vF 0, vF 0, vF 0, vF 0, vI 0, vF 0, vF 0, vF 0, vF 0, vF 0, vF 0]) Try.zeroValue33 rfl) rfl rfl (ltb rfl) ?_
    rintro _ w9 ⟨rfl, r7, m9, z4⟩
    refine WL.op0 (op_store (i := 0) (cs := [vS bLr'2 0 nLr nLr, vI Lj, vI Tk, vF Tc0, vF Tc1, vF Tc2, vF Ts0, vF Ts1, vI Dk, vF Dc0, vF Dc1, vF Dc2, vF Ds0, vF Ds1, vF g]) rfl rfl rfl Try.sizeOf33 rfl r7 rfl (lB rfl) rfl) rfl rfl ?_
    rintro _ w10 ⟨r8, m10, z5⟩
    have r9 : Row w10 w8.heap.size 0 [vS bLr'2 0 nLr nLr, vI Lj, vI Tk, vF Tc0, vF Tc1, vF Tc2, vF Ts0, vF Ts1, vI Dk, vF Dc0, vF Dc1, vF Dc2, vF Ds0, vF Ds1, vF g] := Row.congr r8 rfl
    refine WL.end ?_
    refine NE.code ?_
    refine CE.seq ?_
    refine CE.region ?_
    refine WL.det (op_loadA (i := 0) (cs := [vS bLr'2 0 nLr nLr, vI Lj, vI Tk, vF Tc0, vF Tc1, vF Tc2, vF Ts0, vF Ts1, vI Dk, vF Dc0, vF Dc1, vF Dc2, vF Ds0, vF Ds1, vF g]) rfl Try.isAgg33 Try.sizeOf33 r9.rng rfl rfl rfl) rfl rfl rfl ?_
    refine WL.det (op_move rfl) rfl rfl rfl ?_
    refine WL.det (op_move rfl) rfl rfl rfl ?_
    refine WL.call (oc_call (vs := [.agg #[vS bLr'2 0 nLr nLr, vI Lj, vI Tk, vF Tc0, vF Tc1, vF Tc2, vF Ts0, vF Ts1, vI Dk, vF Dc0, vF Dc1, vF Dc2, vF Ds0, vF Ds1, vF g], vF pl, vF fo]) (cap := []) rfl rfl rfl Try.call31 (c_iPluck_bad nLr nLr bLr'2 xLr Lj Tk Tc0 Tc1 Tc2 Ts0 Ts1 Dk Dc0 Dc1 Dc2 Ds0 Ds1 g pl fo lnLr (by omega) (by first | assumption | exact W32.get (by assumption) _ | decide +kernel) (by first | assumption | exact W32.get (by assumption) _ | decide +kernel) (by first | assumption | exact W32.get (by assumption) _ | decide +kernel) (by first | assumption | exact W32.get (by assumption) _ | decide +kernel) lpl lfo (by assumption) w10 ((r6.ext m9).mod m10 (nC (lE (lL r6.lt lR)) nN)).rng)) rfl rfl (ltb rfl) ?_
    rintro _ w11 ⟨rfl, m11⟩
    refine WL.det (op_move rfl) rfl rfl rfl ?_
    refine WL.det (op_extract rfl rfl) rfl rfl rfl ?_
    refine WL.det (op_extract rfl rfl) rfl rfl rfl ?_
    refine WL.op (op_alloc (cs := [.slice none 0 0, vI 0, vI 0, vF 0, vF 0, vF 0, vF 0, vF 0, vI 0, vF 0, vF 0, vF 0, vF 0, vF 0, vF 0]) Try.zeroValue33 rfl) rfl rfl (ltb rfl) ?_
    rintro _ w12 ⟨rfl, r10, m12, z6⟩
    refine WL.op0 (op_store (i := 0) (cs := [.slice none 0 0, vI 0, vI 0, vF 0, vF 0, vF 0, vF 0, vF 0, vI 0, vF 0, vF 0, vF 0, vF 0, vF 0, vF 0]) rfl rfl rfl Try.sizeOf33 rfl r10 rfl (lB rfl) rfl) rfl rfl ?_
    rintro _ w13 ⟨r11, m13, z7⟩
    have r12 : Row w13 w11.heap.size 0 [.slice none 0 0, vI 0, vI 0, vF 0, vF 0, vF 0, vF 0, vF 0, vI 0, vF 0, vF 0, vF 0, vF 0, vF 0, vF 0] := Row.congr r11 rfl
    refine WL.det (op_assign rfl) rfl rfl rfl ?_
    refine WL.end ?_
    refine NE.code ?_
    refine CE.seq ?_
    refine CE.seq ?_
    refine CE.region ?_
    refine WL.det (op_loadA (i := 0) (cs := [.slice none 0 0, vI 0, vI 0, vF 0, vF 0, vF 0, vF 0, vF 0, vI 0, vF 0, vF 0, vF 0, vF 0, vF 0, vF 0]) rfl Try.isAgg33 Try.sizeOf33 r12.rng rfl rfl rfl) rfl rfl rfl ?_
    refine WL.det (op_loadA (i := 0) (cs := [.slice none 0 0, vI 0, vI 0, vF 0, vF 0, vF 0, vF 0, vF 0, vI 0, vF 0, vF 0, vF 0, vF 0, vF 0, vF 0]) rfl Try.isAgg33 Try.sizeOf33 ((((((r5.ext m8).ext m9).mod m10 (nC (lE (lL (lL r3.lt (lT m7.size m8.size)) lR)) nN)).ext m11).ext m12).mod m13 (nC (lE (lL (lL r3.lt (lT (lT (lT (lT m7.size m8.size) m9.size) m10.size) m11.size)) lR)) nN)).rng rfl rfl rfl) rfl rfl rfl ?_
    refine WL.call (oc_call (vs := [.agg #[.slice none 0 0, vI 0, vI 0, vF 0, vF 0, vF 0, vF 0, vF 0, vI 0, vF 0, vF 0, vF 0, vF 0, vF 0, vF 0], .agg #[.slice none 0 0, vI 0, vI 0, vF 0, vF 0, vF 0, vF 0, vF 0, vI 0, vF 0, vF 0, vF 0, vF 0, vF 0, vF 0]]) (cap := []) rfl rfl rfl Try.call27 (c_eqString 0 0 none 0 0 [] (0 : Int) (0 : Int) 0 0 0 0 0 0 0 0 0 0 (0 : Int) 0 0 0 0 0 0 0 0 0 0 0 0 0 none 0 0 0 0 0 0 0 0 0 0 0 0 0 rfl (fun h => absurd h (Nat.lt_irrefl _)) (fun h => absurd h (Nat.lt_irrefl _)) rfl rfl rfl rfl rfl rfl rfl rfl rfl rfl rfl rfl rfl rfl rfl rfl rfl rfl rfl rfl rfl rfl (by omega) w13 (Rng.nil _ _ _) (Rng.nil _ _ _))) rfl rfl (ltb rfl) ?_
    rintro _ w14 ⟨rfl, m14⟩
    refine WL.det (op_not rfl) rfl rfl rfl ?_
    refine WL.det (op_move rfl) rfl rfl rfl ?_
    refine WL.yes rfl rfl rfl (ltb rfl) rfl rfl ?_
    refine WL.det (op_move rfl) rfl rfl rfl ?_
    refine WL.yes rfl rfl rfl (ltb rfl) rfl rfl ?_
    refine WL.det (op_move rfl) rfl rfl rfl ?_
    refine WL.yes rfl rfl rfl (ltb rfl) rfl rfl ?_
    refine WL.det (op_nei rfl rfl) rfl rfl rfl ?_
    refine WL.det (op_pick_f rfl rfl rfl) rfl rfl rfl ?_
    refine WL.end ?_
    refine NE.code ?_
    refine CE.cond_f rfl rfl ?_
    refine CE.skip' ?_
    refine NE.code ?_
    refine CE.seq ?_
    refine CE.seq ?_
    refine CE.draw (fun | 2 => some (fun _ wA uA wB => ∃ (bLr' : Nat), uA = .agg #[vS bLr' 0 nLr nLr, vI Lj, vI Tk, vF Tc0, vF Tc1, vF Tc2, vF Ts0, vF Ts1, vI Dk, vF Dc0, vF Dc1, vF Dc2, vF Ds0, vF Ds1, vF g] ∧ Row wB bLr' 0 (fl xLr) ∧ wA.heap.size ≤ bLr' ∧ Mod [] wA wB) | _ => none) [0, 1, 2] [3, 4] [] (by kernel_rfl) (by kernel_rfl) ?_
    have md1 : Mod [] w14 w14.drew := (Mod.refl _ _).drew
    generalize w14.drew = w15 at md1 ⊢
    refine DR.det (i := 0) rfl rfl (by kernel_rfl) (.free rfl) rfl rfl (fun wD mD => op_loadA (i := 0) (cs := [vS bLr'2 0 nLr nLr, vI Lj, vI Tk, vF Tc0, vF Tc1, vF Tc2, vF Ts0, vF Ts1, vI Dk, vF Dc0, vF Dc1, vF Dc2, vF Ds0, vF Ds1, vF g]) rfl Try.isAgg33 Try.sizeOf33 ((((((r9.ext m11).ext m12).mod m13 (nC (lE (lL (lL r7.lt (lT m10.size m11.size)) lR)) nN)).ext m14).ext md1).ext mD).rng rfl rfl rfl) ?_
    refine DR.det (i := 1) rfl rfl (by kernel_rfl) (.free rfl) rfl rfl (fun wD mD => op_loadA (i := 0) (cs := [.slice ALr nLr cLr, vI Lj, vI Tk, vF Tc0, vF Tc1, vF Tc2, vF Ts0, vF Ts1, vI Dk, vF Dc0, vF Dc1, vF Dc2, vF Ds0, vF Ds1, vF g]) rfl Try.isAgg51 Try.sizeOf51 ((((((((((((((r1.ext m3).ext m4).ext m5).ext m6).mod m7 (nC (lE (lL (lL r1.lt (lT (lT m3.size m4.size) m5.size)) lR)) nN)).ext m8).ext m9).mod m10 (nC (lE (lL (lL r1.lt (lT (lT (lT (lT (lT m3.size m4.size) m5.size) m6.size) m7.size) m8.size)) lR)) nN)).ext m11).ext m12).mod m13 (nC (lE (lL (lL r1.lt (lT (lT (lT (lT (lT (lT (lT (lT m3.size m4.size) m5.size) m6.size) m7.size) m8.size) m9.size) m10.size) m11.size)) lR)) nN)).ext m14).ext md1).ext mD).rng rfl rfl rfl) ?_
    refine DR.one (i := 2) rfl rfl (by kernel_rfl) (.free rfl) rfl (ltb rfl) (vs := [.func (.func 26) #[] #[], .agg #[.slice ALr nLr cLr, vI Lj, vI Tk, vF Tc0, vF Tc1, vF Tc2, vF Ts0, vF Ts1, vI Dk, vF Dc0, vF Dc1, vF Dc2, vF Ds0, vF Ds1, vF g]]) rfl ?_
    intro w16 m15
    refine ⟨oc_call (vs := [.agg #[.slice ALr nLr cLr, vI Lj, vI Tk, vF Tc0, vF Tc1, vF Tc2, vF Ts0, vF Ts1, vI Dk, vF Dc0, vF Dc1, vF Dc2, vF Ds0, vF Ds1, vF g]]) (cap := []) rfl rfl rfl Try.call26 (c_toString nLr cLr ALr bLr oLr xLr Lj Tk Tc0 Tc1 Tc2 Ts0 Ts1 Dk Dc0 Dc1 Dc2 Ds0 Ds1 g lnLr hALr (by omega) w16 ((((Rng.youngS rLr (((Rng.youngS rLr (((Rng.youngS rLr (((((rLr.ext m1).ext m3).ext m4).ext m5).ext m6) m7 (allge_cons (lT (lT (lT (lT m1.size m3.size) m4.size) m5.size) lR) allge_nil)).ext m8).ext m9) m10 (allge_cons (lT (lT (lT (lT (lT (lT (lT m1.size m3.size) m4.size) m5.size) m6.size) m7.size) m8.size) lR) allge_nil)).ext m11).ext m12) m13 (allge_cons (lT (lT (lT (lT (lT (lT (lT (lT (lT (lT m1.size m3.size) m4.size) m5.size) m6.size) m7.size) m8.size) m9.size) m10.size) m11.size) lR) allge_nil)).ext m14).ext md1).ext m15)), ?_⟩
    rintro _ w17 ⟨bLr'3, rfl, r13, ge3, m16⟩
    refine ⟨(((Mod.refl [] w15).nt m15).nt m16), ?_⟩
    refine DR.done rfl ?_
    intro w18 m17
    refine WO.call rfl (.free rfl) rfl (ltb rfl) (oc_call (vs := [.agg #[vS bLr'2 0 nLr nLr, vI Lj, vI Tk, vF Tc0, vF Tc1, vF Tc2, vF Ts0, vF Ts1, vI Dk, vF Dc0, vF Dc1, vF Dc2, vF Ds0, vF Ds1, vF g], .agg #[vS bLr'3 0 nLr nLr, vI Lj, vI Tk, vF Tc0, vF Tc1, vF Tc2, vF Ts0, vF Ts1, vI Dk, vF Dc0, vF Dc1, vF Dc2, vF Ds0, vF Ds1, vF g]]) (cap := []) rfl rfl rfl Try.call27 (c_eqString nLr nLr (some ⟨bLr'2, 0, none⟩) bLr'2 0 xLr Lj Tk Tc0 Tc0 Tc1 Tc1 Tc2 Tc2 Ts0 Ts0 Ts1 Ts1 Dk Dc0 Dc0 Dc1 Dc1 Dc2 Dc2 Ds0 Ds0 Ds1 Ds1 g g nLr (some ⟨bLr'3, 0, none⟩) bLr'3 0 Tc0 Tc1 Tc2 Ts0 Ts1 Dc0 Dc1 Dc2 Ds0 Ds1 g lnLr (fun _ => rfl) (fun _ => rfl) rfl rfl rfl rfl rfl rfl rfl rfl rfl rfl rfl rfl rfl rfl rfl rfl rfl rfl rfl rfl rfl rfl (by omega) w18 ((((((((((r6.ext m9).mod m10 (nC (lE (lL r6.lt lR)) nN)).ext m11).ext m12).mod m13 (nC (lE (lL (lL r6.lt (lT (lT m9.size m10.size) m11.size)) lR)) nN)).ext m14).ext md1).ext m15).ext m16).ext m17).rng (r13.ext m17).rng)) ?_
    rintro _ w19 ⟨rfl, m18⟩
    refine WO.det (op_not rfl) rfl (.free rfl) rfl rfl ?_
    refine WO.end ?_
    refine NE.code ?_
    refine CE.cond_f rfl rfl ?_
    refine CE.skip' ?_
    refine NE.code ?_
    refine CE.seq ?_
    refine CE.region ?_
    refine WL.det (op_assign rfl) rfl rfl rfl ?_
    refine WL.end ?_
    refine NE.code ?_
    refine CE.seq ?_
    refine CE.region ?_
    refine WL.det (op_loadA (i := 0) (cs := [vS bLr'2 0 nLr nLr, vI Lj, vI Tk, vF Tc0, vF Tc1, vF Tc2, vF Ts0, vF Ts1, vI Dk, vF Dc0, vF Dc1, vF Dc2, vF Ds0, vF Ds1, vF g]) rfl Try.isAgg33 Try.sizeOf33 (((((((((r9.ext m11).ext m12).mod m13 (nC (lE (lL (lL r7.lt (lT m10.size m11.size)) lR)) nN)).ext m14).ext md1).ext m15).ext m16).ext m17).ext m18).rng rfl rfl rfl) rfl rfl rfl ?_
    refine WL.det (op_move rfl) rfl rfl rfl ?_
    refine WL.call (oc_call (vs := [.agg #[vS bLr'2 0 nLr nLr, vI Lj, vI Tk, vF Tc0, vF Tc1, vF Tc2, vF Ts0, vF Ts1, vI Dk, vF Dc0, vF Dc1, vF Dc2, vF Ds0, vF Ds1, vF g], vI 1]) (cap := []) rfl rfl rfl Try.call28 (c_markString nLr nLr bLr'2 xLr Lj Tk Tc0 Tc1 Tc2 Ts0 Ts1 Dk Dc0 Dc1 Dc2 Ds0 Ds1 g 1 lnLr (by omega) (by omega) w19 (((((((((((r6.ext m9).mod m10 (nC (lE (lL r6.lt lR)) nN)).ext m11).ext m12).mod m13 (nC (lE (lL (lL r6.lt (lT (lT m9.size m10.size) m11.size)) lR)) nN)).ext m14).ext md1).ext m15).ext m16).ext m17).ext m18))) rfl rfl (ltb rfl) ?_
    rintro _ w20 ⟨rfl, r14, m19⟩
    refine WL.det (op_assign rfl) rfl rfl rfl ?_
    refine WL.end ?_
    refine NE.code ?_
    refine CE.seq ?_
    refine CE.seq ?_
    refine CE.region ?_
    refine WL.det (op_move rfl) rfl rfl rfl ?_
    refine WL.det (op_lti_f rfl rfl (by omega)) rfl rfl rfl ?_
    refine WL.det (op_move rfl) rfl rfl rfl ?_
    refine WL.yes rfl rfl rfl (ltb rfl) rfl rfl ?_
    refine WL.det (op_loadA (i := 0) (cs := [.slice none 0 0, vI 0, vI 0, vF 0, vF 0, vF 0, vF 0, vF 0, vI 0, vF 0, vF 0, vF 0, vF 0, vF 0, vF 0]) rfl Try.isAgg33 Try.sizeOf33 (((((((r12.ext m14).ext md1).ext m15).ext m16).ext m17).ext m18).mod m19 (nC (lG (lL (lL r6.lt (lT (lT m9.size m10.size) m11.size)) lR)) nN)).rng rfl rfl rfl) rfl rfl rfl ?_
    refine WL.yes rfl rfl rfl (ltb rfl) rfl rfl ?_
    refine WL.det (op_loadA (i := 0) (cs := [.slice none 0 0, vI 0, vI 0, vF 0, vF 0, vF 0, vF 0, vF 0, vI 0, vF 0, vF 0, vF 0, vF 0, vF 0, vF 0]) rfl Try.isAgg33 Try.sizeOf33 (((((((((((((r5.ext m8).ext m9).mod m10 (nC (lE (lL (lL r3.lt (lT m7.size m8.size)) lR)) nN)).ext m11).ext m12).mod m13 (nC (lE (lL (lL r3.lt (lT (lT (lT (lT m7.size m8.size) m9.size) m10.size) m11.size)) lR)) nN)).ext m14).ext md1).ext m15).ext m16).ext m17).ext m18).mod m19 (nC (lE (lL (lL r3.lt m7.size) ge2)) nN)).rng rfl rfl rfl) rfl rfl rfl ?_
    refine WL.yes rfl rfl rfl (ltb rfl) rfl rfl ?_
    refine WL.call (oc_call (vs := [.agg #[.slice none 0 0, vI 0, vI 0, vF 0, vF 0, vF 0, vF 0, vF 0, vI 0, vF 0, vF 0, vF 0, vF 0, vF 0, vF 0], .agg #[.slice none 0 0, vI 0, vI 0, vF 0, vF 0, vF 0, vF 0, vF 0, vI 0, vF 0, vF 0, vF 0, vF 0, vF 0, vF 0]]) (cap := []) rfl rfl rfl Try.call27 (c_eqString 0 0 none 0 0 [] (0 : Int) (0 : Int) 0 0 0 0 0 0 0 0 0 0 (0 : Int) 0 0 0 0 0 0 0 0 0 0 0 0 0 none 0 0 0 0 0 0 0 0 0 0 0 0 0 rfl (fun h => absurd h (Nat.lt_irrefl _)) (fun h => absurd h (Nat.lt_irrefl _)) rfl rfl rfl rfl rfl rfl rfl rfl rfl rfl rfl rfl rfl rfl rfl rfl rfl rfl rfl rfl rfl rfl (by omega) w20 (Rng.nil _ _ _) (Rng.nil _ _ _))) rfl rfl (ltb rfl) ?_
    rintro _ w21 ⟨rfl, m20⟩
    refine WL.yes rfl rfl rfl (ltb rfl) rfl rfl ?_
    refine WL.det (op_not rfl) rfl rfl rfl ?_
    refine WL.det (op_pick_f rfl rfl rfl) rfl rfl rfl ?_
    refine WL.det (op_move rfl) rfl rfl rfl ?_
    refine WL.yes rfl rfl rfl (ltb rfl) rfl rfl ?_
    refine WL.det (op_move rfl) rfl rfl rfl ?_
    refine WL.yes rfl rfl rfl (ltb rfl) rfl rfl ?_
    refine WL.det (op_move rfl) rfl rfl rfl ?_
    refine WL.yes rfl rfl rfl (ltb rfl) rfl rfl ?_
    refine WL.det (op_nei rfl rfl) rfl rfl rfl ?_
    refine WL.det (op_pick_f rfl rfl rfl) rfl rfl rfl ?_
    refine WL.end ?_
    refine NE.code ?_
    refine CE.cond_f rfl rfl ?_
    refine CE.skip' ?_
    refine NE.code ?_
    refine CE.seq ?_
    refine CE.region ?_
    refine WL.det (op_assign rfl) rfl rfl rfl ?_
    refine WL.end ?_
    refine NE.code ?_
    refine CE.seq ?_
    refine CE.region ?_
    refine WL.det (op_loadA (i := 0) (cs := [.slice none 0 0, vI 0, vI 0, vF 0, vF 0, vF 0, vF 0, vF 0, vI 0, vF 0, vF 0, vF 0, vF 0, vF 0, vF 0]) rfl Try.isAgg33 Try.sizeOf33 ((((((((r12.ext m14).ext md1).ext m15).ext m16).ext m17).ext m18).mod m19 (nC (lG (lL (lL r6.lt (lT (lT m9.size m10.size) m11.size)) lR)) nN)).ext m20).rng rfl rfl rfl) rfl rfl rfl ?_
    refine WL.det (op_move rfl) rfl rfl rfl ?_
    refine WL.call (oc_call (vs := [.agg #[.slice none 0 0, vI 0, vI 0, vF 0, vF 0, vF 0, vF 0, vF 0, vI 0, vF 0, vF 0, vF 0, vF 0, vF 0, vF 0], vI 1]) (cap := []) rfl rfl rfl Try.call28 (c_markString_nil (0 : Int) (0 : Int) 0 0 0 0 0 (0 : Int) 0 0 0 0 0 0 1 (by omega) w21)) rfl rfl (ltb rfl) ?_
    rintro _ w22 ⟨rfl, m21⟩
    refine WL.det (op_assign rfl) rfl rfl rfl ?_
    refine WL.end ?_
    refine NE.code ?_
    refine CE.seq ?_
    refine CE.region ?_
    refine WL.det (op_assign rfl) rfl rfl rfl ?_
    refine WL.end ?_
    refine NE.code ?_
    refine CE.seq ?_
    refine CE.region ?_
    refine WL.det (op_loadA (i := 0) (cs := [.slice none 0 0, vI 0, vI 0, vF 0, vF 0, vF 0, vF 0, vF 0, vI 0, vF 0, vF 0, vF 0, vF 0, vF 0, vF 0]) rfl Try.isAgg33 Try.sizeOf33 (((((((((r12.ext m14).ext md1).ext m15).ext m16).ext m17).ext m18).mod m19 (nC (lG (lL (lL r6.lt (lT (lT m9.size m10.size) m11.size)) lR)) nN)).ext m20).ext m21).rng rfl rfl rfl) rfl rfl rfl ?_
    refine WL.det (op_move rfl) rfl rfl rfl ?_
    refine WL.call (oc_call (vs := [.agg #[.slice none 0 0, vI 0, vI 0, vF 0, vF 0, vF 0, vF 0, vF 0, vI 0, vF 0, vF 0, vF 0, vF 0, vF 0, vF 0], vI 1]) (cap := []) rfl rfl rfl Try.call29 (c_heldString_nil (0 : Int) (0 : Int) 0 0 0 0 0 (0 : Int) 0 0 0 0 0 0 1 (by omega) w22)) rfl rfl (ltb rfl) ?_
    rintro _ w23 ⟨rfl, m22⟩
    refine WL.det (op_assign rfl) rfl rfl rfl ?_
    refine WL.end ?_
    refine NE.code ?_
    refine CE.seq ?_
    refine CE.seq ?_
    refine CE.region ?_
    refine WL.det (op_move rfl) rfl rfl rfl ?_
    refine WL.det (op_lti rfl rfl) rfl rfl rfl ?_
    refine WL.end ?_
    refine NE.code ?_
    refine CE.cond_f rfl rfl ?_
    refine CE.skip' ?_
    refine NE.code ?_
    refine CE.seq ?_
    refine CE.seq ?_
    refine CE.region ?_
    refine WL.det (op_move rfl) rfl rfl rfl ?_
    refine WL.det (op_move rfl) rfl rfl rfl ?_
    refine WL.det (op_nei rfl rfl) rfl rfl rfl ?_
    refine WL.end ?_
    refine NE.code ?_
    refine CE.cond_f rfl rfl ?_
    refine CE.skip' ?_
    refine NE.code ?_
    refine CE.seq ?_
    refine CE.region ?_
    refine WL.det (op_loadA (i := 0) (cs := [.slice ALr nLr cLr, vI Lj, vI Tk, vF Tc0, vF Tc1, vF Tc2, vF Ts0, vF Ts1, vI Dk, vF Dc0, vF Dc1, vF Dc2, vF Ds0, vF Ds1, vF g]) rfl Try.isAgg51 Try.sizeOf51 (((((((((((((((((((((r1.ext m3).ext m4).ext m5).ext m6).mod m7 (nC (lE (lL (lL r1.lt (lT (lT m3.size m4.size) m5.size)) lR)) nN)).ext m8).ext m9).mod m10 (nC (lE (lL (lL r1.lt (lT (lT (lT (lT (lT m3.size m4.size) m5.size) m6.size) m7.size) m8.size)) lR)) nN)).ext m11).ext m12).mod m13 (nC (lE (lL (lL r1.lt (lT (lT (lT (lT (lT (lT (lT (lT m3.size m4.size) m5.size) m6.size) m7.size) m8.size) m9.size) m10.size) m11.size)) lR)) nN)).ext m14).ext md1).ext m15).ext m16).ext m17).ext m18).mod m19 (nC (lE (lL (lL r1.lt (lT (lT (lT (lT m3.size m4.size) m5.size) m6.size) m7.size)) ge2)) nN)).ext m20).ext m21).ext m22).rng rfl rfl rfl) rfl rfl rfl ?_
    refine WL.call (oc_call (vs := [.agg #[.slice ALr nLr cLr, vI Lj, vI Tk, vF Tc0, vF Tc1, vF Tc2, vF Ts0, vF Ts1, vI Dk, vF Dc0, vF Dc1, vF Dc2, vF Ds0, vF Ds1, vF g]]) (cap := []) rfl rfl rfl Try.call26 (c_toString nLr cLr ALr bLr oLr xLr Lj Tk Tc0 Tc1 Tc2 Ts0 Ts1 Dk Dc0 Dc1 Dc2 Ds0 Ds1 g lnLr hALr (by omega) w23 ((((Rng.youngS rLr (((((((Rng.youngS rLr (((Rng.youngS rLr (((Rng.youngS rLr (((((rLr.ext m1).ext m3).ext m4).ext m5).ext m6) m7 (allge_cons (lT (lT (lT (lT m1.size m3.size) m4.size) m5.size) lR) allge_nil)).ext m8).ext m9) m10 (allge_cons (lT (lT (lT (lT (lT (lT (lT m1.size m3.size) m4.size) m5.size) m6.size) m7.size) m8.size) lR) allge_nil)).ext m11).ext m12) m13 (allge_cons (lT (lT (lT (lT (lT (lT (lT (lT (lT (lT m1.size m3.size) m4.size) m5.size) m6.size) m7.size) m8.size) m9.size) m10.size) m11.size) lR) allge_nil)).ext m14).ext md1).ext m15).ext m16).ext m17).ext m18) m19 (allge_cons (lT (lT (lT (lT (lT (lT m1.size m3.size) m4.size) m5.size) m6.size) m7.size) ge2) allge_nil)).ext m20).ext m21).ext m22))) rfl rfl (ltb rfl) ?_
    rintro _ w24 ⟨bLr'4, rfl, r15, ge4, m23⟩
    refine WL.det (op_move rfl) rfl rfl rfl ?_
    refine WL.det (op_move rfl) rfl rfl rfl ?_
    refine WL.call (oc_call (vs := [.agg #[vS bLr'4 0 nLr nLr, vI Lj, vI Tk, vF Tc0, vF Tc1, vF Tc2, vF Ts0, vF Ts1, vI Dk, vF Dc0, vF Dc1, vF Dc2, vF Ds0, vF Ds1, vF g], vF pl, vF fo]) (cap := []) rfl rfl rfl Try.call31 (c_iPluck_bad nLr nLr bLr'4 xLr Lj Tk Tc0 Tc1 Tc2 Ts0 Ts1 Dk Dc0 Dc1 Dc2 Ds0 Ds1 g pl fo lnLr (by omega) (by first | assumption | exact W32.get (by assumption) _ | decide +kernel) (by first | assumption | exact W32.get (by assumption) _ | decide +kernel) (by first | assumption | exact W32.get (by assumption) _ | decide +kernel) (by first | assumption | exact W32.get (by assumption) _ | decide +kernel) lpl lfo (by assumption) w24 r15.rng)) rfl rfl (ltb rfl) ?_
    rintro _ w25 ⟨rfl, m24⟩
    refine WL.det (op_move rfl) rfl rfl rfl ?_
    refine WL.det (op_extract rfl rfl) rfl rfl rfl ?_
    refine WL.det (op_extract rfl rfl) rfl rfl rfl ?_
    refine WL.op (op_alloc (cs := [.slice none 0 0, vI 0, vI 0, vF 0, vF 0, vF 0, vF 0, vF 0, vI 0, vF 0, vF 0, vF 0, vF 0, vF 0, vF 0]) Try.zeroValue33 rfl) rfl rfl (ltb rfl) ?_
    rintro _ w26 ⟨rfl, r16, m25, z8⟩
    refine WL.op0 (op_store (i := 0) (cs := [.slice none 0 0, vI 0, vI 0, vF 0, vF 0, vF 0, vF 0, vF 0, vI 0, vF 0, vF 0, vF 0, vF 0, vF 0, vF 0]) rfl rfl rfl Try.sizeOf33 rfl r16 rfl (lB rfl) rfl) rfl rfl ?_
    rintro _ w27 ⟨r17, m26, z9⟩
    have r18 : Row w27 w25.heap.size 0 [.slice none 0 0, vI 0, vI 0, vF 0, vF 0, vF 0, vF 0, vF 0, vI 0, vF 0, vF 0, vF 0, vF 0, vF 0, vF 0] := Row.congr r17 rfl
    refine WL.det (op_assign rfl) rfl rfl rfl ?_
    refine WL.end ?_
    refine NE.code ?_
    refine CE.seq ?_
    refine CE.seq ?_
    refine CE.region ?_
    refine WL.det (op_loadA (i := 0) (cs := [.slice none 0 0, vI 0, vI 0, vF 0, vF 0, vF 0, vF 0, vF 0, vI 0, vF 0, vF 0, vF 0, vF 0, vF 0, vF 0]) rfl Try.isAgg33 Try.sizeOf33 r18.rng rfl rfl rfl) rfl rfl rfl ?_
    refine WL.det (op_loadA (i := 0) (cs := [.slice none 0 0, vI 0, vI 0, vF 0, vF 0, vF 0, vF 0, vF 0, vI 0, vF 0, vF 0, vF 0, vF 0, vF 0, vF 0]) rfl Try.isAgg33 Try.sizeOf33 ((((((((((((((((((((r5.ext m8).ext m9).mod m10 (nC (lE (lL (lL r3.lt (lT m7.size m8.size)) lR)) nN)).ext m11).ext m12).mod m13 (nC (lE (lL (lL r3.lt (lT (lT (lT (lT m7.size m8.size) m9.size) m10.size) m11.size)) lR)) nN)).ext m14).ext md1).ext m15).ext m16).ext m17).ext m18).mod m19 (nC (lE (lL (lL r3.lt m7.size) ge2)) nN)).ext m20).ext m21).ext m22).ext m23).ext m24).ext m25).mod m26 (nC (lE (lL (lL r3.lt (lT (lT (lT (lT (lT (lT (lT (lT (lT (lT (lT (lT (lT (lT (lT (lT (lT (lT m7.size m8.size) m9.size) m10.size) m11.size) m12.size) m13.size) m14.size) md1.size) m15.size) m16.size) m17.size) m18.size) m19.size) m20.size) m21.size) m22.size) m23.size) m24.size)) lR)) nN)).rng rfl rfl rfl) rfl rfl rfl ?_
    refine WL.call (oc_call (vs := [.agg #[.slice none 0 0, vI 0, vI 0, vF 0, vF 0, vF 0, vF 0, vF 0, vI 0, vF 0, vF 0, vF 0, vF 0, vF 0, vF 0], .agg #[.slice none 0 0, vI 0, vI 0, vF 0, vF 0, vF 0, vF 0, vF 0, vI 0, vF 0, vF 0, vF 0, vF 0, vF 0, vF 0]]) (cap := []) rfl rfl rfl Try.call27 (c_eqString 0 0 none 0 0 [] (0 : Int) (0 : Int) 0 0 0 0 0 0 0 0 0 0 (0 : Int) 0 0 0 0 0 0 0 0 0 0 0 0 0 none 0 0 0 0 0 0 0 0 0 0 0 0 0 rfl (fun h => absurd h (Nat.lt_irrefl _)) (fun h => absurd h (Nat.lt_irrefl _)) rfl rfl rfl rfl rfl rfl rfl rfl rfl rfl rfl rfl rfl rfl rfl rfl rfl rfl rfl rfl rfl rfl (by omega) w27 (Rng.nil _ _ _) (Rng.nil _ _ _))) rfl rfl (ltb rfl) ?_
    rintro _ w28 ⟨rfl, m27⟩
    refine WL.det (op_not rfl) rfl rfl rfl ?_
    refine WL.det (op_move rfl) rfl rfl rfl ?_
    refine WL.yes rfl rfl rfl (ltb rfl) rfl rfl ?_
    refine WL.det (op_move rfl) rfl rfl rfl ?_
    refine WL.yes rfl rfl rfl (ltb rfl) rfl rfl ?_
    refine WL.det (op_move rfl) rfl rfl rfl ?_
    refine WL.yes rfl rfl rfl (ltb rfl) rfl rfl ?_
    refine WL.det (op_nei rfl rfl) rfl rfl rfl ?_
    refine WL.det (op_pick_f rfl rfl rfl) rfl rfl rfl ?_
    refine WL.end ?_
    refine NE.code ?_
    refine CE.cond_f rfl rfl ?_
    refine CE.skip' ?_
    refine NE.code ?_
    refine CE.seq ?_
    refine CE.region ?_
    refine WL.det (op_assign rfl) rfl rfl rfl ?_
    refine WL.end ?_
    refine NE.code ?_
    refine CE.seq ?_
    refine CE.region ?_
    refine WL.det (op_loadA (i := 0) (cs := [.slice none 0 0, vI 0, vI 0, vF 0, vF 0, vF 0, vF 0, vF 0, vI 0, vF 0, vF 0, vF 0, vF 0, vF 0, vF 0]) rfl Try.isAgg33 Try.sizeOf33 (((((((((((((((r12.ext m14).ext md1).ext m15).ext m16).ext m17).ext m18).mod m19 (nC (lG (lL (lL r6.lt (lT (lT m9.size m10.size) m11.size)) lR)) nN)).ext m20).ext m21).ext m22).ext m23).ext m24).ext m25).mod m26 (nC (lE (lL (lL r10.lt (lT (lT (lT (lT (lT (lT (lT (lT (lT (lT (lT (lT m13.size m14.size) md1.size) m15.size) m16.size) m17.size) m18.size) m19.size) m20.size) m21.size) m22.size) m23.size) m24.size)) lR)) nN)).ext m27).rng rfl rfl rfl) rfl rfl rfl ?_
    refine WL.det (op_move rfl) rfl rfl rfl ?_
    refine WL.call (oc_call (vs := [.agg #[.slice none 0 0, vI 0, vI 0, vF 0, vF 0, vF 0, vF 0, vF 0, vI 0, vF 0, vF 0, vF 0, vF 0, vF 0, vF 0], vI 1]) (cap := []) rfl rfl rfl Try.call29 (c_heldString_nil (0 : Int) (0 : Int) 0 0 0 0 0 (0 : Int) 0 0 0 0 0 0 1 (by omega) w28)) rfl rfl (ltb rfl) ?_
    rintro _ w29 ⟨rfl, m28⟩
    refine WL.det (op_assign rfl) rfl rfl rfl ?_
    refine WL.end ?_
    refine NE.code ?_
    refine CE.seq ?_
    refine CE.seq ?_
    refine CE.region ?_
    refine WL.det (op_move rfl) rfl rfl rfl ?_
    refine WL.det (op_lti rfl rfl) rfl rfl rfl ?_
    refine WL.end ?_
    refine NE.code ?_
    refine CE.cond_f rfl rfl ?_
    refine CE.skip' ?_
    refine NE.code ?_
    refine CE.seq ?_
    refine CE.seq ?_
    refine CE.region ?_
    refine WL.det (op_move rfl) rfl rfl rfl ?_
    refine WL.det (op_move rfl) rfl rfl rfl ?_
    refine WL.det (op_nei rfl rfl) rfl rfl rfl ?_
    refine WL.end ?_
    refine NE.code ?_
    refine CE.cond_f rfl rfl ?_
    refine CE.skip' ?_
    refine NE.code ?_
    refine CE.seq ?_
    refine CE.region ?_
    refine WL.det (op_assign rfl) rfl rfl rfl ?_
    refine WL.end ?_
    refine NE.code ?_
    refine CE.ret' ?_
    refine XE.leave1 Try.results5 rfl ?_
    refine ⟨rfl, (((((((((((((((((((((((((((((Mod.refl [] w).nt m1).nt m3).nt m4).nt m5).nt m6).then m7 ((aC (.inr (lT (lT (lT (lT m1.size m3.size) m4.size) m5.size) lR)) aN))).nt m8).nt m9).then m10 ((aC (.inr (lT (lT (lT (lT (lT (lT (lT m1.size m3.size) m4.size) m5.size) m6.size) m7.size) m8.size) lR)) aN))).nt m11).nt m12).then m13 ((aC (.inr (lT (lT (lT (lT (lT (lT (lT (lT (lT (lT m1.size m3.size) m4.size) m5.size) m6.size) m7.size) m8.size) m9.size) m10.size) m11.size) lR)) aN))).nt m14).nt md1).nt m15).nt m16).nt m17).nt m18).then m19 ((aC (.inr (lT (lT (lT (lT (lT (lT m1.size m3.size) m4.size) m5.size) m6.size) m7.size) ge2)) aN))).nt m20).nt m21).nt m22).nt m23).nt m24).nt m25).then m26 ((aC (.inr (lT (lT (lT (lT (lT (lT (lT (lT (lT (lT (lT (lT (lT (lT (lT (lT (lT (lT (lT (lT (lT (lT (lT (lT m1.size m3.size) m4.size) m5.size) m6.size) m7.size) m8.size) m9.size) m10.size) m11.size) m12.size) m13.size) m14.size) md1.size) m15.size) m16.size) m17.size) m18.size) m19.size) m20.size) m21.size) m22.size) m23.size) m24.size) lR)) aN))).nt m27).nt m28)⟩

end Go.Proofs.Ytabfdgpldcegiaa
