/- The law on plucking a string, walked. -/
import Derived.Test.YtabfdgpldcegiaaG6
import Derived.Test.YtabfdgpldcegiaaE8
set_option linter.unusedVariables false
set_option linter.unusedSimpArgs false
namespace Go.Proofs.Ytabfdgpldcegiaa

set_option maxRecDepth 100000 in
set_option maxHeartbeats 2000000 in
theorem law_pluck (nLr : Nat) (cLr : Nat) (ALr : Option Addr) (bLr : Nat) (oLr : Nat) (xLr : List Nat) (Tk : Int) (Tc0 : Nat) (Tc1 : Nat) (Tc2 : Nat) (Ts0 : Nat) (Ts1 : Nat) (Dk : Int) (Dc0 : Nat) (Dc1 : Nat) (Dc2 : Nat) (Ds0 : Nat) (Ds1 : Nat) (g : Nat) (i : Nat) (pl : Nat) (fo : Nat) (lnLr : xLr.length = nLr) (hALr : 0 < nLr → ALr = some ⟨bLr, oLr, none⟩) (wLr : W32 xLr) (hi : i < nLr) (hn : nLr ≤ 1024) (lTs0 : Ts0 < wid .f32) (lTs1 : Ts1 < wid .f32) (lDs0 : Ds0 < wid .f32) (lDs1 : Ds1 < wid .f32) (hv : vStr nLr ((i : Nat) : Int) Tk Tc0 Tc1 Tc2 Ts0 Ts1 Dk Dc0 Dc1 Dc2 Ds0 Ds1 g = true) (h0 : 0 < nLr) (hp : placeF pl = true) (hf : finF fo = true) (lpl : pl < wid .f32) (lfo : fo < wid .f32) (w : World) (rLr : Rng w bLr oLr (fl xLr)) : Cl Try.prog 5 #[.agg #[.slice ALr nLr cLr, vI ((i : Nat) : Int), vI Tk, vF Tc0, vF Tc1, vF Tc2, vF Ts0, vF Ts1, vI Dk, vF Dc0, vF Dc1, vF Dc2, vF Ds0, vF Ds1, vF g], vF pl, vF fo] w fun v w' => v = .bool true ∧ Mod [] w w' := by
  refine Cl.of Try.func5 Try.ntmps5 rfl rfl (ρ := [(0, .agg #[.slice ALr nLr cLr, vI ((i : Nat) : Int), vI Tk, vF Tc0, vF Tc1, vF Tc2, vF Ts0, vF Ts1, vI Dk, vF Dc0, vF Dc1, vF Dc2, vF Ds0, vF Ds1, vF g]), (1, vF pl), (2, vF fo)]) rfl ?_
  refine CE.seq ?_
  refine CE.region ?_
  refine WL.op (op_box (cs := [.slice ALr nLr cLr, vI ((i : Nat) : Int), vI Tk, vF Tc0, vF Tc1, vF Tc2, vF Ts0, vF Ts1, vI Dk, vF Dc0, vF Dc1, vF Dc2, vF Ds0, vF Ds1, vF g]) rfl rfl) rfl rfl (ltb rfl) ?_
  rintro _ w1 ⟨rfl, r1, m1, z1⟩
  refine WL.det (op_assign rfl) rfl rfl rfl ?_
  refine WL.end ?_
  refine NE.code ?_
  refine CE.seq ?_
  refine CE.region ?_
  refine WL.det (op_assign rfl) rfl rfl rfl ?_
  refine WL.end ?_
  refine NE.code ?_
  refine CE.seq ?_
  refine CE.region ?_
  refine WL.det (op_loadA (i := 0) (cs := [.slice ALr nLr cLr, vI ((i : Nat) : Int), vI Tk, vF Tc0, vF Tc1, vF Tc2, vF Ts0, vF Ts1, vI Dk, vF Dc0, vF Dc1, vF Dc2, vF Ds0, vF Ds1, vF g]) rfl Try.isAgg51 Try.sizeOf51 r1.rng rfl rfl rfl) rfl rfl rfl ?_
  refine WL.det (op_move rfl) rfl rfl rfl ?_
  refine WL.call (oc_call (vs := [.agg #[.slice ALr nLr cLr, vI ((i : Nat) : Int), vI Tk, vF Tc0, vF Tc1, vF Tc2, vF Ts0, vF Ts1, vI Dk, vF Dc0, vF Dc1, vF Dc2, vF Ds0, vF Ds1, vF g], vI 1048576]) (cap := []) rfl rfl rfl Try.call25 (c_szString 1048576 nLr cLr ALr ((i : Nat) : Int) Tk Tc0 Tc1 Tc2 Ts0 Ts1 Dk Dc0 Dc1 Dc2 Ds0 Ds1 g (by omega) (by omega) w1)) rfl rfl (ltb rfl) ?_
  rintro _ w2 ⟨rfl, m2⟩
  refine WL.det (op_assign rfl) rfl rfl rfl ?_
  refine WL.end ?_
  refine NE.code ?_
  refine CE.seq ?_
  refine CE.seq ?_
  refine CE.region ?_
  refine WL.det (op_move rfl) rfl rfl rfl ?_
  refine WL.det (op_lti_f rfl rfl (by omega)) rfl rfl rfl ?_
  refine WL.end ?_
  refine NE.code ?_
  refine CE.cond_f rfl rfl ?_
  refine CE.skip' ?_
  refine NE.code ?_
  refine CE.seq ?_
  refine CE.region ?_
  refine WL.det (op_loadA (i := 0) (cs := [.slice ALr nLr cLr, vI ((i : Nat) : Int), vI Tk, vF Tc0, vF Tc1, vF Tc2, vF Ts0, vF Ts1, vI Dk, vF Dc0, vF Dc1, vF Dc2, vF Ds0, vF Ds1, vF g]) rfl Try.isAgg51 Try.sizeOf51 (r1.ext m2).rng rfl rfl rfl) rfl rfl rfl ?_
  refine WL.call (oc_call (vs := [.agg #[.slice ALr nLr cLr, vI ((i : Nat) : Int), vI Tk, vF Tc0, vF Tc1, vF Tc2, vF Ts0, vF Ts1, vI Dk, vF Dc0, vF Dc1, vF Dc2, vF Ds0, vF Ds1, vF g]]) (cap := []) rfl rfl rfl Try.call26 (c_toString nLr cLr ALr bLr oLr xLr ((i : Nat) : Int) Tk Tc0 Tc1 Tc2 Ts0 Ts1 Dk Dc0 Dc1 Dc2 Ds0 Ds1 g lnLr hALr (by omega) w2 ((rLr.ext m1).ext m2))) rfl rfl (ltb rfl) ?_
  rintro _ w3 ⟨bLr'1, rfl, r2, ge1, m3⟩
  refine WL.det (op_move rfl) rfl rfl rfl ?_
  refine WL.det (op_move rfl) rfl rfl rfl ?_
  refine WL.call (oc_call (vs := [.agg #[vS bLr'1 0 nLr nLr, vI ((i : Nat) : Int), vI Tk, vF Tc0, vF Tc1, vF Tc2, vF Ts0, vF Ts1, vI Dk, vF Dc0, vF Dc1, vF Dc2, vF Ds0, vF Ds1, vF g], vF pl, vF fo]) (cap := []) rfl rfl rfl Try.call30 (c_sPluck nLr nLr bLr'1 xLr i Tk Tc0 Tc1 Tc2 Ts0 Ts1 Dk Dc0 Dc1 Dc2 Ds0 Ds1 g pl fo lnLr (by omega) (by omega) (by first | assumption | exact W32.set (by assumption) (by first | assumption | exact wid_lt (by assumption)) | exact W32.zeros _ | exact W32.nil) (by omega) (by first | assumption | exact W32.get (by assumption) _ | decide +kernel) (by first | assumption | exact W32.get (by assumption) _ | decide +kernel) (by first | assumption | exact W32.get (by assumption) _ | decide +kernel) (by first | assumption | exact W32.get (by assumption) _ | decide +kernel) lpl lfo (by assumption) (by assumption) (by assumption) w3 r2.rng)) rfl rfl (ltb rfl) ?_
  rintro _ w4 ⟨b'1, c'1, zs1, rfl, h1, h2, h3, r3, ge2, m4⟩
  refine WL.det (op_move rfl) rfl rfl rfl ?_
  refine WL.det (op_extract rfl rfl) rfl rfl rfl ?_
  refine WL.det (op_extract rfl rfl) rfl rfl rfl ?_
  refine WL.op (op_alloc (cs := [.slice none 0 0, vI 0, vI 0, vF 0, vF 0, vF 0, vF 0, vF 0, vI 0, vF 0, vF 0, vF 0, vF 0, vF 0, vF 0]) Try.zeroValue33 rfl) rfl rfl (ltb rfl) ?_
  rintro _ w5 ⟨rfl, r4, m5, z2⟩
  refine WL.op0 (op_store (i := 0) (cs := [vS b'1 0 nLr c'1, vI ((i : Nat) : Int), vI Tk, vF Tc0, vF Tc1, vF Tc2, vF Ts0, vF Ts1, vI Dk, vF Dc0, vF Dc1, vF Dc2, vF Ds0, vF Ds1, vF g]) rfl rfl rfl Try.sizeOf33 rfl r4 rfl (lB rfl) rfl) rfl rfl ?_
  rintro _ w6 ⟨r5, m6, z3⟩
  have r6 : Row w6 w4.heap.size 0 [vS b'1 0 nLr c'1, vI ((i : Nat) : Int), vI Tk, vF Tc0, vF Tc1, vF Tc2, vF Ts0, vF Ts1, vI Dk, vF Dc0, vF Dc1, vF Dc2, vF Ds0, vF Ds1, vF g] := Row.congr r5 rfl
  refine WL.det (op_assign rfl) rfl rfl rfl ?_
  refine WL.end ?_
  refine NE.code ?_
  refine CE.seq ?_
  refine CE.region ?_
  refine WL.det (op_loadA (i := 0) (cs := [.slice ALr nLr cLr, vI ((i : Nat) : Int), vI Tk, vF Tc0, vF Tc1, vF Tc2, vF Ts0, vF Ts1, vI Dk, vF Dc0, vF Dc1, vF Dc2, vF Ds0, vF Ds1, vF g]) rfl Try.isAgg51 Try.sizeOf51 (((((r1.ext m2).ext m3).ext m4).ext m5).mod m6 (nC (lE (lL (lL r1.lt (lT (lT m2.size m3.size) m4.size)) lR)) nN)).rng rfl rfl rfl) rfl rfl rfl ?_
  refine WL.call (oc_call (vs := [.agg #[.slice ALr nLr cLr, vI ((i : Nat) : Int), vI Tk, vF Tc0, vF Tc1, vF Tc2, vF Ts0, vF Ts1, vI Dk, vF Dc0, vF Dc1, vF Dc2, vF Ds0, vF Ds1, vF g]]) (cap := []) rfl rfl rfl Try.call26 (c_toString nLr cLr ALr bLr oLr xLr ((i : Nat) : Int) Tk Tc0 Tc1 Tc2 Ts0 Ts1 Dk Dc0 Dc1 Dc2 Ds0 Ds1 g lnLr hALr (by omega) w6 (Rng.youngS rLr (((((rLr.ext m1).ext m2).ext m3).ext m4).ext m5) m6 (allge_cons (lT (lT (lT (lT m1.size m2.size) m3.size) m4.size) lR) allge_nil)))) rfl rfl (ltb rfl) ?_
  rintro _ w7 ⟨bLr'2, rfl, r7, ge3, m7⟩
  refine WL.op (op_alloc (cs := [.slice none 0 0, vI 0, vI 0, vF 0, vF 0, vF 0, vF 0, vF 0, vI 0, vF 0, vF 0, vF 0, vF 0, vF 0, vF 0]) Try.zeroValue33 rfl) rfl rfl (ltb rfl) ?_
  rintro _ w8 ⟨rfl, r8, m8, z4⟩
  refine WL.op0 (op_store (i := 0) (cs := [vS bLr'2 0 nLr nLr, vI ((i : Nat) : Int), vI Tk, vF Tc0, vF Tc1, vF Tc2, vF Ts0, vF Ts1, vI Dk, vF Dc0, vF Dc1, vF Dc2, vF Ds0, vF Ds1, vF g]) rfl rfl rfl Try.sizeOf33 rfl r8 rfl (lB rfl) rfl) rfl rfl ?_
  rintro _ w9 ⟨r9, m9, z5⟩
  have r10 : Row w9 w7.heap.size 0 [vS bLr'2 0 nLr nLr, vI ((i : Nat) : Int), vI Tk, vF Tc0, vF Tc1, vF Tc2, vF Ts0, vF Ts1, vI Dk, vF Dc0, vF Dc1, vF Dc2, vF Ds0, vF Ds1, vF g] := Row.congr r9 rfl
  refine WL.end ?_
  refine NE.code ?_
  refine CE.seq ?_
  refine CE.region ?_
  refine WL.det (op_loadA (i := 0) (cs := [vS bLr'2 0 nLr nLr, vI ((i : Nat) : Int), vI Tk, vF Tc0, vF Tc1, vF Tc2, vF Ts0, vF Ts1, vI Dk, vF Dc0, vF Dc1, vF Dc2, vF Ds0, vF Ds1, vF g]) rfl Try.isAgg33 Try.sizeOf33 r10.rng rfl rfl rfl) rfl rfl rfl ?_
  refine WL.det (op_move rfl) rfl rfl rfl ?_
  refine WL.det (op_move rfl) rfl rfl rfl ?_
  refine WL.call (oc_call (vs := [.agg #[vS bLr'2 0 nLr nLr, vI ((i : Nat) : Int), vI Tk, vF Tc0, vF Tc1, vF Tc2, vF Ts0, vF Ts1, vI Dk, vF Dc0, vF Dc1, vF Dc2, vF Ds0, vF Ds1, vF g], vF pl, vF fo]) (cap := []) rfl rfl rfl Try.call31 (c_iPluck nLr nLr bLr'2 xLr i Tk Tc0 Tc1 Tc2 Ts0 Ts1 Dk Dc0 Dc1 Dc2 Ds0 Ds1 g pl fo lnLr (by omega) (by omega) (by first | assumption | exact W32.set (by assumption) (by first | assumption | exact wid_lt (by assumption)) | exact W32.zeros _ | exact W32.nil) (by omega) (by first | assumption | exact W32.get (by assumption) _ | decide +kernel) (by first | assumption | exact W32.get (by assumption) _ | decide +kernel) (by first | assumption | exact W32.get (by assumption) _ | decide +kernel) (by first | assumption | exact W32.get (by assumption) _ | decide +kernel) lpl lfo (by assumption) (by assumption) (by assumption) w9 ((r7.ext m8).mod m9 (nC (lE (lL r7.lt lR)) nN)).rng)) rfl rfl (ltb rfl) ?_
  rintro _ w10 ⟨b'2, c'2, zs2, rfl, h4, h5, h6, r11, ge4, m10⟩
  refine WL.det (op_move rfl) rfl rfl rfl ?_
  refine WL.det (op_extract rfl rfl) rfl rfl rfl ?_
  refine WL.det (op_extract rfl rfl) rfl rfl rfl ?_
  refine WL.op (op_alloc (cs := [.slice none 0 0, vI 0, vI 0, vF 0, vF 0, vF 0, vF 0, vF 0, vI 0, vF 0, vF 0, vF 0, vF 0, vF 0, vF 0]) Try.zeroValue33 rfl) rfl rfl (ltb rfl) ?_
  rintro _ w11 ⟨rfl, r12, m11, z6⟩
  refine WL.op0 (op_store (i := 0) (cs := [vS b'2 0 nLr c'2, vI ((i : Nat) : Int), vI Tk, vF Tc0, vF Tc1, vF Tc2, vF Ts0, vF Ts1, vI Dk, vF Dc0, vF Dc1, vF Dc2, vF Ds0, vF Ds1, vF g]) rfl rfl rfl Try.sizeOf33 rfl r12 rfl (lB rfl) rfl) rfl rfl ?_
  rintro _ w12 ⟨r13, m12, z7⟩
  have r14 : Row w12 w10.heap.size 0 [vS b'2 0 nLr c'2, vI ((i : Nat) : Int), vI Tk, vF Tc0, vF Tc1, vF Tc2, vF Ts0, vF Ts1, vI Dk, vF Dc0, vF Dc1, vF Dc2, vF Ds0, vF Ds1, vF g] := Row.congr r13 rfl
  refine WL.det (op_assign rfl) rfl rfl rfl ?_
  refine WL.end ?_
  refine NE.code ?_
  refine CE.seq ?_
  refine CE.seq ?_
  refine CE.region ?_
  refine WL.det (op_loadA (i := 0) (cs := [vS b'2 0 nLr c'2, vI ((i : Nat) : Int), vI Tk, vF Tc0, vF Tc1, vF Tc2, vF Ts0, vF Ts1, vI Dk, vF Dc0, vF Dc1, vF Dc2, vF Ds0, vF Ds1, vF g]) rfl Try.isAgg33 Try.sizeOf33 r14.rng rfl rfl rfl) rfl rfl rfl ?_
  refine WL.det (op_loadA (i := 0) (cs := [vS b'1 0 nLr c'1, vI ((i : Nat) : Int), vI Tk, vF Tc0, vF Tc1, vF Tc2, vF Ts0, vF Ts1, vI Dk, vF Dc0, vF Dc1, vF Dc2, vF Ds0, vF Ds1, vF g]) rfl Try.isAgg33 Try.sizeOf33 ((((((r6.ext m7).ext m8).mod m9 (nC (lE (lL (lL r4.lt (lT m6.size m7.size)) lR)) nN)).ext m10).ext m11).mod m12 (nC (lE (lL (lL r4.lt (lT (lT (lT (lT m6.size m7.size) m8.size) m9.size) m10.size)) lR)) nN)).rng rfl rfl rfl) rfl rfl rfl ?_
  refine WL.call (oc_call (vs := [.agg #[vS b'2 0 nLr c'2, vI ((i : Nat) : Int), vI Tk, vF Tc0, vF Tc1, vF Tc2, vF Ts0, vF Ts1, vI Dk, vF Dc0, vF Dc1, vF Dc2, vF Ds0, vF Ds1, vF g], .agg #[vS b'1 0 nLr c'1, vI ((i : Nat) : Int), vI Tk, vF Tc0, vF Tc1, vF Tc2, vF Ts0, vF Ts1, vI Dk, vF Dc0, vF Dc1, vF Dc2, vF Ds0, vF Ds1, vF g]]) (cap := []) rfl rfl rfl Try.call27 (c_eqString_cn nLr c'2 (some ⟨b'2, 0, none⟩) b'2 0 zs2 c'1 (some ⟨b'1, 0, none⟩) b'1 0 zs1 ((i : Nat) : Int) Tk Tc0 Tc0 Tc0 Tc1 Tc1 Tc1 Tc2 Tc2 Tc2 Ts0 Ts0 Ts0 Ts1 Ts1 Ts1 Dk Dc0 Dc0 Dc0 Dc1 Dc1 Dc1 Dc2 Dc2 Dc2 Ds0 Ds0 Ds0 Ds1 Ds1 Ds1 g g g h4 (fun _ => rfl) h5 h1 (fun _ => rfl) h2 (by first | assumption | exact Cn.refl _ | exact Cn.eq2 (by assumption) (by assumption)) (by omega) rfl rfl rfl rfl rfl rfl rfl rfl rfl rfl rfl rfl rfl rfl rfl rfl rfl rfl rfl rfl rfl rfl w12 ((r11.ext m11).mod m12 (nC (lE (lL r11.lt lR)) nN)).rng ((((((((r3.ext m5).mod m6 (nC (lE (lL r3.lt lR)) nN)).ext m7).ext m8).mod m9 (nC (lE (lL (lL r3.lt (lT (lT m5.size m6.size) m7.size)) lR)) nN)).ext m10).ext m11).mod m12 (nC (lE (lL (lL r3.lt (lT (lT (lT (lT (lT m5.size m6.size) m7.size) m8.size) m9.size) m10.size)) lR)) nN)).rng)) rfl rfl (ltb rfl) ?_
  rintro _ w13 ⟨rfl, m13⟩
  refine WL.det (op_not rfl) rfl rfl rfl ?_
  refine WL.det (op_move rfl) rfl rfl rfl ?_
  refine WL.yes rfl rfl rfl (ltb rfl) rfl rfl ?_
  refine WL.det (op_move rfl) rfl rfl rfl ?_
  refine WL.yes rfl rfl rfl (ltb rfl) rfl rfl ?_
  refine WL.det (op_move rfl) rfl rfl rfl ?_
  refine WL.yes rfl rfl rfl (ltb rfl) rfl rfl ?_
  refine WL.det (op_nei rfl rfl) rfl rfl rfl ?_
  refine WL.det (op_pick_f rfl rfl rfl) rfl rfl rfl ?_
  refine WL.end ?_
  refine NE.code ?_
  refine CE.cond_f rfl rfl ?_
  refine CE.skip' ?_
  refine NE.code ?_
  refine CE.seq ?_
  refine CE.seq ?_
  refine CE.draw (fun | 2 => some (fun _ wA uA wB => ∃ (bLr' : Nat), uA = .agg #[vS bLr' 0 nLr nLr, vI ((i : Nat) : Int), vI Tk, vF Tc0, vF Tc1, vF Tc2, vF Ts0, vF Ts1, vI Dk, vF Dc0, vF Dc1, vF Dc2, vF Ds0, vF Ds1, vF g] ∧ Row wB bLr' 0 (fl xLr) ∧ wA.heap.size ≤ bLr' ∧ Mod [] wA wB) | _ => none) [0, 1, 2] [3, 4] [] (by kernel_rfl) (by kernel_rfl) ?_
  have md1 : Mod [] w13 w13.drew := (Mod.refl _ _).drew
  generalize w13.drew = w14 at md1 ⊢
  refine DR.det (i := 0) rfl rfl (by kernel_rfl) (.free rfl) rfl rfl (fun wD mD => op_loadA (i := 0) (cs := [vS bLr'2 0 nLr nLr, vI ((i : Nat) : Int), vI Tk, vF Tc0, vF Tc1, vF Tc2, vF Ts0, vF Ts1, vI Dk, vF Dc0, vF Dc1, vF Dc2, vF Ds0, vF Ds1, vF g]) rfl Try.isAgg33 Try.sizeOf33 ((((((r10.ext m10).ext m11).mod m12 (nC (lE (lL (lL r8.lt (lT m9.size m10.size)) lR)) nN)).ext m13).ext md1).ext mD).rng rfl rfl rfl) ?_
  refine DR.det (i := 1) rfl rfl (by kernel_rfl) (.free rfl) rfl rfl (fun wD mD => op_loadA (i := 0) (cs := [.slice ALr nLr cLr, vI ((i : Nat) : Int), vI Tk, vF Tc0, vF Tc1, vF Tc2, vF Ts0, vF Ts1, vI Dk, vF Dc0, vF Dc1, vF Dc2, vF Ds0, vF Ds1, vF g]) rfl Try.isAgg51 Try.sizeOf51 ((((((((((((((r1.ext m2).ext m3).ext m4).ext m5).mod m6 (nC (lE (lL (lL r1.lt (lT (lT m2.size m3.size) m4.size)) lR)) nN)).ext m7).ext m8).mod m9 (nC (lE (lL (lL r1.lt (lT (lT (lT (lT (lT m2.size m3.size) m4.size) m5.size) m6.size) m7.size)) lR)) nN)).ext m10).ext m11).mod m12 (nC (lE (lL (lL r1.lt (lT (lT (lT (lT (lT (lT (lT (lT m2.size m3.size) m4.size) m5.size) m6.size) m7.size) m8.size) m9.size) m10.size)) lR)) nN)).ext m13).ext md1).ext mD).rng rfl rfl rfl) ?_
  refine DR.one (i := 2) rfl rfl (by kernel_rfl) (.free rfl) rfl (ltb rfl) (vs := [.func (.func 26) #[] #[], .agg #[.slice ALr nLr cLr, vI ((i : Nat) : Int), vI Tk, vF Tc0, vF Tc1, vF Tc2, vF Ts0, vF Ts1, vI Dk, vF Dc0, vF Dc1, vF Dc2, vF Ds0, vF Ds1, vF g]]) rfl ?_
  intro w15 m14
  refine ⟨oc_call (vs := [.agg #[.slice ALr nLr cLr, vI ((i : Nat) : Int), vI Tk, vF Tc0, vF Tc1, vF Tc2, vF Ts0, vF Ts1, vI Dk, vF Dc0, vF Dc1, vF Dc2, vF Ds0, vF Ds1, vF g]]) (cap := []) rfl rfl rfl Try.call26 (c_toString nLr cLr ALr bLr oLr xLr ((i : Nat) : Int) Tk Tc0 Tc1 Tc2 Ts0 Ts1 Dk Dc0 Dc1 Dc2 Ds0 Ds1 g lnLr hALr (by omega) w15 ((((Rng.youngS rLr (((Rng.youngS rLr (((Rng.youngS rLr (((((rLr.ext m1).ext m2).ext m3).ext m4).ext m5) m6 (allge_cons (lT (lT (lT (lT m1.size m2.size) m3.size) m4.size) lR) allge_nil)).ext m7).ext m8) m9 (allge_cons (lT (lT (lT (lT (lT (lT (lT m1.size m2.size) m3.size) m4.size) m5.size) m6.size) m7.size) lR) allge_nil)).ext m10).ext m11) m12 (allge_cons (lT (lT (lT (lT (lT (lT (lT (lT (lT (lT m1.size m2.size) m3.size) m4.size) m5.size) m6.size) m7.size) m8.size) m9.size) m10.size) lR) allge_nil)).ext m13).ext md1).ext m14)), ?_⟩
  rintro _ w16 ⟨bLr'3, rfl, r15, ge5, m15⟩
  refine ⟨(((Mod.refl [] w14).nt m14).nt m15), ?_⟩
  refine DR.done rfl ?_
  intro w17 m16
  refine WO.call rfl (.free rfl) rfl (ltb rfl) (oc_call (vs := [.agg #[vS bLr'2 0 nLr nLr, vI ((i : Nat) : Int), vI Tk, vF Tc0, vF Tc1, vF Tc2, vF Ts0, vF Ts1, vI Dk, vF Dc0, vF Dc1, vF Dc2, vF Ds0, vF Ds1, vF g], .agg #[vS bLr'3 0 nLr nLr, vI ((i : Nat) : Int), vI Tk, vF Tc0, vF Tc1, vF Tc2, vF Ts0, vF Ts1, vI Dk, vF Dc0, vF Dc1, vF Dc2, vF Ds0, vF Ds1, vF g]]) (cap := []) rfl rfl rfl Try.call27 (c_eqString nLr nLr (some ⟨bLr'2, 0, none⟩) bLr'2 0 xLr ((i : Nat) : Int) Tk Tc0 Tc0 Tc1 Tc1 Tc2 Tc2 Ts0 Ts0 Ts1 Ts1 Dk Dc0 Dc0 Dc1 Dc1 Dc2 Dc2 Ds0 Ds0 Ds1 Ds1 g g nLr (some ⟨bLr'3, 0, none⟩) bLr'3 0 Tc0 Tc1 Tc2 Ts0 Ts1 Dc0 Dc1 Dc2 Ds0 Ds1 g lnLr (fun _ => rfl) (fun _ => rfl) rfl rfl rfl rfl rfl rfl rfl rfl rfl rfl rfl rfl rfl rfl rfl rfl rfl rfl rfl rfl rfl rfl (by omega) w17 ((((((((((r7.ext m8).mod m9 (nC (lE (lL r7.lt lR)) nN)).ext m10).ext m11).mod m12 (nC (lE (lL (lL r7.lt (lT (lT m8.size m9.size) m10.size)) lR)) nN)).ext m13).ext md1).ext m14).ext m15).ext m16).rng (r15.ext m16).rng)) ?_
  rintro _ w18 ⟨rfl, m17⟩
  refine WO.det (op_not rfl) rfl (.free rfl) rfl rfl ?_
  refine WO.end ?_
  refine NE.code ?_
  refine CE.cond_f rfl rfl ?_
  refine CE.skip' ?_
  refine NE.code ?_
  refine CE.seq ?_
  refine CE.region ?_
  refine WL.det (op_assign rfl) rfl rfl rfl ?_
  refine WL.end ?_
  refine NE.code ?_
  refine CE.seq ?_
  refine CE.region ?_
  refine WL.det (op_loadA (i := 0) (cs := [vS bLr'2 0 nLr nLr, vI ((i : Nat) : Int), vI Tk, vF Tc0, vF Tc1, vF Tc2, vF Ts0, vF Ts1, vI Dk, vF Dc0, vF Dc1, vF Dc2, vF Ds0, vF Ds1, vF g]) rfl Try.isAgg33 Try.sizeOf33 (((((((((r10.ext m10).ext m11).mod m12 (nC (lE (lL (lL r8.lt (lT m9.size m10.size)) lR)) nN)).ext m13).ext md1).ext m14).ext m15).ext m16).ext m17).rng rfl rfl rfl) rfl rfl rfl ?_
  refine WL.det (op_move rfl) rfl rfl rfl ?_
  refine WL.call (oc_call (vs := [.agg #[vS bLr'2 0 nLr nLr, vI ((i : Nat) : Int), vI Tk, vF Tc0, vF Tc1, vF Tc2, vF Ts0, vF Ts1, vI Dk, vF Dc0, vF Dc1, vF Dc2, vF Ds0, vF Ds1, vF g], vI 1]) (cap := []) rfl rfl rfl Try.call28 (c_markString nLr nLr bLr'2 xLr ((i : Nat) : Int) Tk Tc0 Tc1 Tc2 Ts0 Ts1 Dk Dc0 Dc1 Dc2 Ds0 Ds1 g 1 lnLr (by omega) (by omega) w18 (((((((((((r7.ext m8).mod m9 (nC (lE (lL r7.lt lR)) nN)).ext m10).ext m11).mod m12 (nC (lE (lL (lL r7.lt (lT (lT m8.size m9.size) m10.size)) lR)) nN)).ext m13).ext md1).ext m14).ext m15).ext m16).ext m17))) rfl rfl (ltb rfl) ?_
  rintro _ w19 ⟨rfl, r16, m18⟩
  refine WL.det (op_assign rfl) rfl rfl rfl ?_
  refine WL.end ?_
  refine NE.code ?_
  refine CE.seq ?_
  refine CE.seq ?_
  refine CE.region ?_
  refine WL.det (op_move rfl) rfl rfl rfl ?_
  refine WL.det (op_lti_f rfl rfl (by omega)) rfl rfl rfl ?_
  refine WL.det (op_move rfl) rfl rfl rfl ?_
  refine WL.yes rfl rfl rfl (ltb rfl) rfl rfl ?_
  refine WL.det (op_loadA (i := 0) (cs := [vS b'2 0 nLr c'2, vI ((i : Nat) : Int), vI Tk, vF Tc0, vF Tc1, vF Tc2, vF Ts0, vF Ts1, vI Dk, vF Dc0, vF Dc1, vF Dc2, vF Ds0, vF Ds1, vF g]) rfl Try.isAgg33 Try.sizeOf33 (((((((r14.ext m13).ext md1).ext m14).ext m15).ext m16).ext m17).mod m18 (nC (lG (lL (lL r7.lt (lT (lT m8.size m9.size) m10.size)) lR)) nN)).rng rfl rfl rfl) rfl rfl rfl ?_
  refine WL.yes rfl rfl rfl (ltb rfl) rfl rfl ?_
  refine WL.det (op_loadA (i := 0) (cs := [vS b'1 0 nLr c'1, vI ((i : Nat) : Int), vI Tk, vF Tc0, vF Tc1, vF Tc2, vF Ts0, vF Ts1, vI Dk, vF Dc0, vF Dc1, vF Dc2, vF Ds0, vF Ds1, vF g]) rfl Try.isAgg33 Try.sizeOf33 (((((((((((((r6.ext m7).ext m8).mod m9 (nC (lE (lL (lL r4.lt (lT m6.size m7.size)) lR)) nN)).ext m10).ext m11).mod m12 (nC (lE (lL (lL r4.lt (lT (lT (lT (lT m6.size m7.size) m8.size) m9.size) m10.size)) lR)) nN)).ext m13).ext md1).ext m14).ext m15).ext m16).ext m17).mod m18 (nC (lE (lL (lL r4.lt m6.size) ge3)) nN)).rng rfl rfl rfl) rfl rfl rfl ?_
  refine WL.yes rfl rfl rfl (ltb rfl) rfl rfl ?_
  refine WL.call (oc_call (vs := [.agg #[vS b'2 0 nLr c'2, vI ((i : Nat) : Int), vI Tk, vF Tc0, vF Tc1, vF Tc2, vF Ts0, vF Ts1, vI Dk, vF Dc0, vF Dc1, vF Dc2, vF Ds0, vF Ds1, vF g], .agg #[vS b'1 0 nLr c'1, vI ((i : Nat) : Int), vI Tk, vF Tc0, vF Tc1, vF Tc2, vF Ts0, vF Ts1, vI Dk, vF Dc0, vF Dc1, vF Dc2, vF Ds0, vF Ds1, vF g]]) (cap := []) rfl rfl rfl Try.call27 (c_eqString_cn nLr c'2 (some ⟨b'2, 0, none⟩) b'2 0 zs2 c'1 (some ⟨b'1, 0, none⟩) b'1 0 zs1 ((i : Nat) : Int) Tk Tc0 Tc0 Tc0 Tc1 Tc1 Tc1 Tc2 Tc2 Tc2 Ts0 Ts0 Ts0 Ts1 Ts1 Ts1 Dk Dc0 Dc0 Dc0 Dc1 Dc1 Dc1 Dc2 Dc2 Dc2 Ds0 Ds0 Ds0 Ds1 Ds1 Ds1 g g g h4 (fun _ => rfl) h5 h1 (fun _ => rfl) h2 (by first | assumption | exact Cn.refl _ | exact Cn.eq2 (by assumption) (by assumption)) (by omega) rfl rfl rfl rfl rfl rfl rfl rfl rfl rfl rfl rfl rfl rfl rfl rfl rfl rfl rfl rfl rfl rfl w19 (((((((((r11.ext m11).mod m12 (nC (lE (lL r11.lt lR)) nN)).ext m13).ext md1).ext m14).ext m15).ext m16).ext m17).mod m18 (nC (lG (lL (lL r7.lt (lT m8.size m9.size)) ge4)) nN)).rng (((((((((((((((r3.ext m5).mod m6 (nC (lE (lL r3.lt lR)) nN)).ext m7).ext m8).mod m9 (nC (lE (lL (lL r3.lt (lT (lT m5.size m6.size) m7.size)) lR)) nN)).ext m10).ext m11).mod m12 (nC (lE (lL (lL r3.lt (lT (lT (lT (lT (lT m5.size m6.size) m7.size) m8.size) m9.size) m10.size)) lR)) nN)).ext m13).ext md1).ext m14).ext m15).ext m16).ext m17).mod m18 (nC (lE (lL (lL r3.lt (lT m5.size m6.size)) ge3)) nN)).rng)) rfl rfl (ltb rfl) ?_
  rintro _ w20 ⟨rfl, m19⟩
  refine WL.yes rfl rfl rfl (ltb rfl) rfl rfl ?_
  refine WL.det (op_not rfl) rfl rfl rfl ?_
  refine WL.det (op_pick_f rfl rfl rfl) rfl rfl rfl ?_
  refine WL.det (op_move rfl) rfl rfl rfl ?_
  refine WL.yes rfl rfl rfl (ltb rfl) rfl rfl ?_
  refine WL.det (op_move rfl) rfl rfl rfl ?_
  refine WL.yes rfl rfl rfl (ltb rfl) rfl rfl ?_
  refine WL.det (op_move rfl) rfl rfl rfl ?_
  refine WL.yes rfl rfl rfl (ltb rfl) rfl rfl ?_
  refine WL.det (op_nei rfl rfl) rfl rfl rfl ?_
  refine WL.det (op_pick_f rfl rfl rfl) rfl rfl rfl ?_
  refine WL.end ?_
  refine NE.code ?_
  refine CE.cond_f rfl rfl ?_
  refine CE.skip' ?_
  refine NE.code ?_
  refine CE.seq ?_
  refine CE.region ?_
  refine WL.det (op_assign rfl) rfl rfl rfl ?_
  refine WL.end ?_
  refine NE.code ?_
  refine CE.seq ?_
  refine CE.region ?_
  refine WL.det (op_loadA (i := 0) (cs := [vS b'2 0 nLr c'2, vI ((i : Nat) : Int), vI Tk, vF Tc0, vF Tc1, vF Tc2, vF Ts0, vF Ts1, vI Dk, vF Dc0, vF Dc1, vF Dc2, vF Ds0, vF Ds1, vF g]) rfl Try.isAgg33 Try.sizeOf33 ((((((((r14.ext m13).ext md1).ext m14).ext m15).ext m16).ext m17).mod m18 (nC (lG (lL (lL r7.lt (lT (lT m8.size m9.size) m10.size)) lR)) nN)).ext m19).rng rfl rfl rfl) rfl rfl rfl ?_
  refine WL.det (op_move rfl) rfl rfl rfl ?_
  refine WL.call (oc_call (vs := [.agg #[vS b'2 0 nLr c'2, vI ((i : Nat) : Int), vI Tk, vF Tc0, vF Tc1, vF Tc2, vF Ts0, vF Ts1, vI Dk, vF Dc0, vF Dc1, vF Dc2, vF Ds0, vF Ds1, vF g], vI 1]) (cap := []) rfl rfl rfl Try.call28 (c_markString nLr c'2 b'2 zs2 ((i : Nat) : Int) Tk Tc0 Tc1 Tc2 Ts0 Ts1 Dk Dc0 Dc1 Dc2 Ds0 Ds1 g 1 h4 (by omega) (by omega) w20 ((((((((((r11.ext m11).mod m12 (nC (lE (lL r11.lt lR)) nN)).ext m13).ext md1).ext m14).ext m15).ext m16).ext m17).mod m18 (nC (lG (lL (lL r7.lt (lT m8.size m9.size)) ge4)) nN)).ext m19))) rfl rfl (ltb rfl) ?_
  rintro _ w21 ⟨rfl, r17, m20⟩
  refine WL.det (op_assign rfl) rfl rfl rfl ?_
  refine WL.end ?_
  refine NE.code ?_
  refine CE.seq ?_
  refine CE.region ?_
  refine WL.det (op_assign rfl) rfl rfl rfl ?_
  refine WL.end ?_
  refine NE.code ?_
  refine CE.seq ?_
  refine CE.region ?_
  refine WL.det (op_loadA (i := 0) (cs := [vS b'2 0 nLr c'2, vI ((i : Nat) : Int), vI Tk, vF Tc0, vF Tc1, vF Tc2, vF Ts0, vF Ts1, vI Dk, vF Dc0, vF Dc1, vF Dc2, vF Ds0, vF Ds1, vF g]) rfl Try.isAgg33 Try.sizeOf33 (((((((((r14.ext m13).ext md1).ext m14).ext m15).ext m16).ext m17).mod m18 (nC (lG (lL (lL r7.lt (lT (lT m8.size m9.size) m10.size)) lR)) nN)).ext m19).mod m20 (nC (lG (lL r11.lt lR)) nN)).rng rfl rfl rfl) rfl rfl rfl ?_
  refine WL.det (op_move rfl) rfl rfl rfl ?_
  refine WL.call (oc_call (vs := [.agg #[vS b'2 0 nLr c'2, vI ((i : Nat) : Int), vI Tk, vF Tc0, vF Tc1, vF Tc2, vF Ts0, vF Ts1, vI Dk, vF Dc0, vF Dc1, vF Dc2, vF Ds0, vF Ds1, vF g], vI 1]) (cap := []) rfl rfl rfl Try.call29 (c_heldString nLr c'2 b'2 (marks zs2 1 nLr) ((i : Nat) : Int) Tk Tc0 Tc1 Tc2 Ts0 Ts1 Dk Dc0 Dc1 Dc2 Ds0 Ds1 g 1 (marks_len h4 (Nat.le_refl _)) (by omega) (by omega) (by first | assumption | exact marks_held _ _ _) w21 r17.rng)) rfl rfl (ltb rfl) ?_
  rintro _ w22 ⟨rfl, m21⟩
  refine WL.det (op_assign rfl) rfl rfl rfl ?_
  refine WL.end ?_
  refine NE.code ?_
  refine CE.seq ?_
  refine CE.seq ?_
  refine CE.region ?_
  refine WL.det (op_move rfl) rfl rfl rfl ?_
  refine WL.det (op_lti_f rfl rfl (by omega)) rfl rfl rfl ?_
  refine WL.end ?_
  refine NE.code ?_
  refine CE.cond_f rfl rfl ?_
  refine CE.skip' ?_
  refine NE.code ?_
  refine CE.seq ?_
  refine CE.seq ?_
  refine CE.region ?_
  refine WL.det (op_move rfl) rfl rfl rfl ?_
  refine WL.det (op_move rfl) rfl rfl rfl ?_
  refine WL.det (op_nei_f rfl rfl rfl) rfl rfl rfl ?_
  refine WL.end ?_
  refine NE.code ?_
  refine CE.cond_f rfl rfl ?_
  refine CE.skip' ?_
  refine NE.code ?_
  refine CE.seq ?_
  refine CE.region ?_
  refine WL.det (op_loadA (i := 0) (cs := [.slice ALr nLr cLr, vI ((i : Nat) : Int), vI Tk, vF Tc0, vF Tc1, vF Tc2, vF Ts0, vF Ts1, vI Dk, vF Dc0, vF Dc1, vF Dc2, vF Ds0, vF Ds1, vF g]) rfl Try.isAgg51 Try.sizeOf51 (((((((((((((((((((((r1.ext m2).ext m3).ext m4).ext m5).mod m6 (nC (lE (lL (lL r1.lt (lT (lT m2.size m3.size) m4.size)) lR)) nN)).ext m7).ext m8).mod m9 (nC (lE (lL (lL r1.lt (lT (lT (lT (lT (lT m2.size m3.size) m4.size) m5.size) m6.size) m7.size)) lR)) nN)).ext m10).ext m11).mod m12 (nC (lE (lL (lL r1.lt (lT (lT (lT (lT (lT (lT (lT (lT m2.size m3.size) m4.size) m5.size) m6.size) m7.size) m8.size) m9.size) m10.size)) lR)) nN)).ext m13).ext md1).ext m14).ext m15).ext m16).ext m17).mod m18 (nC (lE (lL (lL r1.lt (lT (lT (lT (lT m2.size m3.size) m4.size) m5.size) m6.size)) ge3)) nN)).ext m19).mod m20 (nC (lE (lL (lL r1.lt (lT (lT (lT (lT (lT (lT (lT m2.size m3.size) m4.size) m5.size) m6.size) m7.size) m8.size) m9.size)) ge4)) nN)).ext m21).rng rfl rfl rfl) rfl rfl rfl ?_
  refine WL.call (oc_call (vs := [.agg #[.slice ALr nLr cLr, vI ((i : Nat) : Int), vI Tk, vF Tc0, vF Tc1, vF Tc2, vF Ts0, vF Ts1, vI Dk, vF Dc0, vF Dc1, vF Dc2, vF Ds0, vF Ds1, vF g]]) (cap := []) rfl rfl rfl Try.call26 (c_toString nLr cLr ALr bLr oLr xLr ((i : Nat) : Int) Tk Tc0 Tc1 Tc2 Ts0 Ts1 Dk Dc0 Dc1 Dc2 Ds0 Ds1 g lnLr hALr (by omega) w22 ((Rng.youngS rLr ((Rng.youngS rLr (((((((Rng.youngS rLr (((Rng.youngS rLr (((Rng.youngS rLr (((((rLr.ext m1).ext m2).ext m3).ext m4).ext m5) m6 (allge_cons (lT (lT (lT (lT m1.size m2.size) m3.size) m4.size) lR) allge_nil)).ext m7).ext m8) m9 (allge_cons (lT (lT (lT (lT (lT (lT (lT m1.size m2.size) m3.size) m4.size) m5.size) m6.size) m7.size) lR) allge_nil)).ext m10).ext m11) m12 (allge_cons (lT (lT (lT (lT (lT (lT (lT (lT (lT (lT m1.size m2.size) m3.size) m4.size) m5.size) m6.size) m7.size) m8.size) m9.size) m10.size) lR) allge_nil)).ext m13).ext md1).ext m14).ext m15).ext m16).ext m17) m18 (allge_cons (lT (lT (lT (lT (lT (lT m1.size m2.size) m3.size) m4.size) m5.size) m6.size) ge3) allge_nil)).ext m19) m20 (allge_cons (lT (lT (lT (lT (lT (lT (lT (lT (lT m1.size m2.size) m3.size) m4.size) m5.size) m6.size) m7.size) m8.size) m9.size) ge4) allge_nil)).ext m21))) rfl rfl (ltb rfl) ?_
  rintro _ w23 ⟨bLr'4, rfl, r18, ge6, m22⟩
  refine WL.det (op_move rfl) rfl rfl rfl ?_
  refine WL.det (op_move rfl) rfl rfl rfl ?_
  refine WL.call (oc_call (vs := [.agg #[vS bLr'4 0 nLr nLr, vI ((i : Nat) : Int), vI Tk, vF Tc0, vF Tc1, vF Tc2, vF Ts0, vF Ts1, vI Dk, vF Dc0, vF Dc1, vF Dc2, vF Ds0, vF Ds1, vF g], vF pl, vF fo]) (cap := []) rfl rfl rfl Try.call31 (c_iPluck nLr nLr bLr'4 xLr i Tk Tc0 Tc1 Tc2 Ts0 Ts1 Dk Dc0 Dc1 Dc2 Ds0 Ds1 g pl fo lnLr (by omega) (by omega) (by first | assumption | exact W32.set (by assumption) (by first | assumption | exact wid_lt (by assumption)) | exact W32.zeros _ | exact W32.nil) (by omega) (by first | assumption | exact W32.get (by assumption) _ | decide +kernel) (by first | assumption | exact W32.get (by assumption) _ | decide +kernel) (by first | assumption | exact W32.get (by assumption) _ | decide +kernel) (by first | assumption | exact W32.get (by assumption) _ | decide +kernel) lpl lfo (by assumption) (by assumption) (by assumption) w23 r18.rng)) rfl rfl (ltb rfl) ?_
  rintro _ w24 ⟨b'3, c'3, zs3, rfl, h7, h8, h9, r19, ge7, m23⟩
  refine WL.det (op_move rfl) rfl rfl rfl ?_
  refine WL.det (op_extract rfl rfl) rfl rfl rfl ?_
  refine WL.det (op_extract rfl rfl) rfl rfl rfl ?_
  refine WL.op (op_alloc (cs := [.slice none 0 0, vI 0, vI 0, vF 0, vF 0, vF 0, vF 0, vF 0, vI 0, vF 0, vF 0, vF 0, vF 0, vF 0, vF 0]) Try.zeroValue33 rfl) rfl rfl (ltb rfl) ?_
  rintro _ w25 ⟨rfl, r20, m24, z8⟩
  refine WL.op0 (op_store (i := 0) (cs := [vS b'3 0 nLr c'3, vI ((i : Nat) : Int), vI Tk, vF Tc0, vF Tc1, vF Tc2, vF Ts0, vF Ts1, vI Dk, vF Dc0, vF Dc1, vF Dc2, vF Ds0, vF Ds1, vF g]) rfl rfl rfl Try.sizeOf33 rfl r20 rfl (lB rfl) rfl) rfl rfl ?_
  rintro _ w26 ⟨r21, m25, z9⟩
  have r22 : Row w26 w24.heap.size 0 [vS b'3 0 nLr c'3, vI ((i : Nat) : Int), vI Tk, vF Tc0, vF Tc1, vF Tc2, vF Ts0, vF Ts1, vI Dk, vF Dc0, vF Dc1, vF Dc2, vF Ds0, vF Ds1, vF g] := Row.congr r21 rfl
  refine WL.det (op_assign rfl) rfl rfl rfl ?_
  refine WL.end ?_
  refine NE.code ?_
  refine CE.seq ?_
  refine CE.seq ?_
  refine CE.region ?_
  refine WL.det (op_loadA (i := 0) (cs := [vS b'3 0 nLr c'3, vI ((i : Nat) : Int), vI Tk, vF Tc0, vF Tc1, vF Tc2, vF Ts0, vF Ts1, vI Dk, vF Dc0, vF Dc1, vF Dc2, vF Ds0, vF Ds1, vF g]) rfl Try.isAgg33 Try.sizeOf33 r22.rng rfl rfl rfl) rfl rfl rfl ?_
  refine WL.det (op_loadA (i := 0) (cs := [vS b'1 0 nLr c'1, vI ((i : Nat) : Int), vI Tk, vF Tc0, vF Tc1, vF Tc2, vF Ts0, vF Ts1, vI Dk, vF Dc0, vF Dc1, vF Dc2, vF Ds0, vF Ds1, vF g]) rfl Try.isAgg33 Try.sizeOf33 ((((((((((((((((((((r6.ext m7).ext m8).mod m9 (nC (lE (lL (lL r4.lt (lT m6.size m7.size)) lR)) nN)).ext m10).ext m11).mod m12 (nC (lE (lL (lL r4.lt (lT (lT (lT (lT m6.size m7.size) m8.size) m9.size) m10.size)) lR)) nN)).ext m13).ext md1).ext m14).ext m15).ext m16).ext m17).mod m18 (nC (lE (lL (lL r4.lt m6.size) ge3)) nN)).ext m19).mod m20 (nC (lE (lL (lL r4.lt (lT (lT (lT m6.size m7.size) m8.size) m9.size)) ge4)) nN)).ext m21).ext m22).ext m23).ext m24).mod m25 (nC (lE (lL (lL r4.lt (lT (lT (lT (lT (lT (lT (lT (lT (lT (lT (lT (lT (lT (lT (lT (lT (lT (lT m6.size m7.size) m8.size) m9.size) m10.size) m11.size) m12.size) m13.size) md1.size) m14.size) m15.size) m16.size) m17.size) m18.size) m19.size) m20.size) m21.size) m22.size) m23.size)) lR)) nN)).rng rfl rfl rfl) rfl rfl rfl ?_
  refine WL.call (oc_call (vs := [.agg #[vS b'3 0 nLr c'3, vI ((i : Nat) : Int), vI Tk, vF Tc0, vF Tc1, vF Tc2, vF Ts0, vF Ts1, vI Dk, vF Dc0, vF Dc1, vF Dc2, vF Ds0, vF Ds1, vF g], .agg #[vS b'1 0 nLr c'1, vI ((i : Nat) : Int), vI Tk, vF Tc0, vF Tc1, vF Tc2, vF Ts0, vF Ts1, vI Dk, vF Dc0, vF Dc1, vF Dc2, vF Ds0, vF Ds1, vF g]]) (cap := []) rfl rfl rfl Try.call27 (c_eqString_cn nLr c'3 (some ⟨b'3, 0, none⟩) b'3 0 zs3 c'1 (some ⟨b'1, 0, none⟩) b'1 0 zs1 ((i : Nat) : Int) Tk Tc0 Tc0 Tc0 Tc1 Tc1 Tc1 Tc2 Tc2 Tc2 Ts0 Ts0 Ts0 Ts1 Ts1 Ts1 Dk Dc0 Dc0 Dc0 Dc1 Dc1 Dc1 Dc2 Dc2 Dc2 Ds0 Ds0 Ds0 Ds1 Ds1 Ds1 g g g h7 (fun _ => rfl) h8 h1 (fun _ => rfl) h2 (by first | assumption | exact Cn.refl _ | exact Cn.eq2 (by assumption) (by assumption)) (by omega) rfl rfl rfl rfl rfl rfl rfl rfl rfl rfl rfl rfl rfl rfl rfl rfl rfl rfl rfl rfl rfl rfl w26 ((r19.ext m24).mod m25 (nC (lE (lL r19.lt lR)) nN)).rng ((((((((((((((((((((((r3.ext m5).mod m6 (nC (lE (lL r3.lt lR)) nN)).ext m7).ext m8).mod m9 (nC (lE (lL (lL r3.lt (lT (lT m5.size m6.size) m7.size)) lR)) nN)).ext m10).ext m11).mod m12 (nC (lE (lL (lL r3.lt (lT (lT (lT (lT (lT m5.size m6.size) m7.size) m8.size) m9.size) m10.size)) lR)) nN)).ext m13).ext md1).ext m14).ext m15).ext m16).ext m17).mod m18 (nC (lE (lL (lL r3.lt (lT m5.size m6.size)) ge3)) nN)).ext m19).mod m20 (nC (lE (lL (lL r3.lt (lT (lT (lT (lT m5.size m6.size) m7.size) m8.size) m9.size)) ge4)) nN)).ext m21).ext m22).ext m23).ext m24).mod m25 (nC (lE (lL (lL r3.lt (lT (lT (lT (lT (lT (lT (lT (lT (lT (lT (lT (lT (lT (lT (lT (lT (lT (lT (lT m5.size m6.size) m7.size) m8.size) m9.size) m10.size) m11.size) m12.size) m13.size) md1.size) m14.size) m15.size) m16.size) m17.size) m18.size) m19.size) m20.size) m21.size) m22.size) m23.size)) lR)) nN)).rng)) rfl rfl (ltb rfl) ?_
  rintro _ w27 ⟨rfl, m26⟩
  refine WL.det (op_not rfl) rfl rfl rfl ?_
  refine WL.det (op_move rfl) rfl rfl rfl ?_
  refine WL.yes rfl rfl rfl (ltb rfl) rfl rfl ?_
  refine WL.det (op_move rfl) rfl rfl rfl ?_
  refine WL.yes rfl rfl rfl (ltb rfl) rfl rfl ?_
  refine WL.det (op_move rfl) rfl rfl rfl ?_
  refine WL.yes rfl rfl rfl (ltb rfl) rfl rfl ?_
  refine WL.det (op_nei rfl rfl) rfl rfl rfl ?_
  refine WL.det (op_pick_f rfl rfl rfl) rfl rfl rfl ?_
  refine WL.end ?_
  refine NE.code ?_
  refine CE.cond_f rfl rfl ?_
  refine CE.skip' ?_
  refine NE.code ?_
  refine CE.seq ?_
  refine CE.region ?_
  refine WL.det (op_assign rfl) rfl rfl rfl ?_
  refine WL.end ?_
  refine NE.code ?_
  refine CE.seq ?_
  refine CE.region ?_
  refine WL.det (op_loadA (i := 0) (cs := [vS b'2 0 nLr c'2, vI ((i : Nat) : Int), vI Tk, vF Tc0, vF Tc1, vF Tc2, vF Ts0, vF Ts1, vI Dk, vF Dc0, vF Dc1, vF Dc2, vF Ds0, vF Ds1, vF g]) rfl Try.isAgg33 Try.sizeOf33 (((((((((((((((r14.ext m13).ext md1).ext m14).ext m15).ext m16).ext m17).mod m18 (nC (lG (lL (lL r7.lt (lT (lT m8.size m9.size) m10.size)) lR)) nN)).ext m19).mod m20 (nC (lG (lL r11.lt lR)) nN)).ext m21).ext m22).ext m23).ext m24).mod m25 (nC (lE (lL (lL r12.lt (lT (lT (lT (lT (lT (lT (lT (lT (lT (lT (lT (lT m12.size m13.size) md1.size) m14.size) m15.size) m16.size) m17.size) m18.size) m19.size) m20.size) m21.size) m22.size) m23.size)) lR)) nN)).ext m26).rng rfl rfl rfl) rfl rfl rfl ?_
  refine WL.det (op_move rfl) rfl rfl rfl ?_
  refine WL.call (oc_call (vs := [.agg #[vS b'2 0 nLr c'2, vI ((i : Nat) : Int), vI Tk, vF Tc0, vF Tc1, vF Tc2, vF Ts0, vF Ts1, vI Dk, vF Dc0, vF Dc1, vF Dc2, vF Ds0, vF Ds1, vF g], vI 1]) (cap := []) rfl rfl rfl Try.call29 (c_heldString nLr c'2 b'2 (marks zs2 1 nLr) ((i : Nat) : Int) Tk Tc0 Tc1 Tc2 Ts0 Ts1 Dk Dc0 Dc1 Dc2 Ds0 Ds1 g 1 (marks_len h4 (Nat.le_refl _)) (by omega) (by omega) (by first | assumption | exact marks_held _ _ _) w27 ((((((r17.ext m21).ext m22).ext m23).ext m24).mod m25 (nC (lE (lL (lL r11.lt (lT (lT (lT (lT (lT (lT (lT (lT (lT (lT (lT (lT (lT m11.size m12.size) m13.size) md1.size) m14.size) m15.size) m16.size) m17.size) m18.size) m19.size) m20.size) m21.size) m22.size) m23.size)) lR)) nN)).ext m26).rng)) rfl rfl (ltb rfl) ?_
  rintro _ w28 ⟨rfl, m27⟩
  refine WL.det (op_assign rfl) rfl rfl rfl ?_
  refine WL.end ?_
  refine NE.code ?_
  refine CE.seq ?_
  refine CE.seq ?_
  refine CE.region ?_
  refine WL.det (op_move rfl) rfl rfl rfl ?_
  refine WL.det (op_lti_f rfl rfl (by omega)) rfl rfl rfl ?_
  refine WL.end ?_
  refine NE.code ?_
  refine CE.cond_f rfl rfl ?_
  refine CE.skip' ?_
  refine NE.code ?_
  refine CE.seq ?_
  refine CE.seq ?_
  refine CE.region ?_
  refine WL.det (op_move rfl) rfl rfl rfl ?_
  refine WL.det (op_move rfl) rfl rfl rfl ?_
  refine WL.det (op_nei_f rfl rfl rfl) rfl rfl rfl ?_
  refine WL.end ?_
  refine NE.code ?_
  refine CE.cond_f rfl rfl ?_
  refine CE.skip' ?_
  refine NE.code ?_
  refine CE.seq ?_
  refine CE.region ?_
  refine WL.det (op_assign rfl) rfl rfl rfl ?_
  refine WL.end ?_
  refine NE.code ?_
  refine CE.ret' ?_
  refine XE.leave1 Try.results5 rfl ?_
  refine ⟨rfl, (((((((((((((((((((((((((((((Mod.refl [] w).nt m1).nt m2).nt m3).nt m4).nt m5).then m6 ((aC (.inr (lT (lT (lT (lT m1.size m2.size) m3.size) m4.size) lR)) aN))).nt m7).nt m8).then m9 ((aC (.inr (lT (lT (lT (lT (lT (lT (lT m1.size m2.size) m3.size) m4.size) m5.size) m6.size) m7.size) lR)) aN))).nt m10).nt m11).then m12 ((aC (.inr (lT (lT (lT (lT (lT (lT (lT (lT (lT (lT m1.size m2.size) m3.size) m4.size) m5.size) m6.size) m7.size) m8.size) m9.size) m10.size) lR)) aN))).nt m13).nt md1).nt m14).nt m15).nt m16).nt m17).then m18 ((aC (.inr (lT (lT (lT (lT (lT (lT m1.size m2.size) m3.size) m4.size) m5.size) m6.size) ge3)) aN))).nt m19).then m20 ((aC (.inr (lT (lT (lT (lT (lT (lT (lT (lT (lT m1.size m2.size) m3.size) m4.size) m5.size) m6.size) m7.size) m8.size) m9.size) ge4)) aN))).nt m21).nt m22).nt m23).nt m24).then m25 ((aC (.inr (lT (lT (lT (lT (lT (lT (lT (lT (lT (lT (lT (lT (lT (lT (lT (lT (lT (lT (lT (lT (lT (lT (lT (lT m1.size m2.size) m3.size) m4.size) m5.size) m6.size) m7.size) m8.size) m9.size) m10.size) m11.size) m12.size) m13.size) md1.size) m14.size) m15.size) m16.size) m17.size) m18.size) m19.size) m20.size) m21.size) m22.size) m23.size) lR)) aN))).nt m26).nt m27)⟩

end Go.Proofs.Ytabfdgpldcegiaa
