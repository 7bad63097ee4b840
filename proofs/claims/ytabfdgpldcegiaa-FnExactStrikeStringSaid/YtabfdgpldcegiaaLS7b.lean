/- The law on striking a string, walked. -/
import Derived.Test.YtabfdgpldcegiaaG7
import Derived.Test.YtabfdgpldcegiaaE8
set_option linter.unusedVariables false
set_option linter.unusedSimpArgs false
namespace Go.Proofs.Ytabfdgpldcegiaa

set_option maxRecDepth 100000 in
set_option maxHeartbeats 8000000 in
theorem law_strike_inf (nLr : Nat) (cLr : Nat) (ALr : Option Addr) (bLr : Nat) (oLr : Nat) (xLr : List Nat) (Lj : Int) (Tk : Int) (Tc0 : Nat) (Tc1 : Nat) (Tc2 : Nat) (Ts0 : Nat) (Ts1 : Nat) (Dk : Int) (Dc0 : Nat) (Dc1 : Nat) (Dc2 : Nat) (Ds0 : Nat) (Ds1 : Nat) (g : Nat) (pl : Nat) (nH : Nat) (cH : Nat) (AH : Option Addr) (bH : Nat) (oH : Nat) (xH : List Nat) (lnLr : xLr.length = nLr) (hALr : 0 < nLr → ALr = some ⟨bLr, oLr, none⟩) (wLr : W32 xLr) (hn : nLr ≤ 1024) (lTs0 : Ts0 < wid .f32) (lTs1 : Ts1 < wid .f32) (lDs0 : Ds0 < wid .f32) (lDs1 : Ds1 < wid .f32) (hv : vStr nLr Lj Tk Tc0 Tc1 Tc2 Ts0 Ts1 Dk Dc0 Dc1 Dc2 Ds0 Ds1 g = true) (hnH : nH ≤ 1048576) (hp : placeF pl = true) (hf : allF xH nH = false) (lpl : pl < wid .f32) (lnH : xH.length = nH) (hAH : 0 < nH → AH = some ⟨bH, oH, none⟩) (wH : W32 xH) (w : World) (rLr : Rng w bLr oLr (fl xLr)) (rH : Rng w bH oH (fl xH)) : Cl Try.prog 8 #[.agg #[.slice ALr nLr cLr, vI Lj, vI Tk, vF Tc0, vF Tc1, vF Tc2, vF Ts0, vF Ts1, vI Dk, vF Dc0, vF Dc1, vF Dc2, vF Ds0, vF Ds1, vF g], vF pl, .slice AH nH cH] w fun v w' => v = .bool true ∧ Mod [] w w' := by
  refine Cl.of Try.func8 Try.ntmps8 rfl rfl (ρ := [(0, .agg #[.slice ALr nLr cLr, vI Lj, vI Tk, vF Tc0, vF Tc1, vF Tc2, vF Ts0, vF Ts1, vI Dk, vF Dc0, vF Dc1, vF Dc2, vF Ds0, vF Ds1, vF g]), (1, vF pl), (2, .slice AH nH cH)]) rfl ?_
  refine CE.seq ?_
  refine CE.region ?_
  refine WL.op (op_box (cs := [.slice ALr nLr cLr, vI Lj, vI Tk, vF Tc0, vF Tc1, vF Tc2, vF Ts0, vF Ts1, vI Dk, vF Dc0, vF Dc1, vF Dc2, vF Ds0, vF Ds1, vF g]) rfl rfl) rfl rfl (ltb rfl) ?_
  rintro _ w1 ⟨rfl, r1, m1, z1⟩
  refine WL.det (op_assign rfl) rfl rfl rfl ?_
  refine WL.end ?_
  refine NE.code ?_
  refine CE.seq ?_
  refine CE.seq ?_
  refine CE.region ?_
  refine WL.det (op_move rfl) rfl rfl rfl ?_
  refine WL.det (op_len rfl Try.runUnderlying24) rfl rfl rfl ?_
  refine WL.det (op_gti rfl rfl) rfl rfl rfl ?_
  refine WL.end ?_
  refine NE.code ?_
  refine CE.cond_f rfl (decide_eq_false (by omega)) ?_
  refine CE.skip' ?_
  refine NE.code ?_
  refine CE.seq ?_
  refine CE.region ?_
  refine WL.det (op_assign rfl) rfl rfl rfl ?_
  refine WL.end ?_
  refine NE.code ?_
  refine CE.seq ?_
  refine CE.region ?_
  refine WL.det (op_loadA (i := 0) (cs := [.slice ALr nLr cLr, vI Lj, vI Tk, vF Tc0, vF Tc1, vF Tc2, vF Ts0, vF Ts1, vI Dk, vF Dc0, vF Dc1, vF Dc2, vF Ds0, vF Ds1, vF g]) rfl Try.isAgg51 Try.sizeOf51 r1.rng rfl rfl rfl) rfl rfl rfl ?_
  refine WL.det (op_move rfl) rfl rfl rfl ?_
  refine WL.call (oc_call (vs := [.agg #[.slice ALr nLr cLr, vI Lj, vI Tk, vF Tc0, vF Tc1, vF Tc2, vF Ts0, vF Ts1, vI Dk, vF Dc0, vF Dc1, vF Dc2, vF Ds0, vF Ds1, vF g], vI 1048576]) (cap := []) rfl rfl rfl Try.call25 (c_szString 1048576 nLr cLr ALr Lj Tk Tc0 Tc1 Tc2 Ts0 Ts1 Dk Dc0 Dc1 Dc2 Ds0 Ds1 g (by omega) (by omega) w1)) rfl rfl (ltb rfl) ?_
  rintro _ w2 ⟨rfl, m2⟩
  refine WL.det (op_assign rfl) rfl rfl rfl ?_
  refine WL.end ?_
  refine NE.code ?_
  refine CE.seq ?_
  refine CE.seq ?_
  refine CE.region ?_
  refine WL.det (op_move rfl) rfl rfl rfl ?_
  refine WL.det (op_lti_f rfl rfl (by omega)) rfl rfl rfl ?_
  refine WL.end ?_
  refine NE.code ?_
  refine CE.cond_f rfl rfl ?_
  refine CE.skip' ?_
  refine NE.code ?_
  refine CE.seq ?_
  refine CE.region ?_
  refine WL.det (op_loadA (i := 0) (cs := [.slice ALr nLr cLr, vI Lj, vI Tk, vF Tc0, vF Tc1, vF Tc2, vF Ts0, vF Ts1, vI Dk, vF Dc0, vF Dc1, vF Dc2, vF Ds0, vF Ds1, vF g]) rfl Try.isAgg51 Try.sizeOf51 (r1.ext m2).rng rfl rfl rfl) rfl rfl rfl ?_
  refine WL.call (oc_call (vs := [.agg #[.slice ALr nLr cLr, vI Lj, vI Tk, vF Tc0, vF Tc1, vF Tc2, vF Ts0, vF Ts1, vI Dk, vF Dc0, vF Dc1, vF Dc2, vF Ds0, vF Ds1, vF g]]) (cap := []) rfl rfl rfl Try.call26 (c_toString nLr cLr ALr bLr oLr xLr Lj Tk Tc0 Tc1 Tc2 Ts0 Ts1 Dk Dc0 Dc1 Dc2 Ds0 Ds1 g lnLr hALr (by omega) w2 ((rLr.ext m1).ext m2))) rfl rfl (ltb rfl) ?_
  rintro _ w3 ⟨bLr'1, rfl, r2, ge1, m3⟩
  refine WL.det (op_move rfl) rfl rfl rfl ?_
  refine WL.det (op_move rfl) rfl rfl rfl ?_
  refine WL.call (oc_call (vs := [.slice AH nH cH]) (cap := []) rfl rfl rfl Try.call41 (c_to32 nH cH AH bH oH xH lnH hAH hnH w3 (((rH.ext m1).ext m2).ext m3))) rfl rfl (ltb rfl) ?_
  rintro _ w4 ⟨b'1, rfl, r3, ge2, m4⟩
  refine WL.call (oc_call (vs := [.agg #[vS bLr'1 0 nLr nLr, vI Lj, vI Tk, vF Tc0, vF Tc1, vF Tc2, vF Ts0, vF Ts1, vI Dk, vF Dc0, vF Dc1, vF Dc2, vF Ds0, vF Ds1, vF g], vF pl, vS b'1 0 nH nH]) (cap := []) rfl rfl rfl Try.call40 (c_sStrike_inf nLr nLr bLr'1 xLr Lj Tk Tc0 Tc1 Tc2 Ts0 Ts1 Dk Dc0 Dc1 Dc2 Ds0 Ds1 g pl nH nH b'1 xH lnLr (by omega) (by first | assumption | exact W32.get (by assumption) _ | decide +kernel) (by first | assumption | exact W32.get (by assumption) _ | decide +kernel) (by first | assumption | exact W32.get (by assumption) _ | decide +kernel) (by first | assumption | exact W32.get (by assumption) _ | decide +kernel) lpl hv hp hf lnH (by first | assumption | exact W32.set (by assumption) (by first | assumption | exact wid_lt (by assumption)) | exact W32.zeros _ | exact W32.nil) hnH w4 (r2.ext m4).rng r3.rng)) rfl rfl (ltb rfl) ?_
  rintro _ w5 ⟨rfl, m5⟩
  refine WL.det (op_move rfl) rfl rfl rfl ?_
  refine WL.det (op_extract rfl rfl) rfl rfl rfl ?_
  refine WL.det (op_extract rfl rfl) rfl rfl rfl ?_
  refine WL.op (op_alloc (cs := [.slice none 0 0, vI 0, vI 0, vF 0, vF 0, vF 0, vF 0, vF 0, vI 0, vF 0, vF 0, vF 0, vF 0, vF 0, vF 0]) Try.zeroValue33 rfl) rfl rfl (ltb rfl) ?_
  rintro _ w6 ⟨rfl, r4, m6, z2⟩
  refine WL.op0 (op_store (i := 0) (cs := [.slice none 0 0, vI 0, vI 0, vF 0, vF 0, vF 0, vF 0, vF 0, vI 0, vF 0, vF 0, vF 0, vF 0, vF 0, vF 0]) rfl rfl rfl Try.sizeOf33 rfl r4 rfl (lB rfl) rfl) rfl rfl ?_
  rintro _ w7 ⟨r5, m7, z3⟩
  have r6 : Row w7 w5.heap.size 0 [.slice none 0 0, vI 0, vI 0, vF 0, vF 0, vF 0, vF 0, vF 0, vI 0, vF 0, vF 0, vF 0, vF 0, vF 0, vF 0] := Row.congr r5 rfl
  refine WL.det (op_assign rfl) rfl rfl rfl ?_
  refine WL.end ?_
  refine NE.code ?_
  refine CE.seq ?_
  refine CE.region ?_
  refine WL.det (op_loadA (i := 0) (cs := [.slice ALr nLr cLr, vI Lj, vI Tk, vF Tc0, vF Tc1, vF Tc2, vF Ts0, vF Ts1, vI Dk, vF Dc0, vF Dc1, vF Dc2, vF Ds0, vF Ds1, vF g]) rfl Try.isAgg51 Try.sizeOf51 ((((((r1.ext m2).ext m3).ext m4).ext m5).ext m6).mod m7 (nC (lE (lL (lL r1.lt (lT (lT (lT m2.size m3.size) m4.size) m5.size)) lR)) nN)).rng rfl rfl rfl) rfl rfl rfl ?_
  refine WL.call (oc_call (vs := [.agg #[.slice ALr nLr cLr, vI Lj, vI Tk, vF Tc0, vF Tc1, vF Tc2, vF Ts0, vF Ts1, vI Dk, vF Dc0, vF Dc1, vF Dc2, vF Ds0, vF Ds1, vF g]]) (cap := []) rfl rfl rfl Try.call26 (c_toString nLr cLr ALr bLr oLr xLr Lj Tk Tc0 Tc1 Tc2 Ts0 Ts1 Dk Dc0 Dc1 Dc2 Ds0 Ds1 g lnLr hALr (by omega) w7 (Rng.youngS rLr ((((((rLr.ext m1).ext m2).ext m3).ext m4).ext m5).ext m6) m7 (allge_cons (lT (lT (lT (lT (lT m1.size m2.size) m3.size) m4.size) m5.size) lR) allge_nil)))) rfl rfl (ltb rfl) ?_
  rintro _ w8 ⟨bLr'2, rfl, r7, ge3, m8⟩
  refine WL.op (op_alloc (cs := [.slice none 0 0, vI 0, vI 0, vF 0, vF 0, vF 0, vF 0, vF 0, vI 0, vF 0, vF 0, vF 0, vF 0, vF 0, vF 0]) Try.zeroValue33 rfl) rfl rfl (ltb rfl) ?_
  rintro _ w9 ⟨rfl, r8, m9, z4⟩
  refine WL.op0 (op_store (i := 0) (cs := [vS bLr'2 0 nLr nLr, vI Lj, vI Tk, vF Tc0, vF Tc1, vF Tc2, vF Ts0, vF Ts1, vI Dk, vF Dc0, vF Dc1, vF Dc2, vF Ds0, vF Ds1, vF g]) rfl rfl rfl Try.sizeOf33 rfl r8 rfl (lB rfl) rfl) rfl rfl ?_
  rintro _ w10 ⟨r9, m10, z5⟩
  have r10 : Row w10 w8.heap.size 0 [vS bLr'2 0 nLr nLr, vI Lj, vI Tk, vF Tc0, vF Tc1, vF Tc2, vF Ts0, vF Ts1, vI Dk, vF Dc0, vF Dc1, vF Dc2, vF Ds0, vF Ds1, vF g] := Row.congr r9 rfl
  refine WL.end ?_
  refine NE.code ?_
  refine CE.seq ?_
  refine CE.region ?_
  refine WL.det (op_move rfl) rfl rfl rfl ?_
  refine WL.call (oc_call (vs := [.slice AH nH cH]) (cap := []) rfl rfl rfl Try.call41 (c_to32 nH cH AH bH oH xH lnH hAH hnH w10 (Rng.youngS rH (((Rng.youngS rH ((((((rH.ext m1).ext m2).ext m3).ext m4).ext m5).ext m6) m7 (allge_cons (lT (lT (lT (lT (lT m1.size m2.size) m3.size) m4.size) m5.size) lR) allge_nil)).ext m8).ext m9) m10 (allge_cons (lT (lT (lT (lT (lT (lT (lT (lT m1.size m2.size) m3.size) m4.size) m5.size) m6.size) m7.size) m8.size) lR) allge_nil)))) rfl rfl (ltb rfl) ?_
  rintro _ w11 ⟨b'2, rfl, r11, ge4, m11⟩
  refine WL.det (op_assign rfl) rfl rfl rfl ?_
  refine WL.end ?_
  refine NE.code ?_
  refine CE.seq ?_
  refine CE.region ?_
  refine WL.det (op_loadA (i := 0) (cs := [vS bLr'2 0 nLr nLr, vI Lj, vI Tk, vF Tc0, vF Tc1, vF Tc2, vF Ts0, vF Ts1, vI Dk, vF Dc0, vF Dc1, vF Dc2, vF Ds0, vF Ds1, vF g]) rfl Try.isAgg33 Try.sizeOf33 (r10.ext m11).rng rfl rfl rfl) rfl rfl rfl ?_
  refine WL.det (op_move rfl) rfl rfl rfl ?_
  refine WL.det (op_move rfl) rfl rfl rfl ?_
  refine WL.call (oc_call (vs := [.agg #[vS bLr'2 0 nLr nLr, vI Lj, vI Tk, vF Tc0, vF Tc1, vF Tc2, vF Ts0, vF Ts1, vI Dk, vF Dc0, vF Dc1, vF Dc2, vF Ds0, vF Ds1, vF g], vF pl, vS b'2 0 nH nH]) (cap := []) rfl rfl rfl Try.call42 (c_iStrike_inf nLr nLr bLr'2 xLr Lj Tk Tc0 Tc1 Tc2 Ts0 Ts1 Dk Dc0 Dc1 Dc2 Ds0 Ds1 g pl nH nH b'2 xH lnLr (by omega) (by first | assumption | exact W32.get (by assumption) _ | decide +kernel) (by first | assumption | exact W32.get (by assumption) _ | decide +kernel) (by first | assumption | exact W32.get (by assumption) _ | decide +kernel) (by first | assumption | exact W32.get (by assumption) _ | decide +kernel) lpl hv hp hf lnH (by first | assumption | exact W32.set (by assumption) (by first | assumption | exact wid_lt (by assumption)) | exact W32.zeros _ | exact W32.nil) hnH w11 (((r7.ext m9).mod m10 (nC (lE (lL r7.lt lR)) nN)).ext m11).rng r11.rng)) rfl rfl (ltb rfl) ?_
  rintro _ w12 ⟨rfl, m12⟩
  refine WL.det (op_move rfl) rfl rfl rfl ?_
  refine WL.det (op_extract rfl rfl) rfl rfl rfl ?_
  refine WL.det (op_extract rfl rfl) rfl rfl rfl ?_
  refine WL.op (op_alloc (cs := [.slice none 0 0, vI 0, vI 0, vF 0, vF 0, vF 0, vF 0, vF 0, vI 0, vF 0, vF 0, vF 0, vF 0, vF 0, vF 0]) Try.zeroValue33 rfl) rfl rfl (ltb rfl) ?_
  rintro _ w13 ⟨rfl, r12, m13, z6⟩
  refine WL.op0 (op_store (i := 0) (cs := [.slice none 0 0, vI 0, vI 0, vF 0, vF 0, vF 0, vF 0, vF 0, vI 0, vF 0, vF 0, vF 0, vF 0, vF 0, vF 0]) rfl rfl rfl Try.sizeOf33 rfl r12 rfl (lB rfl) rfl) rfl rfl ?_
  rintro _ w14 ⟨r13, m14, z7⟩
  have r14 : Row w14 w12.heap.size 0 [.slice none 0 0, vI 0, vI 0, vF 0, vF 0, vF 0, vF 0, vF 0, vI 0, vF 0, vF 0, vF 0, vF 0, vF 0, vF 0] := Row.congr r13 rfl
  refine WL.det (op_assign rfl) rfl rfl rfl ?_
  refine WL.end ?_
  refine NE.code ?_
  refine CE.seq ?_
  refine CE.seq ?_
  refine CE.region ?_
  refine WL.det (op_loadA (i := 0) (cs := [.slice none 0 0, vI 0, vI 0, vF 0, vF 0, vF 0, vF 0, vF 0, vI 0, vF 0, vF 0, vF 0, vF 0, vF 0, vF 0]) rfl Try.isAgg33 Try.sizeOf33 r14.rng rfl rfl rfl) rfl rfl rfl ?_
  refine WL.det (op_loadA (i := 0) (cs := [.slice none 0 0, vI 0, vI 0, vF 0, vF 0, vF 0, vF 0, vF 0, vI 0, vF 0, vF 0, vF 0, vF 0, vF 0, vF 0]) rfl Try.isAgg33 Try.sizeOf33 (((((((r6.ext m8).ext m9).mod m10 (nC (lE (lL (lL r4.lt (lT m7.size m8.size)) lR)) nN)).ext m11).ext m12).ext m13).mod m14 (nC (lE (lL (lL r4.lt (lT (lT (lT (lT (lT m7.size m8.size) m9.size) m10.size) m11.size) m12.size)) lR)) nN)).rng rfl rfl rfl) rfl rfl rfl ?_
  refine WL.call (oc_call (vs := [.agg #[.slice none 0 0, vI 0, vI 0, vF 0, vF 0, vF 0, vF 0, vF 0, vI 0, vF 0, vF 0, vF 0, vF 0, vF 0, vF 0], .agg #[.slice none 0 0, vI 0, vI 0, vF 0, vF 0, vF 0, vF 0, vF 0, vI 0, vF 0, vF 0, vF 0, vF 0, vF 0, vF 0]]) (cap := []) rfl rfl rfl Try.call27 (c_eqString 0 0 none 0 0 [] (0 : Int) (0 : Int) 0 0 0 0 0 0 0 0 0 0 (0 : Int) 0 0 0 0 0 0 0 0 0 0 0 0 0 none 0 0 0 0 0 0 0 0 0 0 0 0 0 rfl (fun h => absurd h (Nat.lt_irrefl _)) (fun h => absurd h (Nat.lt_irrefl _)) rfl rfl rfl rfl rfl rfl rfl rfl rfl rfl rfl rfl rfl rfl rfl rfl rfl rfl rfl rfl rfl rfl (by omega) w14 (Rng.nil _ _ _) (Rng.nil _ _ _))) rfl rfl (ltb rfl) ?_
  rintro _ w15 ⟨rfl, m15⟩
  refine WL.det (op_not rfl) rfl rfl rfl ?_
  refine WL.det (op_move rfl) rfl rfl rfl ?_
  refine WL.yes rfl rfl rfl (ltb rfl) rfl rfl ?_
  refine WL.det (op_move rfl) rfl rfl rfl ?_
  refine WL.yes rfl rfl rfl (ltb rfl) rfl rfl ?_
  refine WL.det (op_move rfl) rfl rfl rfl ?_
  refine WL.yes rfl rfl rfl (ltb rfl) rfl rfl ?_
  refine WL.det (op_nei rfl rfl) rfl rfl rfl ?_
  refine WL.det (op_pick_f rfl rfl rfl) rfl rfl rfl ?_
  refine WL.end ?_
  refine NE.code ?_
  refine CE.cond_f rfl rfl ?_
  refine CE.skip' ?_
  refine NE.code ?_
  refine CE.seq ?_
  refine CE.seq ?_
  refine CE.draw (fun | 2 => some (fun _ wA uA wB => ∃ (bLr' : Nat), uA = .agg #[vS bLr' 0 nLr nLr, vI Lj, vI Tk, vF Tc0, vF Tc1, vF Tc2, vF Ts0, vF Ts1, vI Dk, vF Dc0, vF Dc1, vF Dc2, vF Ds0, vF Ds1, vF g] ∧ Row wB bLr' 0 (fl xLr) ∧ wA.heap.size ≤ bLr' ∧ Mod [] wA wB) | _ => none) [0, 1, 2] [3, 4] [] (by kernel_rfl) (by kernel_rfl) ?_
  have md1 : Mod [] w15 w15.drew := (Mod.refl _ _).drew
  generalize w15.drew = w16 at md1 ⊢
  refine DR.det (i := 0) rfl rfl (by kernel_rfl) (.free rfl) rfl rfl (fun wD mD => op_loadA (i := 0) (cs := [vS bLr'2 0 nLr nLr, vI Lj, vI Tk, vF Tc0, vF Tc1, vF Tc2, vF Ts0, vF Ts1, vI Dk, vF Dc0, vF Dc1, vF Dc2, vF Ds0, vF Ds1, vF g]) rfl Try.isAgg33 Try.sizeOf33 (((((((r10.ext m11).ext m12).ext m13).mod m14 (nC (lE (lL (lL r8.lt (lT (lT m10.size m11.size) m12.size)) lR)) nN)).ext m15).ext md1).ext mD).rng rfl rfl rfl) ?_
  refine DR.det (i := 1) rfl rfl (by kernel_rfl) (.free rfl) rfl rfl (fun wD mD => op_loadA (i := 0) (cs := [.slice ALr nLr cLr, vI Lj, vI Tk, vF Tc0, vF Tc1, vF Tc2, vF Ts0, vF Ts1, vI Dk, vF Dc0, vF Dc1, vF Dc2, vF Ds0, vF Ds1, vF g]) rfl Try.isAgg51 Try.sizeOf51 ((((((((((((((((r1.ext m2).ext m3).ext m4).ext m5).ext m6).mod m7 (nC (lE (lL (lL r1.lt (lT (lT (lT m2.size m3.size) m4.size) m5.size)) lR)) nN)).ext m8).ext m9).mod m10 (nC (lE (lL (lL r1.lt (lT (lT (lT (lT (lT (lT m2.size m3.size) m4.size) m5.size) m6.size) m7.size) m8.size)) lR)) nN)).ext m11).ext m12).ext m13).mod m14 (nC (lE (lL (lL r1.lt (lT (lT (lT (lT (lT (lT (lT (lT (lT (lT m2.size m3.size) m4.size) m5.size) m6.size) m7.size) m8.size) m9.size) m10.size) m11.size) m12.size)) lR)) nN)).ext m15).ext md1).ext mD).rng rfl rfl rfl) ?_
  refine DR.one (i := 2) rfl rfl (by kernel_rfl) (.free rfl) rfl (ltb rfl) (vs := [.func (.func 26) #[] #[], .agg #[.slice ALr nLr cLr, vI Lj, vI Tk, vF Tc0, vF Tc1, vF Tc2, vF Ts0, vF Ts1, vI Dk, vF Dc0, vF Dc1, vF Dc2, vF Ds0, vF Ds1, vF g]]) rfl ?_
  intro w17 m16
  refine ⟨oc_call (vs := [.agg #[.slice ALr nLr cLr, vI Lj, vI Tk, vF Tc0, vF Tc1, vF Tc2, vF Ts0, vF Ts1, vI Dk, vF Dc0, vF Dc1, vF Dc2, vF Ds0, vF Ds1, vF g]]) (cap := []) rfl rfl rfl Try.call26 (c_toString nLr cLr ALr bLr oLr xLr Lj Tk Tc0 Tc1 Tc2 Ts0 Ts1 Dk Dc0 Dc1 Dc2 Ds0 Ds1 g lnLr hALr (by omega) w17 ((((Rng.youngS rLr ((((Rng.youngS rLr (((Rng.youngS rLr ((((((rLr.ext m1).ext m2).ext m3).ext m4).ext m5).ext m6) m7 (allge_cons (lT (lT (lT (lT (lT m1.size m2.size) m3.size) m4.size) m5.size) lR) allge_nil)).ext m8).ext m9) m10 (allge_cons (lT (lT (lT (lT (lT (lT (lT (lT m1.size m2.size) m3.size) m4.size) m5.size) m6.size) m7.size) m8.size) lR) allge_nil)).ext m11).ext m12).ext m13) m14 (allge_cons (lT (lT (lT (lT (lT (lT (lT (lT (lT (lT (lT (lT m1.size m2.size) m3.size) m4.size) m5.size) m6.size) m7.size) m8.size) m9.size) m10.size) m11.size) m12.size) lR) allge_nil)).ext m15).ext md1).ext m16)), ?_⟩
  rintro _ w18 ⟨bLr'3, rfl, r15, ge5, m17⟩
  refine ⟨(((Mod.refl [] w16).nt m16).nt m17), ?_⟩
  refine DR.done rfl ?_
  intro w19 m18
  refine WO.call rfl (.free rfl) rfl (ltb rfl) (oc_call (vs := [.agg #[vS bLr'2 0 nLr nLr, vI Lj, vI Tk, vF Tc0, vF Tc1, vF Tc2, vF Ts0, vF Ts1, vI Dk, vF Dc0, vF Dc1, vF Dc2, vF Ds0, vF Ds1, vF g], .agg #[vS bLr'3 0 nLr nLr, vI Lj, vI Tk, vF Tc0, vF Tc1, vF Tc2, vF Ts0, vF Ts1, vI Dk, vF Dc0, vF Dc1, vF Dc2, vF Ds0, vF Ds1, vF g]]) (cap := []) rfl rfl rfl Try.call27 (c_eqString nLr nLr (some ⟨bLr'2, 0, none⟩) bLr'2 0 xLr Lj Tk Tc0 Tc0 Tc1 Tc1 Tc2 Tc2 Ts0 Ts0 Ts1 Ts1 Dk Dc0 Dc0 Dc1 Dc1 Dc2 Dc2 Ds0 Ds0 Ds1 Ds1 g g nLr (some ⟨bLr'3, 0, none⟩) bLr'3 0 Tc0 Tc1 Tc2 Ts0 Ts1 Dc0 Dc1 Dc2 Ds0 Ds1 g lnLr (fun _ => rfl) (fun _ => rfl) rfl rfl rfl rfl rfl rfl rfl rfl rfl rfl rfl rfl rfl rfl rfl rfl rfl rfl rfl rfl rfl rfl (by omega) w19 (((((((((((r7.ext m9).mod m10 (nC (lE (lL r7.lt lR)) nN)).ext m11).ext m12).ext m13).mod m14 (nC (lE (lL (lL r7.lt (lT (lT (lT m9.size m10.size) m11.size) m12.size)) lR)) nN)).ext m15).ext md1).ext m16).ext m17).ext m18).rng (r15.ext m18).rng)) ?_
  rintro _ w20 ⟨rfl, m19⟩
  refine WO.det (op_not rfl) rfl (.free rfl) rfl rfl ?_
  refine WO.end ?_
  refine NE.code ?_
  refine CE.cond_f rfl rfl ?_
  refine CE.skip' ?_
  refine NE.code ?_
  refine CE.seq ?_
  refine CE.seq ?_
  refine CE.region ?_
  refine WL.det (op_move rfl) rfl rfl rfl ?_
  refine WL.det (op_move rfl) rfl rfl rfl ?_
  refine WL.call (oc_call (vs := [.slice AH nH cH]) (cap := []) rfl rfl rfl Try.call41 (c_to32 nH cH AH bH oH xH lnH hAH hnH w20 (((((((Rng.youngS rH ((((Rng.youngS rH (((Rng.youngS rH ((((((rH.ext m1).ext m2).ext m3).ext m4).ext m5).ext m6) m7 (allge_cons (lT (lT (lT (lT (lT m1.size m2.size) m3.size) m4.size) m5.size) lR) allge_nil)).ext m8).ext m9) m10 (allge_cons (lT (lT (lT (lT (lT (lT (lT (lT m1.size m2.size) m3.size) m4.size) m5.size) m6.size) m7.size) m8.size) lR) allge_nil)).ext m11).ext m12).ext m13) m14 (allge_cons (lT (lT (lT (lT (lT (lT (lT (lT (lT (lT (lT (lT m1.size m2.size) m3.size) m4.size) m5.size) m6.size) m7.size) m8.size) m9.size) m10.size) m11.size) m12.size) lR) allge_nil)).ext m15).ext md1).ext m16).ext m17).ext m18).ext m19))) rfl rfl (ltb rfl) ?_
  rintro _ w21 ⟨b'3, rfl, r16, ge6, m20⟩
  refine WL.call (oc_call (vs := [vS b'2 0 nH nH, vS b'3 0 nH nH]) (cap := []) rfl rfl rfl Try.call43 (c_eq32_same nH nH (some ⟨b'2, 0, none⟩) b'2 0 xH nH (some ⟨b'3, 0, none⟩) b'3 0 lnH (fun _ => rfl) (fun _ => rfl) (by omega) w21 ((((((((((r11.ext m12).ext m13).mod m14 (nC (lE (lL (lL r11.lt m12.size) lR)) nN)).ext m15).ext md1).ext m16).ext m17).ext m18).ext m19).ext m20).rng r16.rng)) rfl rfl (ltb rfl) ?_
  rintro _ w22 ⟨rfl, m21⟩
  refine WL.det (op_not rfl) rfl rfl rfl ?_
  refine WL.end ?_
  refine NE.code ?_
  refine CE.cond_f rfl rfl ?_
  refine CE.skip' ?_
  refine NE.code ?_
  refine CE.seq ?_
  refine CE.region ?_
  refine WL.det (op_assign rfl) rfl rfl rfl ?_
  refine WL.end ?_
  refine NE.code ?_
  refine CE.seq ?_
  refine CE.region ?_
  refine WL.det (op_loadA (i := 0) (cs := [vS bLr'2 0 nLr nLr, vI Lj, vI Tk, vF Tc0, vF Tc1, vF Tc2, vF Ts0, vF Ts1, vI Dk, vF Dc0, vF Dc1, vF Dc2, vF Ds0, vF Ds1, vF g]) rfl Try.isAgg33 Try.sizeOf33 ((((((((((((r10.ext m11).ext m12).ext m13).mod m14 (nC (lE (lL (lL r8.lt (lT (lT m10.size m11.size) m12.size)) lR)) nN)).ext m15).ext md1).ext m16).ext m17).ext m18).ext m19).ext m20).ext m21).rng rfl rfl rfl) rfl rfl rfl ?_
  refine WL.det (op_move rfl) rfl rfl rfl ?_
  refine WL.call (oc_call (vs := [.agg #[vS bLr'2 0 nLr nLr, vI Lj, vI Tk, vF Tc0, vF Tc1, vF Tc2, vF Ts0, vF Ts1, vI Dk, vF Dc0, vF Dc1, vF Dc2, vF Ds0, vF Ds1, vF g], vI 1]) (cap := []) rfl rfl rfl Try.call28 (c_markString nLr nLr bLr'2 xLr Lj Tk Tc0 Tc1 Tc2 Ts0 Ts1 Dk Dc0 Dc1 Dc2 Ds0 Ds1 g 1 lnLr (by omega) (by omega) w22 ((((((((((((((r7.ext m9).mod m10 (nC (lE (lL r7.lt lR)) nN)).ext m11).ext m12).ext m13).mod m14 (nC (lE (lL (lL r7.lt (lT (lT (lT m9.size m10.size) m11.size) m12.size)) lR)) nN)).ext m15).ext md1).ext m16).ext m17).ext m18).ext m19).ext m20).ext m21))) rfl rfl (ltb rfl) ?_
  rintro _ w23 ⟨rfl, r17, m22⟩
  refine WL.det (op_assign rfl) rfl rfl rfl ?_
  refine WL.end ?_
  refine NE.code ?_
  refine CE.seq ?_
  refine CE.region ?_
  refine WL.det (op_move rfl) rfl rfl rfl ?_
  refine WL.det (op_move rfl) rfl rfl rfl ?_
  refine WL.call (oc_call (vs := [vS b'2 0 nH nH, vI ((1 + nLr : Nat) : Int)]) (cap := []) rfl rfl rfl Try.call44 (c_mark32 nH nH (some ⟨b'2, 0, none⟩) b'2 0 xH (1 + nLr) lnH (fun _ => rfl) hnH (by first | assumption | omega) w23 ((((((((((((r11.ext m12).ext m13).mod m14 (nC (lE (lL (lL r11.lt m12.size) lR)) nN)).ext m15).ext md1).ext m16).ext m17).ext m18).ext m19).ext m20).ext m21).mod m22 (nC (lG (lL (lL r7.lt (lT m9.size m10.size)) ge4)) nN)))) rfl rfl (ltb rfl) ?_
  rintro _ w24 ⟨rfl, r18, m23⟩
  refine WL.det (op_assign rfl) rfl rfl rfl ?_
  refine WL.end ?_
  refine NE.code ?_
  refine CE.seq ?_
  refine CE.seq ?_
  refine CE.region ?_
  refine WL.det (op_move rfl) rfl rfl rfl ?_
  refine WL.det (op_lti_f rfl rfl (by omega)) rfl rfl rfl ?_
  refine WL.det (op_move rfl) rfl rfl rfl ?_
  refine WL.yes rfl rfl rfl (ltb rfl) rfl rfl ?_
  refine WL.det (op_loadA (i := 0) (cs := [.slice none 0 0, vI 0, vI 0, vF 0, vF 0, vF 0, vF 0, vF 0, vI 0, vF 0, vF 0, vF 0, vF 0, vF 0, vF 0]) rfl Try.isAgg33 Try.sizeOf33 ((((((((((r14.ext m15).ext md1).ext m16).ext m17).ext m18).ext m19).ext m20).ext m21).mod m22 (nC (lG (lL (lL r7.lt (lT (lT (lT m9.size m10.size) m11.size) m12.size)) lR)) nN)).mod m23 (nC (lG (lL (lL r11.lt m12.size) lR)) nN)).rng rfl rfl rfl) rfl rfl rfl ?_
  refine WL.yes rfl rfl rfl (ltb rfl) rfl rfl ?_
  refine WL.det (op_loadA (i := 0) (cs := [.slice none 0 0, vI 0, vI 0, vF 0, vF 0, vF 0, vF 0, vF 0, vI 0, vF 0, vF 0, vF 0, vF 0, vF 0, vF 0]) rfl Try.isAgg33 Try.sizeOf33 (((((((((((((((((r6.ext m8).ext m9).mod m10 (nC (lE (lL (lL r4.lt (lT m7.size m8.size)) lR)) nN)).ext m11).ext m12).ext m13).mod m14 (nC (lE (lL (lL r4.lt (lT (lT (lT (lT (lT m7.size m8.size) m9.size) m10.size) m11.size) m12.size)) lR)) nN)).ext m15).ext md1).ext m16).ext m17).ext m18).ext m19).ext m20).ext m21).mod m22 (nC (lE (lL (lL r4.lt m7.size) ge3)) nN)).mod m23 (nC (lE (lL (lL r4.lt (lT (lT (lT m7.size m8.size) m9.size) m10.size)) ge4)) nN)).rng rfl rfl rfl) rfl rfl rfl ?_
  refine WL.yes rfl rfl rfl (ltb rfl) rfl rfl ?_
  refine WL.call (oc_call (vs := [.agg #[.slice none 0 0, vI 0, vI 0, vF 0, vF 0, vF 0, vF 0, vF 0, vI 0, vF 0, vF 0, vF 0, vF 0, vF 0, vF 0], .agg #[.slice none 0 0, vI 0, vI 0, vF 0, vF 0, vF 0, vF 0, vF 0, vI 0, vF 0, vF 0, vF 0, vF 0, vF 0, vF 0]]) (cap := []) rfl rfl rfl Try.call27 (c_eqString 0 0 none 0 0 [] (0 : Int) (0 : Int) 0 0 0 0 0 0 0 0 0 0 (0 : Int) 0 0 0 0 0 0 0 0 0 0 0 0 0 none 0 0 0 0 0 0 0 0 0 0 0 0 0 rfl (fun h => absurd h (Nat.lt_irrefl _)) (fun h => absurd h (Nat.lt_irrefl _)) rfl rfl rfl rfl rfl rfl rfl rfl rfl rfl rfl rfl rfl rfl rfl rfl rfl rfl rfl rfl rfl rfl (by omega) w24 (Rng.nil _ _ _) (Rng.nil _ _ _))) rfl rfl (ltb rfl) ?_
  rintro _ w25 ⟨rfl, m24⟩
  refine WL.yes rfl rfl rfl (ltb rfl) rfl rfl ?_
  refine WL.det (op_not rfl) rfl rfl rfl ?_
  refine WL.det (op_pick_f rfl rfl rfl) rfl rfl rfl ?_
  refine WL.det (op_move rfl) rfl rfl rfl ?_
  refine WL.yes rfl rfl rfl (ltb rfl) rfl rfl ?_
  refine WL.det (op_move rfl) rfl rfl rfl ?_
  refine WL.yes rfl rfl rfl (ltb rfl) rfl rfl ?_
  refine WL.det (op_move rfl) rfl rfl rfl ?_
  refine WL.yes rfl rfl rfl (ltb rfl) rfl rfl ?_
  refine WL.det (op_nei rfl rfl) rfl rfl rfl ?_
  refine WL.det (op_pick_f rfl rfl rfl) rfl rfl rfl ?_
  refine WL.end ?_
  refine NE.code ?_
  refine CE.cond_f rfl rfl ?_
  refine CE.skip' ?_
  refine NE.code ?_
  refine CE.seq ?_
  refine CE.region ?_
  refine WL.det (op_assign rfl) rfl rfl rfl ?_
  refine WL.end ?_
  refine NE.code ?_
  refine CE.seq ?_
  refine CE.region ?_
  refine WL.det (op_loadA (i := 0) (cs := [.slice none 0 0, vI 0, vI 0, vF 0, vF 0, vF 0, vF 0, vF 0, vI 0, vF 0, vF 0, vF 0, vF 0, vF 0, vF 0]) rfl Try.isAgg33 Try.sizeOf33 (((((((((((r14.ext m15).ext md1).ext m16).ext m17).ext m18).ext m19).ext m20).ext m21).mod m22 (nC (lG (lL (lL r7.lt (lT (lT (lT m9.size m10.size) m11.size) m12.size)) lR)) nN)).mod m23 (nC (lG (lL (lL r11.lt m12.size) lR)) nN)).ext m24).rng rfl rfl rfl) rfl rfl rfl ?_
  refine WL.det (op_move rfl) rfl rfl rfl ?_
  refine WL.call (oc_call (vs := [.agg #[.slice none 0 0, vI 0, vI 0, vF 0, vF 0, vF 0, vF 0, vF 0, vI 0, vF 0, vF 0, vF 0, vF 0, vF 0, vF 0], vI 1]) (cap := []) rfl rfl rfl Try.call28 (c_markString_nil (0 : Int) (0 : Int) 0 0 0 0 0 (0 : Int) 0 0 0 0 0 0 1 (by omega) w25)) rfl rfl (ltb rfl) ?_
  rintro _ w26 ⟨rfl, m25⟩
  refine WL.det (op_assign rfl) rfl rfl rfl ?_
  refine WL.end ?_
  refine NE.code ?_
  refine CE.seq ?_
  refine CE.region ?_
  refine WL.det (op_assign rfl) rfl rfl rfl ?_
  refine WL.end ?_
  refine NE.code ?_
  refine CE.seq ?_
  refine CE.region ?_
  refine WL.det (op_loadA (i := 0) (cs := [.slice none 0 0, vI 0, vI 0, vF 0, vF 0, vF 0, vF 0, vF 0, vI 0, vF 0, vF 0, vF 0, vF 0, vF 0, vF 0]) rfl Try.isAgg33 Try.sizeOf33 ((((((((((((r14.ext m15).ext md1).ext m16).ext m17).ext m18).ext m19).ext m20).ext m21).mod m22 (nC (lG (lL (lL r7.lt (lT (lT (lT m9.size m10.size) m11.size) m12.size)) lR)) nN)).mod m23 (nC (lG (lL (lL r11.lt m12.size) lR)) nN)).ext m24).ext m25).rng rfl rfl rfl) rfl rfl rfl ?_
  refine WL.det (op_move rfl) rfl rfl rfl ?_
  refine WL.call (oc_call (vs := [.agg #[.slice none 0 0, vI 0, vI 0, vF 0, vF 0, vF 0, vF 0, vF 0, vI 0, vF 0, vF 0, vF 0, vF 0, vF 0, vF 0], vI 1]) (cap := []) rfl rfl rfl Try.call29 (c_heldString_nil (0 : Int) (0 : Int) 0 0 0 0 0 (0 : Int) 0 0 0 0 0 0 1 (by omega) w26)) rfl rfl (ltb rfl) ?_
  rintro _ w27 ⟨rfl, m26⟩
  refine WL.det (op_assign rfl) rfl rfl rfl ?_
  refine WL.end ?_
  refine NE.code ?_
  refine CE.seq ?_
  refine CE.seq ?_
  refine CE.region ?_
  refine WL.det (op_move rfl) rfl rfl rfl ?_
  refine WL.det (op_lti rfl rfl) rfl rfl rfl ?_
  refine WL.end ?_
  refine NE.code ?_
  refine CE.cond_f rfl rfl ?_
  refine CE.skip' ?_
  refine NE.code ?_
  refine CE.seq ?_
  refine CE.seq ?_
  refine CE.region ?_
  refine WL.det (op_move rfl) rfl rfl rfl ?_
  refine WL.det (op_move rfl) rfl rfl rfl ?_
  refine WL.det (op_nei rfl rfl) rfl rfl rfl ?_
  refine WL.end ?_
  refine NE.code ?_
  refine CE.cond_f rfl rfl ?_
  refine CE.skip' ?_
  refine NE.code ?_
  refine CE.seq ?_
  refine CE.region ?_
  refine WL.det (op_loadA (i := 0) (cs := [.slice ALr nLr cLr, vI Lj, vI Tk, vF Tc0, vF Tc1, vF Tc2, vF Ts0, vF Ts1, vI Dk, vF Dc0, vF Dc1, vF Dc2, vF Ds0, vF Ds1, vF g]) rfl Try.isAgg51 Try.sizeOf51 ((((((((((((((((((((((((((r1.ext m2).ext m3).ext m4).ext m5).ext m6).mod m7 (nC (lE (lL (lL r1.lt (lT (lT (lT m2.size m3.size) m4.size) m5.size)) lR)) nN)).ext m8).ext m9).mod m10 (nC (lE (lL (lL r1.lt (lT (lT (lT (lT (lT (lT m2.size m3.size) m4.size) m5.size) m6.size) m7.size) m8.size)) lR)) nN)).ext m11).ext m12).ext m13).mod m14 (nC (lE (lL (lL r1.lt (lT (lT (lT (lT (lT (lT (lT (lT (lT (lT m2.size m3.size) m4.size) m5.size) m6.size) m7.size) m8.size) m9.size) m10.size) m11.size) m12.size)) lR)) nN)).ext m15).ext md1).ext m16).ext m17).ext m18).ext m19).ext m20).ext m21).mod m22 (nC (lE (lL (lL r1.lt (lT (lT (lT (lT (lT m2.size m3.size) m4.size) m5.size) m6.size) m7.size)) ge3)) nN)).mod m23 (nC (lE (lL (lL r1.lt (lT (lT (lT (lT (lT (lT (lT (lT m2.size m3.size) m4.size) m5.size) m6.size) m7.size) m8.size) m9.size) m10.size)) ge4)) nN)).ext m24).ext m25).ext m26).rng rfl rfl rfl) rfl rfl rfl ?_
  refine WL.call (oc_call (vs := [.agg #[.slice ALr nLr cLr, vI Lj, vI Tk, vF Tc0, vF Tc1, vF Tc2, vF Ts0, vF Ts1, vI Dk, vF Dc0, vF Dc1, vF Dc2, vF Ds0, vF Ds1, vF g]]) (cap := []) rfl rfl rfl Try.call26 (c_toString nLr cLr ALr bLr oLr xLr Lj Tk Tc0 Tc1 Tc2 Ts0 Ts1 Dk Dc0 Dc1 Dc2 Ds0 Ds1 g lnLr hALr (by omega) w27 ((((Rng.youngS rLr (Rng.youngS rLr (((((((((Rng.youngS rLr ((((Rng.youngS rLr (((Rng.youngS rLr ((((((rLr.ext m1).ext m2).ext m3).ext m4).ext m5).ext m6) m7 (allge_cons (lT (lT (lT (lT (lT m1.size m2.size) m3.size) m4.size) m5.size) lR) allge_nil)).ext m8).ext m9) m10 (allge_cons (lT (lT (lT (lT (lT (lT (lT (lT m1.size m2.size) m3.size) m4.size) m5.size) m6.size) m7.size) m8.size) lR) allge_nil)).ext m11).ext m12).ext m13) m14 (allge_cons (lT (lT (lT (lT (lT (lT (lT (lT (lT (lT (lT (lT m1.size m2.size) m3.size) m4.size) m5.size) m6.size) m7.size) m8.size) m9.size) m10.size) m11.size) m12.size) lR) allge_nil)).ext m15).ext md1).ext m16).ext m17).ext m18).ext m19).ext m20).ext m21) m22 (allge_cons (lT (lT (lT (lT (lT (lT (lT m1.size m2.size) m3.size) m4.size) m5.size) m6.size) m7.size) ge3) allge_nil)) m23 (allge_cons (lT (lT (lT (lT (lT (lT (lT (lT (lT (lT m1.size m2.size) m3.size) m4.size) m5.size) m6.size) m7.size) m8.size) m9.size) m10.size) ge4) allge_nil)).ext m24).ext m25).ext m26))) rfl rfl (ltb rfl) ?_
  rintro _ w28 ⟨bLr'4, rfl, r19, ge7, m27⟩
  refine WL.det (op_move rfl) rfl rfl rfl ?_
  refine WL.det (op_move rfl) rfl rfl rfl ?_
  refine WL.call (oc_call (vs := [.slice AH nH cH]) (cap := []) rfl rfl rfl Try.call41 (c_to32 nH cH AH bH oH xH lnH hAH hnH w28 (((((Rng.youngS rH (Rng.youngS rH (((((((((Rng.youngS rH ((((Rng.youngS rH (((Rng.youngS rH ((((((rH.ext m1).ext m2).ext m3).ext m4).ext m5).ext m6) m7 (allge_cons (lT (lT (lT (lT (lT m1.size m2.size) m3.size) m4.size) m5.size) lR) allge_nil)).ext m8).ext m9) m10 (allge_cons (lT (lT (lT (lT (lT (lT (lT (lT m1.size m2.size) m3.size) m4.size) m5.size) m6.size) m7.size) m8.size) lR) allge_nil)).ext m11).ext m12).ext m13) m14 (allge_cons (lT (lT (lT (lT (lT (lT (lT (lT (lT (lT (lT (lT m1.size m2.size) m3.size) m4.size) m5.size) m6.size) m7.size) m8.size) m9.size) m10.size) m11.size) m12.size) lR) allge_nil)).ext m15).ext md1).ext m16).ext m17).ext m18).ext m19).ext m20).ext m21) m22 (allge_cons (lT (lT (lT (lT (lT (lT (lT m1.size m2.size) m3.size) m4.size) m5.size) m6.size) m7.size) ge3) allge_nil)) m23 (allge_cons (lT (lT (lT (lT (lT (lT (lT (lT (lT (lT m1.size m2.size) m3.size) m4.size) m5.size) m6.size) m7.size) m8.size) m9.size) m10.size) ge4) allge_nil)).ext m24).ext m25).ext m26).ext m27))) rfl rfl (ltb rfl) ?_
  rintro _ w29 ⟨b'4, rfl, r20, ge8, m28⟩
  refine WL.call (oc_call (vs := [.agg #[vS bLr'4 0 nLr nLr, vI Lj, vI Tk, vF Tc0, vF Tc1, vF Tc2, vF Ts0, vF Ts1, vI Dk, vF Dc0, vF Dc1, vF Dc2, vF Ds0, vF Ds1, vF g], vF pl, vS b'4 0 nH nH]) (cap := []) rfl rfl rfl Try.call42 (c_iStrike_inf nLr nLr bLr'4 xLr Lj Tk Tc0 Tc1 Tc2 Ts0 Ts1 Dk Dc0 Dc1 Dc2 Ds0 Ds1 g pl nH nH b'4 xH lnLr (by omega) (by first | assumption | exact W32.get (by assumption) _ | decide +kernel) (by first | assumption | exact W32.get (by assumption) _ | decide +kernel) (by first | assumption | exact W32.get (by assumption) _ | decide +kernel) (by first | assumption | exact W32.get (by assumption) _ | decide +kernel) lpl hv hp hf lnH (by first | assumption | exact W32.set (by assumption) (by first | assumption | exact wid_lt (by assumption)) | exact W32.zeros _ | exact W32.nil) hnH w29 (r19.ext m28).rng r20.rng)) rfl rfl (ltb rfl) ?_
  rintro _ w30 ⟨rfl, m29⟩
  refine WL.det (op_move rfl) rfl rfl rfl ?_
  refine WL.det (op_extract rfl rfl) rfl rfl rfl ?_
  refine WL.det (op_extract rfl rfl) rfl rfl rfl ?_
  refine WL.op (op_alloc (cs := [.slice none 0 0, vI 0, vI 0, vF 0, vF 0, vF 0, vF 0, vF 0, vI 0, vF 0, vF 0, vF 0, vF 0, vF 0, vF 0]) Try.zeroValue33 rfl) rfl rfl (ltb rfl) ?_
  rintro _ w31 ⟨rfl, r21, m30, z8⟩
  refine WL.op0 (op_store (i := 0) (cs := [.slice none 0 0, vI 0, vI 0, vF 0, vF 0, vF 0, vF 0, vF 0, vI 0, vF 0, vF 0, vF 0, vF 0, vF 0, vF 0]) rfl rfl rfl Try.sizeOf33 rfl r21 rfl (lB rfl) rfl) rfl rfl ?_
  rintro _ w32 ⟨r22, m31, z9⟩
  have r23 : Row w32 w30.heap.size 0 [.slice none 0 0, vI 0, vI 0, vF 0, vF 0, vF 0, vF 0, vF 0, vI 0, vF 0, vF 0, vF 0, vF 0, vF 0, vF 0] := Row.congr r22 rfl
  refine WL.det (op_assign rfl) rfl rfl rfl ?_
  refine WL.end ?_
  refine NE.code ?_
  refine CE.seq ?_
  refine CE.seq ?_
  refine CE.region ?_
  refine WL.det (op_loadA (i := 0) (cs := [.slice none 0 0, vI 0, vI 0, vF 0, vF 0, vF 0, vF 0, vF 0, vI 0, vF 0, vF 0, vF 0, vF 0, vF 0, vF 0]) rfl Try.isAgg33 Try.sizeOf33 r23.rng rfl rfl rfl) rfl rfl rfl ?_
  refine WL.det (op_loadA (i := 0) (cs := [.slice none 0 0, vI 0, vI 0, vF 0, vF 0, vF 0, vF 0, vF 0, vI 0, vF 0, vF 0, vF 0, vF 0, vF 0, vF 0]) rfl Try.isAgg33 Try.sizeOf33 (((((((((((((((((((((((((r6.ext m8).ext m9).mod m10 (nC (lE (lL (lL r4.lt (lT m7.size m8.size)) lR)) nN)).ext m11).ext m12).ext m13).mod m14 (nC (lE (lL (lL r4.lt (lT (lT (lT (lT (lT m7.size m8.size) m9.size) m10.size) m11.size) m12.size)) lR)) nN)).ext m15).ext md1).ext m16).ext m17).ext m18).ext m19).ext m20).ext m21).mod m22 (nC (lE (lL (lL r4.lt m7.size) ge3)) nN)).mod m23 (nC (lE (lL (lL r4.lt (lT (lT (lT m7.size m8.size) m9.size) m10.size)) ge4)) nN)).ext m24).ext m25).ext m26).ext m27).ext m28).ext m29).ext m30).mod m31 (nC (lE (lL (lL r4.lt (lT (lT (lT (lT (lT (lT (lT (lT (lT (lT (lT (lT (lT (lT (lT (lT (lT (lT (lT (lT (lT (lT (lT m7.size m8.size) m9.size) m10.size) m11.size) m12.size) m13.size) m14.size) m15.size) md1.size) m16.size) m17.size) m18.size) m19.size) m20.size) m21.size) m22.size) m23.size) m24.size) m25.size) m26.size) m27.size) m28.size) m29.size)) lR)) nN)).rng rfl rfl rfl) rfl rfl rfl ?_
  refine WL.call (oc_call (vs := [.agg #[.slice none 0 0, vI 0, vI 0, vF 0, vF 0, vF 0, vF 0, vF 0, vI 0, vF 0, vF 0, vF 0, vF 0, vF 0, vF 0], .agg #[.slice none 0 0, vI 0, vI 0, vF 0, vF 0, vF 0, vF 0, vF 0, vI 0, vF 0, vF 0, vF 0, vF 0, vF 0, vF 0]]) (cap := []) rfl rfl rfl Try.call27 (c_eqString 0 0 none 0 0 [] (0 : Int) (0 : Int) 0 0 0 0 0 0 0 0 0 0 (0 : Int) 0 0 0 0 0 0 0 0 0 0 0 0 0 none 0 0 0 0 0 0 0 0 0 0 0 0 0 rfl (fun h => absurd h (Nat.lt_irrefl _)) (fun h => absurd h (Nat.lt_irrefl _)) rfl rfl rfl rfl rfl rfl rfl rfl rfl rfl rfl rfl rfl rfl rfl rfl rfl rfl rfl rfl rfl rfl (by omega) w32 (Rng.nil _ _ _) (Rng.nil _ _ _))) rfl rfl (ltb rfl) ?_
  rintro _ w33 ⟨rfl, m32⟩
  refine WL.det (op_not rfl) rfl rfl rfl ?_
  refine WL.det (op_move rfl) rfl rfl rfl ?_
  refine WL.yes rfl rfl rfl (ltb rfl) rfl rfl ?_
  refine WL.det (op_move rfl) rfl rfl rfl ?_
  refine WL.yes rfl rfl rfl (ltb rfl) rfl rfl ?_
  refine WL.det (op_move rfl) rfl rfl rfl ?_
  refine WL.yes rfl rfl rfl (ltb rfl) rfl rfl ?_
  refine WL.det (op_nei rfl rfl) rfl rfl rfl ?_
  refine WL.det (op_pick_f rfl rfl rfl) rfl rfl rfl ?_
  refine WL.end ?_
  refine NE.code ?_
  refine CE.cond_f rfl rfl ?_
  refine CE.skip' ?_
  refine NE.code ?_
  refine CE.seq ?_
  refine CE.region ?_
  refine WL.det (op_assign rfl) rfl rfl rfl ?_
  refine WL.end ?_
  refine NE.code ?_
  refine CE.seq ?_
  refine CE.region ?_
  refine WL.det (op_loadA (i := 0) (cs := [.slice none 0 0, vI 0, vI 0, vF 0, vF 0, vF 0, vF 0, vF 0, vI 0, vF 0, vF 0, vF 0, vF 0, vF 0, vF 0]) rfl Try.isAgg33 Try.sizeOf33 (((((((((((((((((((r14.ext m15).ext md1).ext m16).ext m17).ext m18).ext m19).ext m20).ext m21).mod m22 (nC (lG (lL (lL r7.lt (lT (lT (lT m9.size m10.size) m11.size) m12.size)) lR)) nN)).mod m23 (nC (lG (lL (lL r11.lt m12.size) lR)) nN)).ext m24).ext m25).ext m26).ext m27).ext m28).ext m29).ext m30).mod m31 (nC (lE (lL (lL r12.lt (lT (lT (lT (lT (lT (lT (lT (lT (lT (lT (lT (lT (lT (lT (lT (lT m14.size m15.size) md1.size) m16.size) m17.size) m18.size) m19.size) m20.size) m21.size) m22.size) m23.size) m24.size) m25.size) m26.size) m27.size) m28.size) m29.size)) lR)) nN)).ext m32).rng rfl rfl rfl) rfl rfl rfl ?_
  refine WL.det (op_move rfl) rfl rfl rfl ?_
  refine WL.call (oc_call (vs := [.agg #[.slice none 0 0, vI 0, vI 0, vF 0, vF 0, vF 0, vF 0, vF 0, vI 0, vF 0, vF 0, vF 0, vF 0, vF 0, vF 0], vI 1]) (cap := []) rfl rfl rfl Try.call29 (c_heldString_nil (0 : Int) (0 : Int) 0 0 0 0 0 (0 : Int) 0 0 0 0 0 0 1 (by omega) w33)) rfl rfl (ltb rfl) ?_
  rintro _ w34 ⟨rfl, m33⟩
  refine WL.det (op_assign rfl) rfl rfl rfl ?_
  refine WL.end ?_
  refine NE.code ?_
  refine CE.seq ?_
  refine CE.seq ?_
  refine CE.region ?_
  refine WL.det (op_move rfl) rfl rfl rfl ?_
  refine WL.det (op_lti rfl rfl) rfl rfl rfl ?_
  refine WL.end ?_
  refine NE.code ?_
  refine CE.cond_f rfl rfl ?_
  refine CE.skip' ?_
  refine NE.code ?_
  refine CE.seq ?_
  refine CE.seq ?_
  refine CE.region ?_
  refine WL.det (op_move rfl) rfl rfl rfl ?_
  refine WL.det (op_move rfl) rfl rfl rfl ?_
  refine WL.det (op_nei rfl rfl) rfl rfl rfl ?_
  refine WL.end ?_
  refine NE.code ?_
  refine CE.cond_f rfl rfl ?_
  refine CE.skip' ?_
  refine NE.code ?_
  refine CE.seq ?_
  refine CE.region ?_
  refine WL.det (op_assign rfl) rfl rfl rfl ?_
  refine WL.end ?_
  refine NE.code ?_
  refine CE.ret' ?_
  refine XE.leave1 Try.results8 rfl ?_
  refine ⟨rfl, (((((((((((((((((((((((((((((((((((Mod.refl [] w).nt m1).nt m2).nt m3).nt m4).nt m5).nt m6).then m7 ((aC (.inr (lT (lT (lT (lT (lT m1.size m2.size) m3.size) m4.size) m5.size) lR)) aN))).nt m8).nt m9).then m10 ((aC (.inr (lT (lT (lT (lT (lT (lT (lT (lT m1.size m2.size) m3.size) m4.size) m5.size) m6.size) m7.size) m8.size) lR)) aN))).nt m11).nt m12).nt m13).then m14 ((aC (.inr (lT (lT (lT (lT (lT (lT (lT (lT (lT (lT (lT (lT m1.size m2.size) m3.size) m4.size) m5.size) m6.size) m7.size) m8.size) m9.size) m10.size) m11.size) m12.size) lR)) aN))).nt m15).nt md1).nt m16).nt m17).nt m18).nt m19).nt m20).nt m21).then m22 ((aC (.inr (lT (lT (lT (lT (lT (lT (lT m1.size m2.size) m3.size) m4.size) m5.size) m6.size) m7.size) ge3)) aN))).then m23 ((aC (.inr (lT (lT (lT (lT (lT (lT (lT (lT (lT (lT m1.size m2.size) m3.size) m4.size) m5.size) m6.size) m7.size) m8.size) m9.size) m10.size) ge4)) aN))).nt m24).nt m25).nt m26).nt m27).nt m28).nt m29).nt m30).then m31 ((aC (.inr (lT (lT (lT (lT (lT (lT (lT (lT (lT (lT (lT (lT (lT (lT (lT (lT (lT (lT (lT (lT (lT (lT (lT (lT (lT (lT (lT (lT (lT (lT m1.size m2.size) m3.size) m4.size) m5.size) m6.size) m7.size) m8.size) m9.size) m10.size) m11.size) m12.size) m13.size) m14.size) m15.size) md1.size) m16.size) m17.size) m18.size) m19.size) m20.size) m21.size) m22.size) m23.size) m24.size) m25.size) m26.size) m27.size) m28.size) m29.size) lR)) aN))).nt m32).nt m33)⟩

set_option maxRecDepth 100000 in
set_option maxHeartbeats 8000000 in
theorem law_strike_out (nLr : Nat) (cLr : Nat) (ALr : Option Addr) (bLr : Nat) (oLr : Nat) (xLr : List Nat) (Lj : Int) (Tk : Int) (Tc0 : Nat) (Tc1 : Nat) (Tc2 : Nat) (Ts0 : Nat) (Ts1 : Nat) (Dk : Int) (Dc0 : Nat) (Dc1 : Nat) (Dc2 : Nat) (Ds0 : Nat) (Ds1 : Nat) (g : Nat) (pl : Nat) (nH : Nat) (cH : Nat) (AH : Option Addr) (bH : Nat) (oH : Nat) (xH : List Nat) (lnLr : xLr.length = nLr) (hALr : 0 < nLr → ALr = some ⟨bLr, oLr, none⟩) (wLr : W32 xLr) (hn : nLr ≤ 1024) (lTs0 : Ts0 < wid .f32) (lTs1 : Ts1 < wid .f32) (lDs0 : Ds0 < wid .f32) (lDs1 : Ds1 < wid .f32) (hv : vStr nLr Lj Tk Tc0 Tc1 Tc2 Ts0 Ts1 Dk Dc0 Dc1 Dc2 Ds0 Ds1 g = true) (hnH : nH ≤ 1048576) (hp : placeF pl = false) (lpl : pl < wid .f32) (lnH : xH.length = nH) (hAH : 0 < nH → AH = some ⟨bH, oH, none⟩) (wH : W32 xH) (w : World) (rLr : Rng w bLr oLr (fl xLr)) (rH : Rng w bH oH (fl xH)) : Cl Try.prog 8 #[.agg #[.slice ALr nLr cLr, vI Lj, vI Tk, vF Tc0, vF Tc1, vF Tc2, vF Ts0, vF Ts1, vI Dk, vF Dc0, vF Dc1, vF Dc2, vF Ds0, vF Ds1, vF g], vF pl, .slice AH nH cH] w fun v w' => v = .bool true ∧ Mod [] w w' := by
  refine Cl.of Try.func8 Try.ntmps8 rfl rfl (ρ := [(0, .agg #[.slice ALr nLr cLr, vI Lj, vI Tk, vF Tc0, vF Tc1, vF Tc2, vF Ts0, vF Ts1, vI Dk, vF Dc0, vF Dc1, vF Dc2, vF Ds0, vF Ds1, vF g]), (1, vF pl), (2, .slice AH nH cH)]) rfl ?_
  refine CE.seq ?_
  refine CE.region ?_
  refine WL.op (op_box (cs := [.slice ALr nLr cLr, vI Lj, vI Tk, vF Tc0, vF Tc1, vF Tc2, vF Ts0, vF Ts1, vI Dk, vF Dc0, vF Dc1, vF Dc2, vF Ds0, vF Ds1, vF g]) rfl rfl) rfl rfl (ltb rfl) ?_
  rintro _ w1 ⟨rfl, r1, m1, z1⟩
  refine WL.det (op_assign rfl) rfl rfl rfl ?_
  refine WL.end ?_
  refine NE.code ?_
  refine CE.seq ?_
  refine CE.seq ?_
  refine CE.region ?_
  refine WL.det (op_move rfl) rfl rfl rfl ?_
  refine WL.det (op_len rfl Try.runUnderlying24) rfl rfl rfl ?_
  refine WL.det (op_gti rfl rfl) rfl rfl rfl ?_
  refine WL.end ?_
  refine NE.code ?_
  refine CE.cond_f rfl (decide_eq_false (by omega)) ?_
  refine CE.skip' ?_
  refine NE.code ?_
  refine CE.seq ?_
  refine CE.region ?_
  refine WL.det (op_assign rfl) rfl rfl rfl ?_
  refine WL.end ?_
  refine NE.code ?_
  refine CE.seq ?_
  refine CE.region ?_
  refine WL.det (op_loadA (i := 0) (cs := [.slice ALr nLr cLr, vI Lj, vI Tk, vF Tc0, vF Tc1, vF Tc2, vF Ts0, vF Ts1, vI Dk, vF Dc0, vF Dc1, vF Dc2, vF Ds0, vF Ds1, vF g]) rfl Try.isAgg51 Try.sizeOf51 r1.rng rfl rfl rfl) rfl rfl rfl ?_
  refine WL.det (op_move rfl) rfl rfl rfl ?_
  refine WL.call (oc_call (vs := [.agg #[.slice ALr nLr cLr, vI Lj, vI Tk, vF Tc0, vF Tc1, vF Tc2, vF Ts0, vF Ts1, vI Dk, vF Dc0, vF Dc1, vF Dc2, vF Ds0, vF Ds1, vF g], vI 1048576]) (cap := []) rfl rfl rfl Try.call25 (c_szString 1048576 nLr cLr ALr Lj Tk Tc0 Tc1 Tc2 Ts0 Ts1 Dk Dc0 Dc1 Dc2 Ds0 Ds1 g (by omega) (by omega) w1)) rfl rfl (ltb rfl) ?_
  rintro _ w2 ⟨rfl, m2⟩
  refine WL.det (op_assign rfl) rfl rfl rfl ?_
  refine WL.end ?_
  refine NE.code ?_
  refine CE.seq ?_
  refine CE.seq ?_
  refine CE.region ?_
  refine WL.det (op_move rfl) rfl rfl rfl ?_
  refine WL.det (op_lti_f rfl rfl (by omega)) rfl rfl rfl ?_
  refine WL.end ?_
  refine NE.code ?_
  refine CE.cond_f rfl rfl ?_
  refine CE.skip' ?_
  refine NE.code ?_
  refine CE.seq ?_
  refine CE.region ?_
  refine WL.det (op_loadA (i := 0) (cs := [.slice ALr nLr cLr, vI Lj, vI Tk, vF Tc0, vF Tc1, vF Tc2, vF Ts0, vF Ts1, vI Dk, vF Dc0, vF Dc1, vF Dc2, vF Ds0, vF Ds1, vF g]) rfl Try.isAgg51 Try.sizeOf51 (r1.ext m2).rng rfl rfl rfl) rfl rfl rfl ?_
  refine WL.call (oc_call (vs := [.agg #[.slice ALr nLr cLr, vI Lj, vI Tk, vF Tc0, vF Tc1, vF Tc2, vF Ts0, vF Ts1, vI Dk, vF Dc0, vF Dc1, vF Dc2, vF Ds0, vF Ds1, vF g]]) (cap := []) rfl rfl rfl Try.call26 (c_toString nLr cLr ALr bLr oLr xLr Lj Tk Tc0 Tc1 Tc2 Ts0 Ts1 Dk Dc0 Dc1 Dc2 Ds0 Ds1 g lnLr hALr (by omega) w2 ((rLr.ext m1).ext m2))) rfl rfl (ltb rfl) ?_
  rintro _ w3 ⟨bLr'1, rfl, r2, ge1, m3⟩
  refine WL.det (op_move rfl) rfl rfl rfl ?_
  refine WL.det (op_move rfl) rfl rfl rfl ?_
  refine WL.call (oc_call (vs := [.slice AH nH cH]) (cap := []) rfl rfl rfl Try.call41 (c_to32 nH cH AH bH oH xH lnH hAH hnH w3 (((rH.ext m1).ext m2).ext m3))) rfl rfl (ltb rfl) ?_
  rintro _ w4 ⟨b'1, rfl, r3, ge2, m4⟩
  refine WL.call (oc_call (vs := [.agg #[vS bLr'1 0 nLr nLr, vI Lj, vI Tk, vF Tc0, vF Tc1, vF Tc2, vF Ts0, vF Ts1, vI Dk, vF Dc0, vF Dc1, vF Dc2, vF Ds0, vF Ds1, vF g], vF pl, vS b'1 0 nH nH]) (cap := []) rfl rfl rfl Try.call40 (c_sStrike_out nLr nLr bLr'1 xLr Lj Tk Tc0 Tc1 Tc2 Ts0 Ts1 Dk Dc0 Dc1 Dc2 Ds0 Ds1 g pl nH nH b'1 xH lnLr (by omega) (by first | assumption | exact W32.get (by assumption) _ | decide +kernel) (by first | assumption | exact W32.get (by assumption) _ | decide +kernel) (by first | assumption | exact W32.get (by assumption) _ | decide +kernel) (by first | assumption | exact W32.get (by assumption) _ | decide +kernel) lpl hv hp lnH (by first | assumption | exact W32.set (by assumption) (by first | assumption | exact wid_lt (by assumption)) | exact W32.zeros _ | exact W32.nil) hnH w4 (r2.ext m4).rng r3.rng)) rfl rfl (ltb rfl) ?_
  rintro _ w5 ⟨rfl, m5⟩
  refine WL.det (op_move rfl) rfl rfl rfl ?_
  refine WL.det (op_extract rfl rfl) rfl rfl rfl ?_
  refine WL.det (op_extract rfl rfl) rfl rfl rfl ?_
  refine WL.op (op_alloc (cs := [.slice none 0 0, vI 0, vI 0, vF 0, vF 0, vF 0, vF 0, vF 0, vI 0, vF 0, vF 0, vF 0, vF 0, vF 0, vF 0]) Try.zeroValue33 rfl) rfl rfl (ltb rfl) ?_
  rintro _ w6 ⟨rfl, r4, m6, z2⟩
  refine WL.op0 (op_store (i := 0) (cs := [.slice none 0 0, vI 0, vI 0, vF 0, vF 0, vF 0, vF 0, vF 0, vI 0, vF 0, vF 0, vF 0, vF 0, vF 0, vF 0]) rfl rfl rfl Try.sizeOf33 rfl r4 rfl (lB rfl) rfl) rfl rfl ?_
  rintro _ w7 ⟨r5, m7, z3⟩
  have r6 : Row w7 w5.heap.size 0 [.slice none 0 0, vI 0, vI 0, vF 0, vF 0, vF 0, vF 0, vF 0, vI 0, vF 0, vF 0, vF 0, vF 0, vF 0, vF 0] := Row.congr r5 rfl
  refine WL.det (op_assign rfl) rfl rfl rfl ?_
  refine WL.end ?_
  refine NE.code ?_
  refine CE.seq ?_
  refine CE.region ?_
  refine WL.det (op_loadA (i := 0) (cs := [.slice ALr nLr cLr, vI Lj, vI Tk, vF Tc0, vF Tc1, vF Tc2, vF Ts0, vF Ts1, vI Dk, vF Dc0, vF Dc1, vF Dc2, vF Ds0, vF Ds1, vF g]) rfl Try.isAgg51 Try.sizeOf51 ((((((r1.ext m2).ext m3).ext m4).ext m5).ext m6).mod m7 (nC (lE (lL (lL r1.lt (lT (lT (lT m2.size m3.size) m4.size) m5.size)) lR)) nN)).rng rfl rfl rfl) rfl rfl rfl ?_
  refine WL.call (oc_call (vs := [.agg #[.slice ALr nLr cLr, vI Lj, vI Tk, vF Tc0, vF Tc1, vF Tc2, vF Ts0, vF Ts1, vI Dk, vF Dc0, vF Dc1, vF Dc2, vF Ds0, vF Ds1, vF g]]) (cap := []) rfl rfl rfl Try.call26 (c_toString nLr cLr ALr bLr oLr xLr Lj Tk Tc0 Tc1 Tc2 Ts0 Ts1 Dk Dc0 Dc1 Dc2 Ds0 Ds1 g lnLr hALr (by omega) w7 (Rng.youngS rLr ((((((rLr.ext m1).ext m2).ext m3).ext m4).ext m5).ext m6) m7 (allge_cons (lT (lT (lT (lT (lT m1.size m2.size) m3.size) m4.size) m5.size) lR) allge_nil)))) rfl rfl (ltb rfl) ?_
  rintro _ w8 ⟨bLr'2, rfl, r7, ge3, m8⟩
  refine WL.op (op_alloc (cs := [.slice none 0 0, vI 0, vI 0, vF 0, vF 0, vF 0, vF 0, vF 0, vI 0, vF 0, vF 0, vF 0, vF 0, vF 0, vF 0]) Try.zeroValue33 rfl) rfl rfl (ltb rfl) ?_
  rintro _ w9 ⟨rfl, r8, m9, z4⟩
  refine WL.op0 (op_store (i := 0) (cs := [vS bLr'2 0 nLr nLr, vI Lj, vI Tk, vF Tc0, vF Tc1, vF Tc2, vF Ts0, vF Ts1, vI Dk, vF Dc0, vF Dc1, vF Dc2, vF Ds0, vF Ds1, vF g]) rfl rfl rfl Try.sizeOf33 rfl r8 rfl (lB rfl) rfl) rfl rfl ?_
  rintro _ w10 ⟨r9, m10, z5⟩
  have r10 : Row w10 w8.heap.size 0 [vS bLr'2 0 nLr nLr, vI Lj, vI Tk, vF Tc0, vF Tc1, vF Tc2, vF Ts0, vF Ts1, vI Dk, vF Dc0, vF Dc1, vF Dc2, vF Ds0, vF Ds1, vF g] := Row.congr r9 rfl
  refine WL.end ?_
  refine NE.code ?_
  refine CE.seq ?_
  refine CE.region ?_
  refine WL.det (op_move rfl) rfl rfl rfl ?_
  refine WL.call (oc_call (vs := [.slice AH nH cH]) (cap := []) rfl rfl rfl Try.call41 (c_to32 nH cH AH bH oH xH lnH hAH hnH w10 (Rng.youngS rH (((Rng.youngS rH ((((((rH.ext m1).ext m2).ext m3).ext m4).ext m5).ext m6) m7 (allge_cons (lT (lT (lT (lT (lT m1.size m2.size) m3.size) m4.size) m5.size) lR) allge_nil)).ext m8).ext m9) m10 (allge_cons (lT (lT (lT (lT (lT (lT (lT (lT m1.size m2.size) m3.size) m4.size) m5.size) m6.size) m7.size) m8.size) lR) allge_nil)))) rfl rfl (ltb rfl) ?_
  rintro _ w11 ⟨b'2, rfl, r11, ge4, m11⟩
  refine WL.det (op_assign rfl) rfl rfl rfl ?_
  refine WL.end ?_
  refine NE.code ?_
  refine CE.seq ?_
  refine CE.region ?_
  refine WL.det (op_loadA (i := 0) (cs := [vS bLr'2 0 nLr nLr, vI Lj, vI Tk, vF Tc0, vF Tc1, vF Tc2, vF Ts0, vF Ts1, vI Dk, vF Dc0, vF Dc1, vF Dc2, vF Ds0, vF Ds1, vF g]) rfl Try.isAgg33 Try.sizeOf33 (r10.ext m11).rng rfl rfl rfl) rfl rfl rfl ?_
  refine WL.det (op_move rfl) rfl rfl rfl ?_
  refine WL.det (op_move rfl) rfl rfl rfl ?_
  refine WL.call (oc_call (vs := [.agg #[vS bLr'2 0 nLr nLr, vI Lj, vI Tk, vF Tc0, vF Tc1, vF Tc2, vF Ts0, vF Ts1, vI Dk, vF Dc0, vF Dc1, vF Dc2, vF Ds0, vF Ds1, vF g], vF pl, vS b'2 0 nH nH]) (cap := []) rfl rfl rfl Try.call42 (c_iStrike_out nLr nLr bLr'2 xLr Lj Tk Tc0 Tc1 Tc2 Ts0 Ts1 Dk Dc0 Dc1 Dc2 Ds0 Ds1 g pl nH nH b'2 xH lnLr (by omega) (by first | assumption | exact W32.get (by assumption) _ | decide +kernel) (by first | assumption | exact W32.get (by assumption) _ | decide +kernel) (by first | assumption | exact W32.get (by assumption) _ | decide +kernel) (by first | assumption | exact W32.get (by assumption) _ | decide +kernel) lpl hv hp lnH (by first | assumption | exact W32.set (by assumption) (by first | assumption | exact wid_lt (by assumption)) | exact W32.zeros _ | exact W32.nil) hnH w11 (((r7.ext m9).mod m10 (nC (lE (lL r7.lt lR)) nN)).ext m11).rng r11.rng)) rfl rfl (ltb rfl) ?_
  rintro _ w12 ⟨rfl, m12⟩
  refine WL.det (op_move rfl) rfl rfl rfl ?_
  refine WL.det (op_extract rfl rfl) rfl rfl rfl ?_
  refine WL.det (op_extract rfl rfl) rfl rfl rfl ?_
  refine WL.op (op_alloc (cs := [.slice none 0 0, vI 0, vI 0, vF 0, vF 0, vF 0, vF 0, vF 0, vI 0, vF 0, vF 0, vF 0, vF 0, vF 0, vF 0]) Try.zeroValue33 rfl) rfl rfl (ltb rfl) ?_
  rintro _ w13 ⟨rfl, r12, m13, z6⟩
  refine WL.op0 (op_store (i := 0) (cs := [.slice none 0 0, vI 0, vI 0, vF 0, vF 0, vF 0, vF 0, vF 0, vI 0, vF 0, vF 0, vF 0, vF 0, vF 0, vF 0]) rfl rfl rfl Try.sizeOf33 rfl r12 rfl (lB rfl) rfl) rfl rfl ?_
  rintro _ w14 ⟨r13, m14, z7⟩
  have r14 : Row w14 w12.heap.size 0 [.slice none 0 0, vI 0, vI 0, vF 0, vF 0, vF 0, vF 0, vF 0, vI 0, vF 0, vF 0, vF 0, vF 0, vF 0, vF 0] := Row.congr r13 rfl
  refine WL.det (op_assign rfl) rfl rfl rfl ?_
  refine WL.end ?_
  refine NE.code ?_
  refine CE.seq ?_
  refine CE.seq ?_
  refine CE.region ?_
  refine WL.det (op_loadA (i := 0) (cs := [.slice none 0 0, vI 0, vI 0, vF 0, vF 0, vF 0, vF 0, vF 0, vI 0, vF 0, vF 0, vF 0, vF 0, vF 0, vF 0]) rfl Try.isAgg33 Try.sizeOf33 r14.rng rfl rfl rfl) rfl rfl rfl ?_
  refine WL.det (op_loadA (i := 0) (cs := [.slice none 0 0, vI 0, vI 0, vF 0, vF 0, vF 0, vF 0, vF 0, vI 0, vF 0, vF 0, vF 0, vF 0, vF 0, vF 0]) rfl Try.isAgg33 Try.sizeOf33 (((((((r6.ext m8).ext m9).mod m10 (nC (lE (lL (lL r4.lt (lT m7.size m8.size)) lR)) nN)).ext m11).ext m12).ext m13).mod m14 (nC (lE (lL (lL r4.lt (lT (lT (lT (lT (lT m7.size m8.size) m9.size) m10.size) m11.size) m12.size)) lR)) nN)).rng rfl rfl rfl) rfl rfl rfl ?_
  refine WL.call (oc_call (vs := [.agg #[.slice none 0 0, vI 0, vI 0, vF 0, vF 0, vF 0, vF 0, vF 0, vI 0, vF 0, vF 0, vF 0, vF 0, vF 0, vF 0], .agg #[.slice none 0 0, vI 0, vI 0, vF 0, vF 0, vF 0, vF 0, vF 0, vI 0, vF 0, vF 0, vF 0, vF 0, vF 0, vF 0]]) (cap := []) rfl rfl rfl Try.call27 (c_eqString 0 0 none 0 0 [] (0 : Int) (0 : Int) 0 0 0 0 0 0 0 0 0 0 (0 : Int) 0 0 0 0 0 0 0 0 0 0 0 0 0 none 0 0 0 0 0 0 0 0 0 0 0 0 0 rfl (fun h => absurd h (Nat.lt_irrefl _)) (fun h => absurd h (Nat.lt_irrefl _)) rfl rfl rfl rfl rfl rfl rfl rfl rfl rfl rfl rfl rfl rfl rfl rfl rfl rfl rfl rfl rfl rfl (by omega) w14 (Rng.nil _ _ _) (Rng.nil _ _ _))) rfl rfl (ltb rfl) ?_
  rintro _ w15 ⟨rfl, m15⟩
  refine WL.det (op_not rfl) rfl rfl rfl ?_
  refine WL.det (op_move rfl) rfl rfl rfl ?_
  refine WL.yes rfl rfl rfl (ltb rfl) rfl rfl ?_
  refine WL.det (op_move rfl) rfl rfl rfl ?_
  refine WL.yes rfl rfl rfl (ltb rfl) rfl rfl ?_
  refine WL.det (op_move rfl) rfl rfl rfl ?_
  refine WL.yes rfl rfl rfl (ltb rfl) rfl rfl ?_
  refine WL.det (op_nei rfl rfl) rfl rfl rfl ?_
  refine WL.det (op_pick_f rfl rfl rfl) rfl rfl rfl ?_
  refine WL.end ?_
  refine NE.code ?_
  refine CE.cond_f rfl rfl ?_
  refine CE.skip' ?_
  refine NE.code ?_
  refine CE.seq ?_
  refine CE.seq ?_
  refine CE.draw (fun | 2 => some (fun _ wA uA wB => ∃ (bLr' : Nat), uA = .agg #[vS bLr' 0 nLr nLr, vI Lj, vI Tk, vF Tc0, vF Tc1, vF Tc2, vF Ts0, vF Ts1, vI Dk, vF Dc0, vF Dc1, vF Dc2, vF Ds0, vF Ds1, vF g] ∧ Row wB bLr' 0 (fl xLr) ∧ wA.heap.size ≤ bLr' ∧ Mod [] wA wB) | _ => none) [0, 1, 2] [3, 4] [] (by kernel_rfl) (by kernel_rfl) ?_
  have md1 : Mod [] w15 w15.drew := (Mod.refl _ _).drew
  generalize w15.drew = w16 at md1 ⊢
  refine DR.det (i := 0) rfl rfl (by kernel_rfl) (.free rfl) rfl rfl (fun wD mD => op_loadA (i := 0) (cs := [vS bLr'2 0 nLr nLr, vI Lj, vI Tk, vF Tc0, vF Tc1, vF Tc2, vF Ts0, vF Ts1, vI Dk, vF Dc0, vF Dc1, vF Dc2, vF Ds0, vF Ds1, vF g]) rfl Try.isAgg33 Try.sizeOf33 (((((((r10.ext m11).ext m12).ext m13).mod m14 (nC (lE (lL (lL r8.lt (lT (lT m10.size m11.size) m12.size)) lR)) nN)).ext m15).ext md1).ext mD).rng rfl rfl rfl) ?_
  refine DR.det (i := 1) rfl rfl (by kernel_rfl) (.free rfl) rfl rfl (fun wD mD => op_loadA (i := 0) (cs := [.slice ALr nLr cLr, vI Lj, vI Tk, vF Tc0, vF Tc1, vF Tc2, vF Ts0, vF Ts1, vI Dk, vF Dc0, vF Dc1, vF Dc2, vF Ds0, vF Ds1, vF g]) rfl Try.isAgg51 Try.sizeOf51 ((((((((((((((((r1.ext m2).ext m3).ext m4).ext m5).ext m6).mod m7 (nC (lE (lL (lL r1.lt (lT (lT (lT m2.size m3.size) m4.size) m5.size)) lR)) nN)).ext m8).ext m9).mod m10 (nC (lE (lL (lL r1.lt (lT (lT (lT (lT (lT (lT m2.size m3.size) m4.size) m5.size) m6.size) m7.size) m8.size)) lR)) nN)).ext m11).ext m12).ext m13).mod m14 (nC (lE (lL (lL r1.lt (lT (lT (lT (lT (lT (lT (lT (lT (lT (lT m2.size m3.size) m4.size) m5.size) m6.size) m7.size) m8.size) m9.size) m10.size) m11.size) m12.size)) lR)) nN)).ext m15).ext md1).ext mD).rng rfl rfl rfl) ?_
  refine DR.one (i := 2) rfl rfl (by kernel_rfl) (.free rfl) rfl (ltb rfl) (vs := [.func (.func 26) #[] #[], .agg #[.slice ALr nLr cLr, vI Lj, vI Tk, vF Tc0, vF Tc1, vF Tc2, vF Ts0, vF Ts1, vI Dk, vF Dc0, vF Dc1, vF Dc2, vF Ds0, vF Ds1, vF g]]) rfl ?_
  intro w17 m16
  refine ⟨oc_call (vs := [.agg #[.slice ALr nLr cLr, vI Lj, vI Tk, vF Tc0, vF Tc1, vF Tc2, vF Ts0, vF Ts1, vI Dk, vF Dc0, vF Dc1, vF Dc2, vF Ds0, vF Ds1, vF g]]) (cap := []) rfl rfl rfl Try.call26 (c_toString nLr cLr ALr bLr oLr xLr Lj Tk Tc0 Tc1 Tc2 Ts0 Ts1 Dk Dc0 Dc1 Dc2 Ds0 Ds1 g lnLr hALr (by omega) w17 ((((Rng.youngS rLr ((((Rng.youngS rLr (((Rng.youngS rLr ((((((rLr.ext m1).ext m2).ext m3).ext m4).ext m5).ext m6) m7 (allge_cons (lT (lT (lT (lT (lT m1.size m2.size) m3.size) m4.size) m5.size) lR) allge_nil)).ext m8).ext m9) m10 (allge_cons (lT (lT (lT (lT (lT (lT (lT (lT m1.size m2.size) m3.size) m4.size) m5.size) m6.size) m7.size) m8.size) lR) allge_nil)).ext m11).ext m12).ext m13) m14 (allge_cons (lT (lT (lT (lT (lT (lT (lT (lT (lT (lT (lT (lT m1.size m2.size) m3.size) m4.size) m5.size) m6.size) m7.size) m8.size) m9.size) m10.size) m11.size) m12.size) lR) allge_nil)).ext m15).ext md1).ext m16)), ?_⟩
  rintro _ w18 ⟨bLr'3, rfl, r15, ge5, m17⟩
  refine ⟨(((Mod.refl [] w16).nt m16).nt m17), ?_⟩
  refine DR.done rfl ?_
  intro w19 m18
  refine WO.call rfl (.free rfl) rfl (ltb rfl) (oc_call (vs := [.agg #[vS bLr'2 0 nLr nLr, vI Lj, vI Tk, vF Tc0, vF Tc1, vF Tc2, vF Ts0, vF Ts1, vI Dk, vF Dc0, vF Dc1, vF Dc2, vF Ds0, vF Ds1, vF g], .agg #[vS bLr'3 0 nLr nLr, vI Lj, vI Tk, vF Tc0, vF Tc1, vF Tc2, vF Ts0, vF Ts1, vI Dk, vF Dc0, vF Dc1, vF Dc2, vF Ds0, vF Ds1, vF g]]) (cap := []) rfl rfl rfl Try.call27 (c_eqString nLr nLr (some ⟨bLr'2, 0, none⟩) bLr'2 0 xLr Lj Tk Tc0 Tc0 Tc1 Tc1 Tc2 Tc2 Ts0 Ts0 Ts1 Ts1 Dk Dc0 Dc0 Dc1 Dc1 Dc2 Dc2 Ds0 Ds0 Ds1 Ds1 g g nLr (some ⟨bLr'3, 0, none⟩) bLr'3 0 Tc0 Tc1 Tc2 Ts0 Ts1 Dc0 Dc1 Dc2 Ds0 Ds1 g lnLr (fun _ => rfl) (fun _ => rfl) rfl rfl rfl rfl rfl rfl rfl rfl rfl rfl rfl rfl rfl rfl rfl rfl rfl rfl rfl rfl rfl rfl (by omega) w19 (((((((((((r7.ext m9).mod m10 (nC (lE (lL r7.lt lR)) nN)).ext m11).ext m12).ext m13).mod m14 (nC (lE (lL (lL r7.lt (lT (lT (lT m9.size m10.size) m11.size) m12.size)) lR)) nN)).ext m15).ext md1).ext m16).ext m17).ext m18).rng (r15.ext m18).rng)) ?_
  rintro _ w20 ⟨rfl, m19⟩
  refine WO.det (op_not rfl) rfl (.free rfl) rfl rfl ?_
  refine WO.end ?_
  refine NE.code ?_
  refine CE.cond_f rfl rfl ?_
  refine CE.skip' ?_
  refine NE.code ?_
  refine CE.seq ?_
  refine CE.seq ?_
  refine CE.region ?_
  refine WL.det (op_move rfl) rfl rfl rfl ?_
  refine WL.det (op_move rfl) rfl rfl rfl ?_
  refine WL.call (oc_call (vs := [.slice AH nH cH]) (cap := []) rfl rfl rfl Try.call41 (c_to32 nH cH AH bH oH xH lnH hAH hnH w20 (((((((Rng.youngS rH ((((Rng.youngS rH (((Rng.youngS rH ((((((rH.ext m1).ext m2).ext m3).ext m4).ext m5).ext m6) m7 (allge_cons (lT (lT (lT (lT (lT m1.size m2.size) m3.size) m4.size) m5.size) lR) allge_nil)).ext m8).ext m9) m10 (allge_cons (lT (lT (lT (lT (lT (lT (lT (lT m1.size m2.size) m3.size) m4.size) m5.size) m6.size) m7.size) m8.size) lR) allge_nil)).ext m11).ext m12).ext m13) m14 (allge_cons (lT (lT (lT (lT (lT (lT (lT (lT (lT (lT (lT (lT m1.size m2.size) m3.size) m4.size) m5.size) m6.size) m7.size) m8.size) m9.size) m10.size) m11.size) m12.size) lR) allge_nil)).ext m15).ext md1).ext m16).ext m17).ext m18).ext m19))) rfl rfl (ltb rfl) ?_
  rintro _ w21 ⟨b'3, rfl, r16, ge6, m20⟩
  refine WL.call (oc_call (vs := [vS b'2 0 nH nH, vS b'3 0 nH nH]) (cap := []) rfl rfl rfl Try.call43 (c_eq32_same nH nH (some ⟨b'2, 0, none⟩) b'2 0 xH nH (some ⟨b'3, 0, none⟩) b'3 0 lnH (fun _ => rfl) (fun _ => rfl) (by omega) w21 ((((((((((r11.ext m12).ext m13).mod m14 (nC (lE (lL (lL r11.lt m12.size) lR)) nN)).ext m15).ext md1).ext m16).ext m17).ext m18).ext m19).ext m20).rng r16.rng)) rfl rfl (ltb rfl) ?_
  rintro _ w22 ⟨rfl, m21⟩
  refine WL.det (op_not rfl) rfl rfl rfl ?_
  refine WL.end ?_
  refine NE.code ?_
  refine CE.cond_f rfl rfl ?_
  refine CE.skip' ?_
  refine NE.code ?_
  refine CE.seq ?_
  refine CE.region ?_
  refine WL.det (op_assign rfl) rfl rfl rfl ?_
  refine WL.end ?_
  refine NE.code ?_
  refine CE.seq ?_
  refine CE.region ?_
  refine WL.det (op_loadA (i := 0) (cs := [vS bLr'2 0 nLr nLr, vI Lj, vI Tk, vF Tc0, vF Tc1, vF Tc2, vF Ts0, vF Ts1, vI Dk, vF Dc0, vF Dc1, vF Dc2, vF Ds0, vF Ds1, vF g]) rfl Try.isAgg33 Try.sizeOf33 ((((((((((((r10.ext m11).ext m12).ext m13).mod m14 (nC (lE (lL (lL r8.lt (lT (lT m10.size m11.size) m12.size)) lR)) nN)).ext m15).ext md1).ext m16).ext m17).ext m18).ext m19).ext m20).ext m21).rng rfl rfl rfl) rfl rfl rfl ?_
  refine WL.det (op_move rfl) rfl rfl rfl ?_
  refine WL.call (oc_call (vs := [.agg #[vS bLr'2 0 nLr nLr, vI Lj, vI Tk, vF Tc0, vF Tc1, vF Tc2, vF Ts0, vF Ts1, vI Dk, vF Dc0, vF Dc1, vF Dc2, vF Ds0, vF Ds1, vF g], vI 1]) (cap := []) rfl rfl rfl Try.call28 (c_markString nLr nLr bLr'2 xLr Lj Tk Tc0 Tc1 Tc2 Ts0 Ts1 Dk Dc0 Dc1 Dc2 Ds0 Ds1 g 1 lnLr (by omega) (by omega) w22 ((((((((((((((r7.ext m9).mod m10 (nC (lE (lL r7.lt lR)) nN)).ext m11).ext m12).ext m13).mod m14 (nC (lE (lL (lL r7.lt (lT (lT (lT m9.size m10.size) m11.size) m12.size)) lR)) nN)).ext m15).ext md1).ext m16).ext m17).ext m18).ext m19).ext m20).ext m21))) rfl rfl (ltb rfl) ?_
  rintro _ w23 ⟨rfl, r17, m22⟩
  refine WL.det (op_assign rfl) rfl rfl rfl ?_
  refine WL.end ?_
  refine NE.code ?_
  refine CE.seq ?_
  refine CE.region ?_
  refine WL.det (op_move rfl) rfl rfl rfl ?_
  refine WL.det (op_move rfl) rfl rfl rfl ?_
  refine WL.call (oc_call (vs := [vS b'2 0 nH nH, vI ((1 + nLr : Nat) : Int)]) (cap := []) rfl rfl rfl Try.call44 (c_mark32 nH nH (some ⟨b'2, 0, none⟩) b'2 0 xH (1 + nLr) lnH (fun _ => rfl) hnH (by first | assumption | omega) w23 ((((((((((((r11.ext m12).ext m13).mod m14 (nC (lE (lL (lL r11.lt m12.size) lR)) nN)).ext m15).ext md1).ext m16).ext m17).ext m18).ext m19).ext m20).ext m21).mod m22 (nC (lG (lL (lL r7.lt (lT m9.size m10.size)) ge4)) nN)))) rfl rfl (ltb rfl) ?_
  rintro _ w24 ⟨rfl, r18, m23⟩
  refine WL.det (op_assign rfl) rfl rfl rfl ?_
  refine WL.end ?_
  refine NE.code ?_
  refine CE.seq ?_
  refine CE.seq ?_
  refine CE.region ?_
  refine WL.det (op_move rfl) rfl rfl rfl ?_
  refine WL.det (op_lti_f rfl rfl (by omega)) rfl rfl rfl ?_
  refine WL.det (op_move rfl) rfl rfl rfl ?_
  refine WL.yes rfl rfl rfl (ltb rfl) rfl rfl ?_
  refine WL.det (op_loadA (i := 0) (cs := [.slice none 0 0, vI 0, vI 0, vF 0, vF 0, vF 0, vF 0, vF 0, vI 0, vF 0, vF 0, vF 0, vF 0, vF 0, vF 0]) rfl Try.isAgg33 Try.sizeOf33 ((((((((((r14.ext m15).ext md1).ext m16).ext m17).ext m18).ext m19).ext m20).ext m21).mod m22 (nC (lG (lL (lL r7.lt (lT (lT (lT m9.size m10.size) m11.size) m12.size)) lR)) nN)).mod m23 (nC (lG (lL (lL r11.lt m12.size) lR)) nN)).rng rfl rfl rfl) rfl rfl rfl ?_
  refine WL.yes rfl rfl rfl (ltb rfl) rfl rfl ?_
  refine WL.det (op_loadA (i := 0) (cs := [.slice none 0 0, vI 0, vI 0, vF 0, vF 0, vF 0, vF 0, vF 0, vI 0, vF 0, vF 0, vF 0, vF 0, vF 0, vF 0]) rfl Try.isAgg33 Try.sizeOf33 (((((((((((((((((r6.ext m8).ext m9).mod m10 (nC (lE (lL (lL r4.lt (lT m7.size m8.size)) lR)) nN)).ext m11).ext m12).ext m13).mod m14 (nC (lE (lL (lL r4.lt (lT (lT (lT (lT (lT m7.size m8.size) m9.size) m10.size) m11.size) m12.size)) lR)) nN)).ext m15).ext md1).ext m16).ext m17).ext m18).ext m19).ext m20).ext m21).mod m22 (nC (lE (lL (lL r4.lt m7.size) ge3)) nN)).mod m23 (nC (lE (lL (lL r4.lt (lT (lT (lT m7.size m8.size) m9.size) m10.size)) ge4)) nN)).rng rfl rfl rfl) rfl rfl rfl ?_
  refine WL.yes rfl rfl rfl (ltb rfl) rfl rfl ?_
  refine WL.call (oc_call (vs := [.agg #[.slice none 0 0, vI 0, vI 0, vF 0, vF 0, vF 0, vF 0, vF 0, vI 0, vF 0, vF 0, vF 0, vF 0, vF 0, vF 0], .agg #[.slice none 0 0, vI 0, vI 0, vF 0, vF 0, vF 0, vF 0, vF 0, vI 0, vF 0, vF 0, vF 0, vF 0, vF 0, vF 0]]) (cap := []) rfl rfl rfl Try.call27 (c_eqString 0 0 none 0 0 [] (0 : Int) (0 : Int) 0 0 0 0 0 0 0 0 0 0 (0 : Int) 0 0 0 0 0 0 0 0 0 0 0 0 0 none 0 0 0 0 0 0 0 0 0 0 0 0 0 rfl (fun h => absurd h (Nat.lt_irrefl _)) (fun h => absurd h (Nat.lt_irrefl _)) rfl rfl rfl rfl rfl rfl rfl rfl rfl rfl rfl rfl rfl rfl rfl rfl rfl rfl rfl rfl rfl rfl (by omega) w24 (Rng.nil _ _ _) (Rng.nil _ _ _))) rfl rfl (ltb rfl) ?_
  rintro _ w25 ⟨rfl, m24⟩
  refine WL.yes rfl rfl rfl (ltb rfl) rfl rfl ?_
  refine WL.det (op_not rfl) rfl rfl rfl ?_
  refine WL.det (op_pick_f rfl rfl rfl) rfl rfl rfl ?_
  refine WL.det (op_move rfl) rfl rfl rfl ?_
  refine WL.yes rfl rfl rfl (ltb rfl) rfl rfl ?_
  refine WL.det (op_move rfl) rfl rfl rfl ?_
  refine WL.yes rfl rfl rfl (ltb rfl) rfl rfl ?_
  refine WL.det (op_move rfl) rfl rfl rfl ?_
  refine WL.yes rfl rfl rfl (ltb rfl) rfl rfl ?_
  refine WL.det (op_nei rfl rfl) rfl rfl rfl ?_
  refine WL.det (op_pick_f rfl rfl rfl) rfl rfl rfl ?_
  refine WL.end ?_
  refine NE.code ?_
  refine CE.cond_f rfl rfl ?_
  refine CE.skip' ?_
  refine NE.code ?_
  refine CE.seq ?_
  refine CE.region ?_
  refine WL.det (op_assign rfl) rfl rfl rfl ?_
  refine WL.end ?_
  refine NE.code ?_
  refine CE.seq ?_
  refine CE.region ?_
  refine WL.det (op_loadA (i := 0) (cs := [.slice none 0 0, vI 0, vI 0, vF 0, vF 0, vF 0, vF 0, vF 0, vI 0, vF 0, vF 0, vF 0, vF 0, vF 0, vF 0]) rfl Try.isAgg33 Try.sizeOf33 (((((((((((r14.ext m15).ext md1).ext m16).ext m17).ext m18).ext m19).ext m20).ext m21).mod m22 (nC (lG (lL (lL r7.lt (lT (lT (lT m9.size m10.size) m11.size) m12.size)) lR)) nN)).mod m23 (nC (lG (lL (lL r11.lt m12.size) lR)) nN)).ext m24).rng rfl rfl rfl) rfl rfl rfl ?_
  refine WL.det (op_move rfl) rfl rfl rfl ?_
  refine WL.call (oc_call (vs := [.agg #[.slice none 0 0, vI 0, vI 0, vF 0, vF 0, vF 0, vF 0, vF 0, vI 0, vF 0, vF 0, vF 0, vF 0, vF 0, vF 0], vI 1]) (cap := []) rfl rfl rfl Try.call28 (c_markString_nil (0 : Int) (0 : Int) 0 0 0 0 0 (0 : Int) 0 0 0 0 0 0 1 (by omega) w25)) rfl rfl (ltb rfl) ?_
  rintro _ w26 ⟨rfl, m25⟩
  refine WL.det (op_assign rfl) rfl rfl rfl ?_
  refine WL.end ?_
  refine NE.code ?_
  refine CE.seq ?_
  refine CE.region ?_
  refine WL.det (op_assign rfl) rfl rfl rfl ?_
  refine WL.end ?_
  refine NE.code ?_
  refine CE.seq ?_
  refine CE.region ?_
  refine WL.det (op_loadA (i := 0) (cs := [.slice none 0 0, vI 0, vI 0, vF 0, vF 0, vF 0, vF 0, vF 0, vI 0, vF 0, vF 0, vF 0, vF 0, vF 0, vF 0]) rfl Try.isAgg33 Try.sizeOf33 ((((((((((((r14.ext m15).ext md1).ext m16).ext m17).ext m18).ext m19).ext m20).ext m21).mod m22 (nC (lG (lL (lL r7.lt (lT (lT (lT m9.size m10.size) m11.size) m12.size)) lR)) nN)).mod m23 (nC (lG (lL (lL r11.lt m12.size) lR)) nN)).ext m24).ext m25).rng rfl rfl rfl) rfl rfl rfl ?_
  refine WL.det (op_move rfl) rfl rfl rfl ?_
  refine WL.call (oc_call (vs := [.agg #[.slice none 0 0, vI 0, vI 0, vF 0, vF 0, vF 0, vF 0, vF 0, vI 0, vF 0, vF 0, vF 0, vF 0, vF 0, vF 0], vI 1]) (cap := []) rfl rfl rfl Try.call29 (c_heldString_nil (0 : Int) (0 : Int) 0 0 0 0 0 (0 : Int) 0 0 0 0 0 0 1 (by omega) w26)) rfl rfl (ltb rfl) ?_
  rintro _ w27 ⟨rfl, m26⟩
  refine WL.det (op_assign rfl) rfl rfl rfl ?_
  refine WL.end ?_
  refine NE.code ?_
  refine CE.seq ?_
  refine CE.seq ?_
  refine CE.region ?_
  refine WL.det (op_move rfl) rfl rfl rfl ?_
  refine WL.det (op_lti rfl rfl) rfl rfl rfl ?_
  refine WL.end ?_
  refine NE.code ?_
  refine CE.cond_f rfl rfl ?_
  refine CE.skip' ?_
  refine NE.code ?_
  refine CE.seq ?_
  refine CE.seq ?_
  refine CE.region ?_
  refine WL.det (op_move rfl) rfl rfl rfl ?_
  refine WL.det (op_move rfl) rfl rfl rfl ?_
  refine WL.det (op_nei rfl rfl) rfl rfl rfl ?_
  refine WL.end ?_
  refine NE.code ?_
  refine CE.cond_f rfl rfl ?_
  refine CE.skip' ?_
  refine NE.code ?_
  refine CE.seq ?_
  refine CE.region ?_
  refine WL.det (op_loadA (i := 0) (cs := [.slice ALr nLr cLr, vI Lj, vI Tk, vF Tc0, vF Tc1, vF Tc2, vF Ts0, vF Ts1, vI Dk, vF Dc0, vF Dc1, vF Dc2, vF Ds0, vF Ds1, vF g]) rfl Try.isAgg51 Try.sizeOf51 ((((((((((((((((((((((((((r1.ext m2).ext m3).ext m4).ext m5).ext m6).mod m7 (nC (lE (lL (lL r1.lt (lT (lT (lT m2.size m3.size) m4.size) m5.size)) lR)) nN)).ext m8).ext m9).mod m10 (nC (lE (lL (lL r1.lt (lT (lT (lT (lT (lT (lT m2.size m3.size) m4.size) m5.size) m6.size) m7.size) m8.size)) lR)) nN)).ext m11).ext m12).ext m13).mod m14 (nC (lE (lL (lL r1.lt (lT (lT (lT (lT (lT (lT (lT (lT (lT (lT m2.size m3.size) m4.size) m5.size) m6.size) m7.size) m8.size) m9.size) m10.size) m11.size) m12.size)) lR)) nN)).ext m15).ext md1).ext m16).ext m17).ext m18).ext m19).ext m20).ext m21).mod m22 (nC (lE (lL (lL r1.lt (lT (lT (lT (lT (lT m2.size m3.size) m4.size) m5.size) m6.size) m7.size)) ge3)) nN)).mod m23 (nC (lE (lL (lL r1.lt (lT (lT (lT (lT (lT (lT (lT (lT m2.size m3.size) m4.size) m5.size) m6.size) m7.size) m8.size) m9.size) m10.size)) ge4)) nN)).ext m24).ext m25).ext m26).rng rfl rfl rfl) rfl rfl rfl ?_
  refine WL.call (oc_call (vs := [.agg #[.slice ALr nLr cLr, vI Lj, vI Tk, vF Tc0, vF Tc1, vF Tc2, vF Ts0, vF Ts1, vI Dk, vF Dc0, vF Dc1, vF Dc2, vF Ds0, vF Ds1, vF g]]) (cap := []) rfl rfl rfl Try.call26 (c_toString nLr cLr ALr bLr oLr xLr Lj Tk Tc0 Tc1 Tc2 Ts0 Ts1 Dk Dc0 Dc1 Dc2 Ds0 Ds1 g lnLr hALr (by omega) w27 ((((Rng.youngS rLr (Rng.youngS rLr (((((((((Rng.youngS rLr ((((Rng.youngS rLr (((Rng.youngS rLr ((((((rLr.ext m1).ext m2).ext m3).ext m4).ext m5).ext m6) m7 (allge_cons (lT (lT (lT (lT (lT m1.size m2.size) m3.size) m4.size) m5.size) lR) allge_nil)).ext m8).ext m9) m10 (allge_cons (lT (lT (lT (lT (lT (lT (lT (lT m1.size m2.size) m3.size) m4.size) m5.size) m6.size) m7.size) m8.size) lR) allge_nil)).ext m11).ext m12).ext m13) m14 (allge_cons (lT (lT (lT (lT (lT (lT (lT (lT (lT (lT (lT (lT m1.size m2.size) m3.size) m4.size) m5.size) m6.size) m7.size) m8.size) m9.size) m10.size) m11.size) m12.size) lR) allge_nil)).ext m15).ext md1).ext m16).ext m17).ext m18).ext m19).ext m20).ext m21) m22 (allge_cons (lT (lT (lT (lT (lT (lT (lT m1.size m2.size) m3.size) m4.size) m5.size) m6.size) m7.size) ge3) allge_nil)) m23 (allge_cons (lT (lT (lT (lT (lT (lT (lT (lT (lT (lT m1.size m2.size) m3.size) m4.size) m5.size) m6.size) m7.size) m8.size) m9.size) m10.size) ge4) allge_nil)).ext m24).ext m25).ext m26))) rfl rfl (ltb rfl) ?_
  rintro _ w28 ⟨bLr'4, rfl, r19, ge7, m27⟩
  refine WL.det (op_move rfl) rfl rfl rfl ?_
  refine WL.det (op_move rfl) rfl rfl rfl ?_
  refine WL.call (oc_call (vs := [.slice AH nH cH]) (cap := []) rfl rfl rfl Try.call41 (c_to32 nH cH AH bH oH xH lnH hAH hnH w28 (((((Rng.youngS rH (Rng.youngS rH (((((((((Rng.youngS rH ((((Rng.youngS rH (((Rng.youngS rH ((((((rH.ext m1).ext m2).ext m3).ext m4).ext m5).ext m6) m7 (allge_cons (lT (lT (lT (lT (lT m1.size m2.size) m3.size) m4.size) m5.size) lR) allge_nil)).ext m8).ext m9) m10 (allge_cons (lT (lT (lT (lT (lT (lT (lT (lT m1.size m2.size) m3.size) m4.size) m5.size) m6.size) m7.size) m8.size) lR) allge_nil)).ext m11).ext m12).ext m13) m14 (allge_cons (lT (lT (lT (lT (lT (lT (lT (lT (lT (lT (lT (lT m1.size m2.size) m3.size) m4.size) m5.size) m6.size) m7.size) m8.size) m9.size) m10.size) m11.size) m12.size) lR) allge_nil)).ext m15).ext md1).ext m16).ext m17).ext m18).ext m19).ext m20).ext m21) m22 (allge_cons (lT (lT (lT (lT (lT (lT (lT m1.size m2.size) m3.size) m4.size) m5.size) m6.size) m7.size) ge3) allge_nil)) m23 (allge_cons (lT (lT (lT (lT (lT (lT (lT (lT (lT (lT m1.size m2.size) m3.size) m4.size) m5.size) m6.size) m7.size) m8.size) m9.size) m10.size) ge4) allge_nil)).ext m24).ext m25).ext m26).ext m27))) rfl rfl (ltb rfl) ?_
  rintro _ w29 ⟨b'4, rfl, r20, ge8, m28⟩
  refine WL.call (oc_call (vs := [.agg #[vS bLr'4 0 nLr nLr, vI Lj, vI Tk, vF Tc0, vF Tc1, vF Tc2, vF Ts0, vF Ts1, vI Dk, vF Dc0, vF Dc1, vF Dc2, vF Ds0, vF Ds1, vF g], vF pl, vS b'4 0 nH nH]) (cap := []) rfl rfl rfl Try.call42 (c_iStrike_out nLr nLr bLr'4 xLr Lj Tk Tc0 Tc1 Tc2 Ts0 Ts1 Dk Dc0 Dc1 Dc2 Ds0 Ds1 g pl nH nH b'4 xH lnLr (by omega) (by first | assumption | exact W32.get (by assumption) _ | decide +kernel) (by first | assumption | exact W32.get (by assumption) _ | decide +kernel) (by first | assumption | exact W32.get (by assumption) _ | decide +kernel) (by first | assumption | exact W32.get (by assumption) _ | decide +kernel) lpl hv hp lnH (by first | assumption | exact W32.set (by assumption) (by first | assumption | exact wid_lt (by assumption)) | exact W32.zeros _ | exact W32.nil) hnH w29 (r19.ext m28).rng r20.rng)) rfl rfl (ltb rfl) ?_
  rintro _ w30 ⟨rfl, m29⟩
  refine WL.det (op_move rfl) rfl rfl rfl ?_
  refine WL.det (op_extract rfl rfl) rfl rfl rfl ?_
  refine WL.det (op_extract rfl rfl) rfl rfl rfl ?_
  refine WL.op (op_alloc (cs := [.slice none 0 0, vI 0, vI 0, vF 0, vF 0, vF 0, vF 0, vF 0, vI 0, vF 0, vF 0, vF 0, vF 0, vF 0, vF 0]) Try.zeroValue33 rfl) rfl rfl (ltb rfl) ?_
  rintro _ w31 ⟨rfl, r21, m30, z8⟩
  refine WL.op0 (op_store (i := 0) (cs := [.slice none 0 0, vI 0, vI 0, vF 0, vF 0, vF 0, vF 0, vF 0, vI 0, vF 0, vF 0, vF 0, vF 0, vF 0, vF 0]) rfl rfl rfl Try.sizeOf33 rfl r21 rfl (lB rfl) rfl) rfl rfl ?_
  rintro _ w32 ⟨r22, m31, z9⟩
  have r23 : Row w32 w30.heap.size 0 [.slice none 0 0, vI 0, vI 0, vF 0, vF 0, vF 0, vF 0, vF 0, vI 0, vF 0, vF 0, vF 0, vF 0, vF 0, vF 0] := Row.congr r22 rfl
  refine WL.det (op_assign rfl) rfl rfl rfl ?_
  refine WL.end ?_
  refine NE.code ?_
  refine CE.seq ?_
  refine CE.seq ?_
  refine CE.region ?_
  refine WL.det (op_loadA (i := 0) (cs := [.slice none 0 0, vI 0, vI 0, vF 0, vF 0, vF 0, vF 0, vF 0, vI 0, vF 0, vF 0, vF 0, vF 0, vF 0, vF 0]) rfl Try.isAgg33 Try.sizeOf33 r23.rng rfl rfl rfl) rfl rfl rfl ?_
  refine WL.det (op_loadA (i := 0) (cs := [.slice none 0 0, vI 0, vI 0, vF 0, vF 0, vF 0, vF 0, vF 0, vI 0, vF 0, vF 0, vF 0, vF 0, vF 0, vF 0]) rfl Try.isAgg33 Try.sizeOf33 (((((((((((((((((((((((((r6.ext m8).ext m9).mod m10 (nC (lE (lL (lL r4.lt (lT m7.size m8.size)) lR)) nN)).ext m11).ext m12).ext m13).mod m14 (nC (lE (lL (lL r4.lt (lT (lT (lT (lT (lT m7.size m8.size) m9.size) m10.size) m11.size) m12.size)) lR)) nN)).ext m15).ext md1).ext m16).ext m17).ext m18).ext m19).ext m20).ext m21).mod m22 (nC (lE (lL (lL r4.lt m7.size) ge3)) nN)).mod m23 (nC (lE (lL (lL r4.lt (lT (lT (lT m7.size m8.size) m9.size) m10.size)) ge4)) nN)).ext m24).ext m25).ext m26).ext m27).ext m28).ext m29).ext m30).mod m31 (nC (lE (lL (lL r4.lt (lT (lT (lT (lT (lT (lT (lT (lT (lT (lT (lT (lT (lT (lT (lT (lT (lT (lT (lT (lT (lT (lT (lT m7.size m8.size) m9.size) m10.size) m11.size) m12.size) m13.size) m14.size) m15.size) md1.size) m16.size) m17.size) m18.size) m19.size) m20.size) m21.size) m22.size) m23.size) m24.size) m25.size) m26.size) m27.size) m28.size) m29.size)) lR)) nN)).rng rfl rfl rfl) rfl rfl rfl ?_
  refine WL.call (oc_call (vs := [.agg #[.slice none 0 0, vI 0, vI 0, vF 0, vF 0, vF 0, vF 0, vF 0, vI 0, vF 0, vF 0, vF 0, vF 0, vF 0, vF 0], .agg #[.slice none 0 0, vI 0, vI 0, vF 0, vF 0, vF 0, vF 0, vF 0, vI 0, vF 0, vF 0, vF 0, vF 0, vF 0, vF 0]]) (cap := []) rfl rfl rfl Try.call27 (c_eqString 0 0 none 0 0 [] (0 : Int) (0 : Int) 0 0 0 0 0 0 0 0 0 0 (0 : Int) 0 0 0 0 0 0 0 0 0 0 0 0 0 none 0 0 0 0 0 0 0 0 0 0 0 0 0 rfl (fun h => absurd h (Nat.lt_irrefl _)) (fun h => absurd h (Nat.lt_irrefl _)) rfl rfl rfl rfl rfl rfl rfl rfl rfl rfl rfl rfl rfl rfl rfl rfl rfl rfl rfl rfl rfl rfl (by omega) w32 (Rng.nil _ _ _) (Rng.nil _ _ _))) rfl rfl (ltb rfl) ?_
  rintro _ w33 ⟨rfl, m32⟩
  refine WL.det (op_not rfl) rfl rfl rfl ?_
  refine WL.det (op_move rfl) rfl rfl rfl ?_
  refine WL.yes rfl rfl rfl (ltb rfl) rfl rfl ?_
  refine WL.det (op_move rfl) rfl rfl rfl ?_
  refine WL.yes rfl rfl rfl (ltb rfl) rfl rfl ?_
  refine WL.det (op_move rfl) rfl rfl rfl ?_
  refine WL.yes rfl rfl rfl (ltb rfl) rfl rfl ?_
  refine WL.det (op_nei rfl rfl) rfl rfl rfl ?_
  refine WL.det (op_pick_f rfl rfl rfl) rfl rfl rfl ?_
  refine WL.end ?_
  refine NE.code ?_
  refine CE.cond_f rfl rfl ?_
  refine CE.skip' ?_
  refine NE.code ?_
  refine CE.seq ?_
  refine CE.region ?_
  refine WL.det (op_assign rfl) rfl rfl rfl ?_
  refine WL.end ?_
  refine NE.code ?_
  refine CE.seq ?_
  refine CE.region ?_
  refine WL.det (op_loadA (i := 0) (cs := [.slice none 0 0, vI 0, vI 0, vF 0, vF 0, vF 0, vF 0, vF 0, vI 0, vF 0, vF 0, vF 0, vF 0, vF 0, vF 0]) rfl Try.isAgg33 Try.sizeOf33 (((((((((((((((((((r14.ext m15).ext md1).ext m16).ext m17).ext m18).ext m19).ext m20).ext m21).mod m22 (nC (lG (lL (lL r7.lt (lT (lT (lT m9.size m10.size) m11.size) m12.size)) lR)) nN)).mod m23 (nC (lG (lL (lL r11.lt m12.size) lR)) nN)).ext m24).ext m25).ext m26).ext m27).ext m28).ext m29).ext m30).mod m31 (nC (lE (lL (lL r12.lt (lT (lT (lT (lT (lT (lT (lT (lT (lT (lT (lT (lT (lT (lT (lT (lT m14.size m15.size) md1.size) m16.size) m17.size) m18.size) m19.size) m20.size) m21.size) m22.size) m23.size) m24.size) m25.size) m26.size) m27.size) m28.size) m29.size)) lR)) nN)).ext m32).rng rfl rfl rfl) rfl rfl rfl ?_
  refine WL.det (op_move rfl) rfl rfl rfl ?_
  refine WL.call (oc_call (vs := [.agg #[.slice none 0 0, vI 0, vI 0, vF 0, vF 0, vF 0, vF 0, vF 0, vI 0, vF 0, vF 0, vF 0, vF 0, vF 0, vF 0], vI 1]) (cap := []) rfl rfl rfl Try.call29 (c_heldString_nil (0 : Int) (0 : Int) 0 0 0 0 0 (0 : Int) 0 0 0 0 0 0 1 (by omega) w33)) rfl rfl (ltb rfl) ?_
  rintro _ w34 ⟨rfl, m33⟩
  refine WL.det (op_assign rfl) rfl rfl rfl ?_
  refine WL.end ?_
  refine NE.code ?_
  refine CE.seq ?_
  refine CE.seq ?_
  refine CE.region ?_
  refine WL.det (op_move rfl) rfl rfl rfl ?_
  refine WL.det (op_lti rfl rfl) rfl rfl rfl ?_
  refine WL.end ?_
  refine NE.code ?_
  refine CE.cond_f rfl rfl ?_
  refine CE.skip' ?_
  refine NE.code ?_
  refine CE.seq ?_
  refine CE.seq ?_
  refine CE.region ?_
  refine WL.det (op_move rfl) rfl rfl rfl ?_
  refine WL.det (op_move rfl) rfl rfl rfl ?_
  refine WL.det (op_nei rfl rfl) rfl rfl rfl ?_
  refine WL.end ?_
  refine NE.code ?_
  refine CE.cond_f rfl rfl ?_
  refine CE.skip' ?_
  refine NE.code ?_
  refine CE.seq ?_
  refine CE.region ?_
  refine WL.det (op_assign rfl) rfl rfl rfl ?_
  refine WL.end ?_
  refine NE.code ?_
  refine CE.ret' ?_
  refine XE.leave1 Try.results8 rfl ?_
  refine ⟨rfl, (((((((((((((((((((((((((((((((((((Mod.refl [] w).nt m1).nt m2).nt m3).nt m4).nt m5).nt m6).then m7 ((aC (.inr (lT (lT (lT (lT (lT m1.size m2.size) m3.size) m4.size) m5.size) lR)) aN))).nt m8).nt m9).then m10 ((aC (.inr (lT (lT (lT (lT (lT (lT (lT (lT m1.size m2.size) m3.size) m4.size) m5.size) m6.size) m7.size) m8.size) lR)) aN))).nt m11).nt m12).nt m13).then m14 ((aC (.inr (lT (lT (lT (lT (lT (lT (lT (lT (lT (lT (lT (lT m1.size m2.size) m3.size) m4.size) m5.size) m6.size) m7.size) m8.size) m9.size) m10.size) m11.size) m12.size) lR)) aN))).nt m15).nt md1).nt m16).nt m17).nt m18).nt m19).nt m20).nt m21).then m22 ((aC (.inr (lT (lT (lT (lT (lT (lT (lT m1.size m2.size) m3.size) m4.size) m5.size) m6.size) m7.size) ge3)) aN))).then m23 ((aC (.inr (lT (lT (lT (lT (lT (lT (lT (lT (lT (lT m1.size m2.size) m3.size) m4.size) m5.size) m6.size) m7.size) m8.size) m9.size) m10.size) ge4)) aN))).nt m24).nt m25).nt m26).nt m27).nt m28).nt m29).nt m30).then m31 ((aC (.inr (lT (lT (lT (lT (lT (lT (lT (lT (lT (lT (lT (lT (lT (lT (lT (lT (lT (lT (lT (lT (lT (lT (lT (lT (lT (lT (lT (lT (lT (lT m1.size m2.size) m3.size) m4.size) m5.size) m6.size) m7.size) m8.size) m9.size) m10.size) m11.size) m12.size) m13.size) m14.size) m15.size) md1.size) m16.size) m17.size) m18.size) m19.size) m20.size) m21.size) m22.size) m23.size) m24.size) m25.size) m26.size) m27.size) m28.size) m29.size) lR)) aN))).nt m32).nt m33)⟩

set_option maxRecDepth 100000 in
set_option maxHeartbeats 8000000 in
theorem law_strike_bad (nLr : Nat) (cLr : Nat) (ALr : Option Addr) (bLr : Nat) (oLr : Nat) (xLr : List Nat) (Lj : Int) (Tk : Int) (Tc0 : Nat) (Tc1 : Nat) (Tc2 : Nat) (Ts0 : Nat) (Ts1 : Nat) (Dk : Int) (Dc0 : Nat) (Dc1 : Nat) (Dc2 : Nat) (Ds0 : Nat) (Ds1 : Nat) (g : Nat) (pl : Nat) (nH : Nat) (cH : Nat) (AH : Option Addr) (bH : Nat) (oH : Nat) (xH : List Nat) (lnLr : xLr.length = nLr) (hALr : 0 < nLr → ALr = some ⟨bLr, oLr, none⟩) (wLr : W32 xLr) (lTs0 : Ts0 < wid .f32) (lTs1 : Ts1 < wid .f32) (lDs0 : Ds0 < wid .f32) (lDs1 : Ds1 < wid .f32) (hv : vStr nLr Lj Tk Tc0 Tc1 Tc2 Ts0 Ts1 Dk Dc0 Dc1 Dc2 Ds0 Ds1 g = false) (hm : nLr ≤ 9223372036854775807) (hnH : nH ≤ 1048576) (lpl : pl < wid .f32) (lnH : xH.length = nH) (hAH : 0 < nH → AH = some ⟨bH, oH, none⟩) (wH : W32 xH) (w : World) (rLr : Rng w bLr oLr (fl xLr)) (rH : Rng w bH oH (fl xH)) : Cl Try.prog 8 #[.agg #[.slice ALr nLr cLr, vI Lj, vI Tk, vF Tc0, vF Tc1, vF Tc2, vF Ts0, vF Ts1, vI Dk, vF Dc0, vF Dc1, vF Dc2, vF Ds0, vF Ds1, vF g], vF pl, .slice AH nH cH] w fun v w' => v = .bool true ∧ Mod [] w w' := by
  refine Cl.of Try.func8 Try.ntmps8 rfl rfl (ρ := [(0, .agg #[.slice ALr nLr cLr, vI Lj, vI Tk, vF Tc0, vF Tc1, vF Tc2, vF Ts0, vF Ts1, vI Dk, vF Dc0, vF Dc1, vF Dc2, vF Ds0, vF Ds1, vF g]), (1, vF pl), (2, .slice AH nH cH)]) rfl ?_
  refine CE.seq ?_
  refine CE.region ?_
  refine WL.op (op_box (cs := [.slice ALr nLr cLr, vI Lj, vI Tk, vF Tc0, vF Tc1, vF Tc2, vF Ts0, vF Ts1, vI Dk, vF Dc0, vF Dc1, vF Dc2, vF Ds0, vF Ds1, vF g]) rfl rfl) rfl rfl (ltb rfl) ?_
  rintro _ w1 ⟨rfl, r1, m1, z1⟩
  refine WL.det (op_assign rfl) rfl rfl rfl ?_
  refine WL.end ?_
  refine NE.code ?_
  refine CE.seq ?_
  refine CE.seq ?_
  refine CE.region ?_
  refine WL.det (op_move rfl) rfl rfl rfl ?_
  refine WL.det (op_len rfl Try.runUnderlying24) rfl rfl rfl ?_
  refine WL.det (op_gti rfl rfl) rfl rfl rfl ?_
  refine WL.end ?_
  refine NE.code ?_
  refine CE.cond_f rfl (decide_eq_false (by omega)) ?_
  refine CE.skip' ?_
  refine NE.code ?_
  refine CE.seq ?_
  refine CE.region ?_
  refine WL.det (op_assign rfl) rfl rfl rfl ?_
  refine WL.end ?_
  refine NE.code ?_
  refine CE.seq ?_
  refine CE.region ?_
  refine WL.det (op_loadA (i := 0) (cs := [.slice ALr nLr cLr, vI Lj, vI Tk, vF Tc0, vF Tc1, vF Tc2, vF Ts0, vF Ts1, vI Dk, vF Dc0, vF Dc1, vF Dc2, vF Ds0, vF Ds1, vF g]) rfl Try.isAgg51 Try.sizeOf51 r1.rng rfl rfl rfl) rfl rfl rfl ?_
  refine WL.det (op_move rfl) rfl rfl rfl ?_
  rcases Bool.eq_false_or_eq_true (decide (1048576 < nLr)) with hb1 | hb1
  · have hp1 := of_decide_eq_true hb1
    refine WL.call (oc_call (vs := [.agg #[.slice ALr nLr cLr, vI Lj, vI Tk, vF Tc0, vF Tc1, vF Tc2, vF Ts0, vF Ts1, vI Dk, vF Dc0, vF Dc1, vF Dc2, vF Ds0, vF Ds1, vF g], vI 1048576]) (cap := []) rfl rfl rfl Try.call25 (c_szString_over 1048576 nLr cLr ALr Lj Tk Tc0 Tc1 Tc2 Ts0 Ts1 Dk Dc0 Dc1 Dc2 Ds0 Ds1 g (by omega) (by omega) hm w1)) rfl rfl (ltb rfl) ?_
    rintro _ w2 ⟨rfl, m2⟩
    refine WL.det (op_assign rfl) rfl rfl rfl ?_
    refine WL.end ?_
    refine NE.code ?_
    refine CE.seq ?_
    refine CE.seq ?_
    refine CE.region ?_
    refine WL.det (op_move rfl) rfl rfl rfl ?_
    refine WL.det (op_lti rfl rfl) rfl rfl rfl ?_
    refine WL.end ?_
    refine NE.code ?_
    refine CE.cond_t rfl rfl ?_
    refine CE.seq ?_
    refine CE.region ?_
    refine WL.det (op_assign rfl) rfl rfl rfl ?_
    refine WL.end ?_
    refine NE.code ?_
    refine CE.ret' ?_
    refine XE.ret_then ?_
    refine XE.leave1 Try.results8 rfl ?_
    refine ⟨rfl, (((Mod.refl [] w).nt m1).nt m2)⟩
  · have hp1 := of_decide_eq_false hb1
    refine WL.call (oc_call (vs := [.agg #[.slice ALr nLr cLr, vI Lj, vI Tk, vF Tc0, vF Tc1, vF Tc2, vF Ts0, vF Ts1, vI Dk, vF Dc0, vF Dc1, vF Dc2, vF Ds0, vF Ds1, vF g], vI 1048576]) (cap := []) rfl rfl rfl Try.call25 (c_szString 1048576 nLr cLr ALr Lj Tk Tc0 Tc1 Tc2 Ts0 Ts1 Dk Dc0 Dc1 Dc2 Ds0 Ds1 g (by omega) (by omega) w1)) rfl rfl (ltb rfl) ?_
    rintro _ w3 ⟨rfl, m3⟩
    refine WL.det (op_assign rfl) rfl rfl rfl ?_
    refine WL.end ?_
    refine NE.code ?_
    refine CE.seq ?_
    refine CE.seq ?_
    refine CE.region ?_
    refine WL.det (op_move rfl) rfl rfl rfl ?_
    refine WL.det (op_lti_f rfl rfl (by omega)) rfl rfl rfl ?_
    refine WL.end ?_
    refine NE.code ?_
    refine CE.cond_f rfl rfl ?_
    refine CE.skip' ?_
    refine NE.code ?_
    refine CE.seq ?_
    refine CE.region ?_
    refine WL.det (op_loadA (i := 0) (cs := [.slice ALr nLr cLr, vI Lj, vI Tk, vF Tc0, vF Tc1, vF Tc2, vF Ts0, vF Ts1, vI Dk, vF Dc0, vF Dc1, vF Dc2, vF Ds0, vF Ds1, vF g]) rfl Try.isAgg51 Try.sizeOf51 (r1.ext m3).rng rfl rfl rfl) rfl rfl rfl ?_
    refine WL.call (oc_call (vs := [.agg #[.slice ALr nLr cLr, vI Lj, vI Tk, vF Tc0, vF Tc1, vF Tc2, vF Ts0, vF Ts1, vI Dk, vF Dc0, vF Dc1, vF Dc2, vF Ds0, vF Ds1, vF g]]) (cap := []) rfl rfl rfl Try.call26 (c_toString nLr cLr ALr bLr oLr xLr Lj Tk Tc0 Tc1 Tc2 Ts0 Ts1 Dk Dc0 Dc1 Dc2 Ds0 Ds1 g lnLr hALr (by omega) w3 ((rLr.ext m1).ext m3))) rfl rfl (ltb rfl) ?_
    rintro _ w4 ⟨bLr'1, rfl, r2, ge1, m4⟩
    refine WL.det (op_move rfl) rfl rfl rfl ?_
    refine WL.det (op_move rfl) rfl rfl rfl ?_
    refine WL.call (oc_call (vs := [.slice AH nH cH]) (cap := []) rfl rfl rfl Try.call41 (c_to32 nH cH AH bH oH xH lnH hAH hnH w4 (((rH.ext m1).ext m3).ext m4))) rfl rfl (ltb rfl) ?_
    rintro _ w5 ⟨b'1, rfl, r3, ge2, m5⟩
    refine WL.call (oc_call (vs := [.agg #[vS bLr'1 0 nLr nLr, vI Lj, vI Tk, vF Tc0, vF Tc1, vF Tc2, vF Ts0, vF Ts1, vI Dk, vF Dc0, vF Dc1, vF Dc2, vF Ds0, vF Ds1, vF g], vF pl, vS b'1 0 nH nH]) (cap := []) rfl rfl rfl Try.call40 (c_sStrike_bad nLr nLr bLr'1 xLr Lj Tk Tc0 Tc1 Tc2 Ts0 Ts1 Dk Dc0 Dc1 Dc2 Ds0 Ds1 g pl nH nH b'1 xH lnLr (by omega) (by first | assumption | exact W32.get (by assumption) _ | decide +kernel) (by first | assumption | exact W32.get (by assumption) _ | decide +kernel) (by first | assumption | exact W32.get (by assumption) _ | decide +kernel) (by first | assumption | exact W32.get (by assumption) _ | decide +kernel) lpl hv lnH (by first | assumption | exact W32.set (by assumption) (by first | assumption | exact wid_lt (by assumption)) | exact W32.zeros _ | exact W32.nil) hnH w5 (r2.ext m5).rng r3.rng)) rfl rfl (ltb rfl) ?_
    rintro _ w6 ⟨rfl, m6⟩
    refine WL.det (op_move rfl) rfl rfl rfl ?_
    refine WL.det (op_extract rfl rfl) rfl rfl rfl ?_
    refine WL.det (op_extract rfl rfl) rfl rfl rfl ?_
    refine WL.op (op_alloc (cs := [.slice none 0 0, vI 0, vI 0, vF 0, vF 0, vF 0, vF 0, vF 0, vI 0, vF 0, vF 0, vF 0, vF 0, vF 0, vF 0]) Try.zeroValue33 rfl) rfl rfl (ltb rfl) ?_
    rintro _ w7 ⟨rfl, r4, m7, z2⟩
    refine WL.op0 (op_store (i := 0) (cs := [.slice none 0 0, vI 0, vI 0, vF 0, vF 0, vF 0, vF 0, vF 0, vI 0, vF 0, vF 0, vF 0, vF 0, vF 0, vF 0]) rfl rfl rfl Try.sizeOf33 rfl r4 rfl (lB rfl) rfl) rfl rfl ?_
    rintro _ w8 ⟨r5, m8, z3⟩
    have r6 : Row w8 w6.heap.size 0 [.slice none 0 0, vI 0, vI 0, vF 0, vF 0, vF 0, vF 0, vF 0, vI 0, vF 0, vF 0, vF 0, vF 0, vF 0, vF 0] := Row.congr r5 rfl
    refine WL.det (op_assign rfl) rfl rfl rfl ?_
    refine WL.end ?_
    refine NE.code ?_
    refine CE.seq ?_
    refine CE.region ?_
    refine WL.det (op_loadA (i := 0) (cs := [.slice ALr nLr cLr, vI Lj, vI Tk, vF Tc0, vF Tc1, vF Tc2, vF Ts0, vF Ts1, vI Dk, vF Dc0, vF Dc1, vF Dc2, vF Ds0, vF Ds1, vF g]) rfl Try.isAgg51 Try.sizeOf51 ((((((r1.ext m3).ext m4).ext m5).ext m6).ext m7).mod m8 (nC (lE (lL (lL r1.lt (lT (lT (lT m3.size m4.size) m5.size) m6.size)) lR)) nN)).rng rfl rfl rfl) rfl rfl rfl ?_
    refine WL.call (oc_call (vs := [.agg #[.slice ALr nLr cLr, vI Lj, vI Tk, vF Tc0, vF Tc1, vF Tc2, vF Ts0, vF Ts1, vI Dk, vF Dc0, vF Dc1, vF Dc2, vF Ds0, vF Ds1, vF g]]) (cap := []) rfl rfl rfl Try.call26 (c_toString nLr cLr ALr bLr oLr xLr Lj Tk Tc0 Tc1 Tc2 Ts0 Ts1 Dk Dc0 Dc1 Dc2 Ds0 Ds1 g lnLr hALr (by omega) w8 (Rng.youngS rLr ((((((rLr.ext m1).ext m3).ext m4).ext m5).ext m6).ext m7) m8 (allge_cons (lT (lT (lT (lT (lT m1.size m3.size) m4.size) m5.size) m6.size) lR) allge_nil)))) rfl rfl (ltb rfl) ?_
    rintro _ w9 ⟨bLr'2, rfl, r7, ge3, m9⟩
    refine WL.op (op_alloc (cs := [.slice none 0 0, vI 0, vI 0, vF 0, vF 0, vF 0, vF 0, vF 0, vI 0, vF 0, vF 0, vF 0, vF 0, vF 0, vF 0]) Try.zeroValue33 rfl) rfl rfl (ltb rfl) ?_
    rintro _ w10 ⟨rfl, r8, m10, z4⟩
    refine WL.op0 (op_store (i := 0) (cs := [vS bLr'2 0 nLr nLr, vI Lj, vI Tk, vF Tc0, vF Tc1, vF Tc2, vF Ts0, vF Ts1, vI Dk, vF Dc0, vF Dc1, vF Dc2, vF Ds0, vF Ds1, vF g]) rfl rfl rfl Try.sizeOf33 rfl r8 rfl (lB rfl) rfl) rfl rfl ?_
    rintro _ w11 ⟨r9, m11, z5⟩
    have r10 : Row w11 w9.heap.size 0 [vS bLr'2 0 nLr nLr, vI Lj, vI Tk, vF Tc0, vF Tc1, vF Tc2, vF Ts0, vF Ts1, vI Dk, vF Dc0, vF Dc1, vF Dc2, vF Ds0, vF Ds1, vF g] := Row.congr r9 rfl
    refine WL.end ?_
    refine NE.code ?_
    refine CE.seq ?_
    refine CE.region ?_
    refine WL.det (op_move rfl) rfl rfl rfl ?_
    refine WL.call (oc_call (vs := [.slice AH nH cH]) (cap := []) rfl rfl rfl Try.call41 (c_to32 nH cH AH bH oH xH lnH hAH hnH w11 (Rng.youngS rH (((Rng.youngS rH ((((((rH.ext m1).ext m3).ext m4).ext m5).ext m6).ext m7) m8 (allge_cons (lT (lT (lT (lT (lT m1.size m3.size) m4.size) m5.size) m6.size) lR) allge_nil)).ext m9).ext m10) m11 (allge_cons (lT (lT (lT (lT (lT (lT (lT (lT m1.size m3.size) m4.size) m5.size) m6.size) m7.size) m8.size) m9.size) lR) allge_nil)))) rfl rfl (ltb rfl) ?_
    rintro _ w12 ⟨b'2, rfl, r11, ge4, m12⟩
    refine WL.det (op_assign rfl) rfl rfl rfl ?_
    refine WL.end ?_
    refine NE.code ?_
    refine CE.seq ?_
    refine CE.region ?_
    refine WL.det (op_loadA (i := 0) (cs := [vS bLr'2 0 nLr nLr, vI Lj, vI Tk, vF Tc0, vF Tc1, vF Tc2, vF Ts0, vF Ts1, vI Dk, vF Dc0, vF Dc1, vF Dc2, vF Ds0, vF Ds1, vF g]) rfl Try.isAgg33 Try.sizeOf33 (r10.ext m12).rng rfl rfl rfl) rfl rfl rfl ?_
    refine WL.det (op_move rfl) rfl rfl rfl ?_
    refine WL.det (op_move rfl) rfl rfl rfl ?_
    refine WL.call (oc_call (vs := [.agg #[vS bLr'2 0 nLr nLr, vI Lj, vI Tk, vF Tc0, vF Tc1, vF Tc2, vF Ts0, vF Ts1, vI Dk, vF Dc0, vF Dc1, vF Dc2, vF Ds0, vF Ds1, vF g], vF pl, vS b'2 0 nH nH]) (cap := []) rfl rfl rfl Try.call42 (c_iStrike_bad nLr nLr bLr'2 xLr Lj Tk Tc0 Tc1 Tc2 Ts0 Ts1 Dk Dc0 Dc1 Dc2 Ds0 Ds1 g pl nH nH b'2 xH lnLr (by omega) (by first | assumption | exact W32.get (by assumption) _ | decide +kernel) (by first | assumption | exact W32.get (by assumption) _ | decide +kernel) (by first | assumption | exact W32.get (by assumption) _ | decide +kernel) (by first | assumption | exact W32.get (by assumption) _ | decide +kernel) lpl hv lnH (by first | assumption | exact W32.set (by assumption) (by first | assumption | exact wid_lt (by assumption)) | exact W32.zeros _ | exact W32.nil) hnH w12 (((r7.ext m10).mod m11 (nC (lE (lL r7.lt lR)) nN)).ext m12).rng r11.rng)) rfl rfl (ltb rfl) ?_
    rintro _ w13 ⟨rfl, m13⟩
    refine WL.det (op_move rfl) rfl rfl rfl ?_
    refine WL.det (op_extract rfl rfl) rfl rfl rfl ?_
    refine WL.det (op_extract rfl rfl) rfl rfl rfl ?_
    refine WL.op (op_alloc (cs := [.slice none 0 0, vI 0, vI 0, vF 0, vF 0, vF 0, vF 0, vF 0, vI 0, vF 0, vF 0, vF 0, vF 0, vF 0, vF 0]) Try.zeroValue33 rfl) rfl rfl (ltb rfl) ?_
    rintro _ w14 ⟨rfl, r12, m14, z6⟩
    refine WL.op0 (op_store (i := 0) (cs := [.slice none 0 0, vI 0, vI 0, vF 0, vF 0, vF 0, vF 0, vF 0, vI 0, vF 0, vF 0, vF 0, vF 0, vF 0, vF 0]) rfl rfl rfl Try.sizeOf33 rfl r12 rfl (lB rfl) rfl) rfl rfl ?_
    rintro _ w15 ⟨r13, m15, z7⟩
    have r14 : Row w15 w13.heap.size 0 [.slice none 0 0, vI 0, vI 0, vF 0, vF 0, vF 0, vF 0, vF 0, vI 0, vF 0, vF 0, vF 0, vF 0, vF 0, vF 0] := Row.congr r13 rfl
    refine WL.det (op_assign rfl) rfl rfl rfl ?_
    refine WL.end ?_
    refine NE.code ?_
    refine CE.seq ?_
    refine CE.seq ?_
    refine CE.region ?_
    refine WL.det (op_loadA (i := 0) (cs := [.slice none 0 0, vI 0, vI 0, vF 0, vF 0, vF 0, vF 0, vF 0, vI 0, vF 0, vF 0, vF 0, vF 0, vF 0, vF 0]) rfl Try.isAgg33 Try.sizeOf33 r14.rng rfl rfl rfl) rfl rfl rfl ?_
    refine WL.det (op_loadA (i := 0) (cs := [.slice none 0 0, vI 0, vI 0, vF 0, vF 0, vF 0, vF 0, vF 0, vI 0, vF 0, vF 0, vF 0, vF 0, vF 0, vF 0]) rfl Try.isAgg33 Try.sizeOf33 (((((((r6.ext m9).ext m10).mod m11 (nC (lE (lL (lL r4.lt (lT m8.size m9.size)) lR)) nN)).ext m12).ext m13).ext m14).mod m15 (nC (lE (lL (lL r4.lt (lT (lT (lT (lT (lT m8.size m9.size) m10.size) m11.size) m12.size) m13.size)) lR)) nN)).rng rfl rfl rfl) rfl rfl rfl ?_
    refine WL.call (oc_call (vs := [.agg #[.slice none 0 0, vI 0, vI 0, vF 0, vF 0, vF 0, vF 0, vF 0, vI 0, vF 0, vF 0, vF 0, vF 0, vF 0, vF 0], .agg #[.slice none 0 0, vI 0, vI 0, vF 0, vF 0, vF 0, vF 0, vF 0, vI 0, vF 0, vF 0, vF 0, vF 0, vF 0, vF 0]]) (cap := []) rfl rfl rfl Try.call27 (c_eqString 0 0 none 0 0 [] (0 : Int) (0 : Int) 0 0 0 0 0 0 0 0 0 0 (0 : Int) 0 0 0 0 0 0 0 0 0 0 0 0 0 none 0 0 0 0 0 0 0 0 0 0 0 0 0 rfl (fun h => absurd h (Nat.lt_irrefl _)) (fun h => absurd h (Nat.lt_irrefl _)) rfl rfl rfl rfl rfl rfl rfl rfl rfl rfl rfl rfl rfl rfl rfl rfl rfl rfl rfl rfl rfl rfl (by omega) w15 (Rng.nil _ _ _) (Rng.nil _ _ _))) rfl rfl (ltb rfl) ?_
    rintro _ w16 ⟨rfl, m16⟩
    refine WL.det (op_not rfl) rfl rfl rfl ?_
    refine WL.det (op_move rfl) rfl rfl rfl ?_
    refine WL.yes rfl rfl rfl (ltb rfl) rfl rfl ?_
    refine WL.det (op_move rfl) rfl rfl rfl ?_
    refine WL.yes rfl rfl rfl (ltb rfl) rfl rfl ?_
    refine WL.det (op_move rfl) rfl rfl rfl ?_
    refine WL.yes rfl rfl rfl (ltb rfl) rfl rfl ?_
    refine WL.det (op_nei rfl rfl) rfl rfl rfl ?_
    refine WL.det (op_pick_f rfl rfl rfl) rfl rfl rfl ?_
    refine WL.end ?_
    refine NE.code ?_
    refine CE.cond_f rfl rfl ?_
    refine CE.skip' ?_
    refine NE.code ?_
    refine CE.seq ?_
    refine CE.seq ?_
    refine CE.draw (fun | 2 => some (fun _ wA uA wB => ∃ (bLr' : Nat), uA = .agg #[vS bLr' 0 nLr nLr, vI Lj, vI Tk, vF Tc0, vF Tc1, vF Tc2, vF Ts0, vF Ts1, vI Dk, vF Dc0, vF Dc1, vF Dc2, vF Ds0, vF Ds1, vF g] ∧ Row wB bLr' 0 (fl xLr) ∧ wA.heap.size ≤ bLr' ∧ Mod [] wA wB) | _ => none) [0, 1, 2] [3, 4] [] (by kernel_rfl) (by kernel_rfl) ?_
    have md1 : Mod [] w16 w16.drew := (Mod.refl _ _).drew
    generalize w16.drew = w17 at md1 ⊢
    refine DR.det (i := 0) rfl rfl (by kernel_rfl) (.free rfl) rfl rfl (fun wD mD => op_loadA (i := 0) (cs := [vS bLr'2 0 nLr nLr, vI Lj, vI Tk, vF Tc0, vF Tc1, vF Tc2, vF Ts0, vF Ts1, vI Dk, vF Dc0, vF Dc1, vF Dc2, vF Ds0, vF Ds1, vF g]) rfl Try.isAgg33 Try.sizeOf33 (((((((r10.ext m12).ext m13).ext m14).mod m15 (nC (lE (lL (lL r8.lt (lT (lT m11.size m12.size) m13.size)) lR)) nN)).ext m16).ext md1).ext mD).rng rfl rfl rfl) ?_
    refine DR.det (i := 1) rfl rfl (by kernel_rfl) (.free rfl) rfl rfl (fun wD mD => op_loadA (i := 0) (cs := [.slice ALr nLr cLr, vI Lj, vI Tk, vF Tc0, vF Tc1, vF Tc2, vF Ts0, vF Ts1, vI Dk, vF Dc0, vF Dc1, vF Dc2, vF Ds0, vF Ds1, vF g]) rfl Try.isAgg51 Try.sizeOf51 ((((((((((((((((r1.ext m3).ext m4).ext m5).ext m6).ext m7).mod m8 (nC (lE (lL (lL r1.lt (lT (lT (lT m3.size m4.size) m5.size) m6.size)) lR)) nN)).ext m9).ext m10).mod m11 (nC (lE (lL (lL r1.lt (lT (lT (lT (lT (lT (lT m3.size m4.size) m5.size) m6.size) m7.size) m8.size) m9.size)) lR)) nN)).ext m12).ext m13).ext m14).mod m15 (nC (lE (lL (lL r1.lt (lT (lT (lT (lT (lT (lT (lT (lT (lT (lT m3.size m4.size) m5.size) m6.size) m7.size) m8.size) m9.size) m10.size) m11.size) m12.size) m13.size)) lR)) nN)).ext m16).ext md1).ext mD).rng rfl rfl rfl) ?_
    refine DR.one (i := 2) rfl rfl (by kernel_rfl) (.free rfl) rfl (ltb rfl) (vs := [.func (.func 26) #[] #[], .agg #[.slice ALr nLr cLr, vI Lj, vI Tk, vF Tc0, vF Tc1, vF Tc2, vF Ts0, vF Ts1, vI Dk, vF Dc0, vF Dc1, vF Dc2, vF Ds0, vF Ds1, vF g]]) rfl ?_
    intro w18 m17
    refine ⟨oc_call (vs := [.agg #[.slice ALr nLr cLr, vI Lj, vI Tk, vF Tc0, vF Tc1, vF Tc2, vF Ts0, vF Ts1, vI Dk, vF Dc0, vF Dc1, vF Dc2, vF Ds0, vF Ds1, vF g]]) (cap := []) rfl rfl rfl Try.call26 (c_toString nLr cLr ALr bLr oLr xLr Lj Tk Tc0 Tc1 Tc2 Ts0 Ts1 Dk Dc0 Dc1 Dc2 Ds0 Ds1 g lnLr hALr (by omega) w18 ((((Rng.youngS rLr ((((Rng.youngS rLr (((Rng.youngS rLr ((((((rLr.ext m1).ext m3).ext m4).ext m5).ext m6).ext m7) m8 (allge_cons (lT (lT (lT (lT (lT m1.size m3.size) m4.size) m5.size) m6.size) lR) allge_nil)).ext m9).ext m10) m11 (allge_cons (lT (lT (lT (lT (lT (lT (lT (lT m1.size m3.size) m4.size) m5.size) m6.size) m7.size) m8.size) m9.size) lR) allge_nil)).ext m12).ext m13).ext m14) m15 (allge_cons (lT (lT (lT (lT (lT (lT (lT (lT (lT (lT (lT (lT m1.size m3.size) m4.size) m5.size) m6.size) m7.size) m8.size) m9.size) m10.size) m11.size) m12.size) m13.size) lR) allge_nil)).ext m16).ext md1).ext m17)), ?_⟩
    rintro _ w19 ⟨bLr'3, rfl, r15, ge5, m18⟩
    refine ⟨(((Mod.refl [] w17).nt m17).nt m18), ?_⟩
    refine DR.done rfl ?_
    intro w20 m19
    refine WO.call rfl (.free rfl) rfl (ltb rfl) (oc_call (vs := [.agg #[vS bLr'2 0 nLr nLr, vI Lj, vI Tk, vF Tc0, vF Tc1, vF Tc2, vF Ts0, vF Ts1, vI Dk, vF Dc0, vF Dc1, vF Dc2, vF Ds0, vF Ds1, vF g], .agg #[vS bLr'3 0 nLr nLr, vI Lj, vI Tk, vF Tc0, vF Tc1, vF Tc2, vF Ts0, vF Ts1, vI Dk, vF Dc0, vF Dc1, vF Dc2, vF Ds0, vF Ds1, vF g]]) (cap := []) rfl rfl rfl Try.call27 (c_eqString nLr nLr (some ⟨bLr'2, 0, none⟩) bLr'2 0 xLr Lj Tk Tc0 Tc0 Tc1 Tc1 Tc2 Tc2 Ts0 Ts0 Ts1 Ts1 Dk Dc0 Dc0 Dc1 Dc1 Dc2 Dc2 Ds0 Ds0 Ds1 Ds1 g g nLr (some ⟨bLr'3, 0, none⟩) bLr'3 0 Tc0 Tc1 Tc2 Ts0 Ts1 Dc0 Dc1 Dc2 Ds0 Ds1 g lnLr (fun _ => rfl) (fun _ => rfl) rfl rfl rfl rfl rfl rfl rfl rfl rfl rfl rfl rfl rfl rfl rfl rfl rfl rfl rfl rfl rfl rfl hm w20 (((((((((((r7.ext m10).mod m11 (nC (lE (lL r7.lt lR)) nN)).ext m12).ext m13).ext m14).mod m15 (nC (lE (lL (lL r7.lt (lT (lT (lT m10.size m11.size) m12.size) m13.size)) lR)) nN)).ext m16).ext md1).ext m17).ext m18).ext m19).rng (r15.ext m19).rng)) ?_
    rintro _ w21 ⟨rfl, m20⟩
    refine WO.det (op_not rfl) rfl (.free rfl) rfl rfl ?_
    refine WO.end ?_
    refine NE.code ?_
    refine CE.cond_f rfl rfl ?_
    refine CE.skip' ?_
    refine NE.code ?_
    refine CE.seq ?_
    refine CE.seq ?_
    refine CE.region ?_
    refine WL.det (op_move rfl) rfl rfl rfl ?_
    refine WL.det (op_move rfl) rfl rfl rfl ?_
    refine WL.call (oc_call (vs := [.slice AH nH cH]) (cap := []) rfl rfl rfl Try.call41 (c_to32 nH cH AH bH oH xH lnH hAH hnH w21 (((((((Rng.youngS rH ((((Rng.youngS rH (((Rng.youngS rH ((((((rH.ext m1).ext m3).ext m4).ext m5).ext m6).ext m7) m8 (allge_cons (lT (lT (lT (lT (lT m1.size m3.size) m4.size) m5.size) m6.size) lR) allge_nil)).ext m9).ext m10) m11 (allge_cons (lT (lT (lT (lT (lT (lT (lT (lT m1.size m3.size) m4.size) m5.size) m6.size) m7.size) m8.size) m9.size) lR) allge_nil)).ext m12).ext m13).ext m14) m15 (allge_cons (lT (lT (lT (lT (lT (lT (lT (lT (lT (lT (lT (lT m1.size m3.size) m4.size) m5.size) m6.size) m7.size) m8.size) m9.size) m10.size) m11.size) m12.size) m13.size) lR) allge_nil)).ext m16).ext md1).ext m17).ext m18).ext m19).ext m20))) rfl rfl (ltb rfl) ?_
    rintro _ w22 ⟨b'3, rfl, r16, ge6, m21⟩
    refine WL.call (oc_call (vs := [vS b'2 0 nH nH, vS b'3 0 nH nH]) (cap := []) rfl rfl rfl Try.call43 (c_eq32_same nH nH (some ⟨b'2, 0, none⟩) b'2 0 xH nH (some ⟨b'3, 0, none⟩) b'3 0 lnH (fun _ => rfl) (fun _ => rfl) (by omega) w22 ((((((((((r11.ext m13).ext m14).mod m15 (nC (lE (lL (lL r11.lt m13.size) lR)) nN)).ext m16).ext md1).ext m17).ext m18).ext m19).ext m20).ext m21).rng r16.rng)) rfl rfl (ltb rfl) ?_
    rintro _ w23 ⟨rfl, m22⟩
    refine WL.det (op_not rfl) rfl rfl rfl ?_
    refine WL.end ?_
    refine NE.code ?_
    refine CE.cond_f rfl rfl ?_
    refine CE.skip' ?_
    refine NE.code ?_
    refine CE.seq ?_
    refine CE.region ?_
    refine WL.det (op_assign rfl) rfl rfl rfl ?_
    refine WL.end ?_
    refine NE.code ?_
    refine CE.seq ?_
    refine CE.region ?_
    refine WL.det (op_loadA (i := 0) (cs := [vS bLr'2 0 nLr nLr, vI Lj, vI Tk, vF Tc0, vF Tc1, vF Tc2, vF Ts0, vF Ts1, vI Dk, vF Dc0, vF Dc1, vF Dc2, vF Ds0, vF Ds1, vF g]) rfl Try.isAgg33 Try.sizeOf33 ((((((((((((r10.ext m12).ext m13).ext m14).mod m15 (nC (lE (lL (lL r8.lt (lT (lT m11.size m12.size) m13.size)) lR)) nN)).ext m16).ext md1).ext m17).ext m18).ext m19).ext m20).ext m21).ext m22).rng rfl rfl rfl) rfl rfl rfl ?_
    refine WL.det (op_move rfl) rfl rfl rfl ?_
    refine WL.call (oc_call (vs := [.agg #[vS bLr'2 0 nLr nLr, vI Lj, vI Tk, vF Tc0, vF Tc1, vF Tc2, vF Ts0, vF Ts1, vI Dk, vF Dc0, vF Dc1, vF Dc2, vF Ds0, vF Ds1, vF g], vI 1]) (cap := []) rfl rfl rfl Try.call28 (c_markString nLr nLr bLr'2 xLr Lj Tk Tc0 Tc1 Tc2 Ts0 Ts1 Dk Dc0 Dc1 Dc2 Ds0 Ds1 g 1 lnLr (by omega) (by omega) w23 ((((((((((((((r7.ext m10).mod m11 (nC (lE (lL r7.lt lR)) nN)).ext m12).ext m13).ext m14).mod m15 (nC (lE (lL (lL r7.lt (lT (lT (lT m10.size m11.size) m12.size) m13.size)) lR)) nN)).ext m16).ext md1).ext m17).ext m18).ext m19).ext m20).ext m21).ext m22))) rfl rfl (ltb rfl) ?_
    rintro _ w24 ⟨rfl, r17, m23⟩
    refine WL.det (op_assign rfl) rfl rfl rfl ?_
    refine WL.end ?_
    refine NE.code ?_
    refine CE.seq ?_
    refine CE.region ?_
    refine WL.det (op_move rfl) rfl rfl rfl ?_
    refine WL.det (op_move rfl) rfl rfl rfl ?_
    refine WL.call (oc_call (vs := [vS b'2 0 nH nH, vI ((1 + nLr : Nat) : Int)]) (cap := []) rfl rfl rfl Try.call44 (c_mark32 nH nH (some ⟨b'2, 0, none⟩) b'2 0 xH (1 + nLr) lnH (fun _ => rfl) hnH (by first | assumption | omega) w24 ((((((((((((r11.ext m13).ext m14).mod m15 (nC (lE (lL (lL r11.lt m13.size) lR)) nN)).ext m16).ext md1).ext m17).ext m18).ext m19).ext m20).ext m21).ext m22).mod m23 (nC (lG (lL (lL r7.lt (lT m10.size m11.size)) ge4)) nN)))) rfl rfl (ltb rfl) ?_
    rintro _ w25 ⟨rfl, r18, m24⟩
    refine WL.det (op_assign rfl) rfl rfl rfl ?_
    refine WL.end ?_
    refine NE.code ?_
    refine CE.seq ?_
    refine CE.seq ?_
    refine CE.region ?_
    refine WL.det (op_move rfl) rfl rfl rfl ?_
    refine WL.det (op_lti_f rfl rfl (by omega)) rfl rfl rfl ?_
    refine WL.det (op_move rfl) rfl rfl rfl ?_
    refine WL.yes rfl rfl rfl (ltb rfl) rfl rfl ?_
    refine WL.det (op_loadA (i := 0) (cs := [.slice none 0 0, vI 0, vI 0, vF 0, vF 0, vF 0, vF 0, vF 0, vI 0, vF 0, vF 0, vF 0, vF 0, vF 0, vF 0]) rfl Try.isAgg33 Try.sizeOf33 ((((((((((r14.ext m16).ext md1).ext m17).ext m18).ext m19).ext m20).ext m21).ext m22).mod m23 (nC (lG (lL (lL r7.lt (lT (lT (lT m10.size m11.size) m12.size) m13.size)) lR)) nN)).mod m24 (nC (lG (lL (lL r11.lt m13.size) lR)) nN)).rng rfl rfl rfl) rfl rfl rfl ?_
    refine WL.yes rfl rfl rfl (ltb rfl) rfl rfl ?_
    refine WL.det (op_loadA (i := 0) (cs := [.slice none 0 0, vI 0, vI 0, vF 0, vF 0, vF 0, vF 0, vF 0, vI 0, vF 0, vF 0, vF 0, vF 0, vF 0, vF 0]) rfl Try.isAgg33 Try.sizeOf33 (((((((((((((((((r6.ext m9).ext m10).mod m11 (nC (lE (lL (lL r4.lt (lT m8.size m9.size)) lR)) nN)).ext m12).ext m13).ext m14).mod m15 (nC (lE (lL (lL r4.lt (lT (lT (lT (lT (lT m8.size m9.size) m10.size) m11.size) m12.size) m13.size)) lR)) nN)).ext m16).ext md1).ext m17).ext m18).ext m19).ext m20).ext m21).ext m22).mod m23 (nC (lE (lL (lL r4.lt m8.size) ge3)) nN)).mod m24 (nC (lE (lL (lL r4.lt (lT (lT (lT m8.size m9.size) m10.size) m11.size)) ge4)) nN)).rng rfl rfl rfl) rfl rfl rfl ?_
    refine WL.yes rfl rfl rfl (ltb rfl) rfl rfl ?_
    refine WL.call (oc_call (vs := [.agg #[.slice none 0 0, vI 0, vI 0, vF 0, vF 0, vF 0, vF 0, vF 0, vI 0, vF 0, vF 0, vF 0, vF 0, vF 0, vF 0], .agg #[.slice none 0 0, vI 0, vI 0, vF 0, vF 0, vF 0, vF 0, vF 0, vI 0, vF 0, vF 0, vF 0, vF 0, vF 0, vF 0]]) (cap := []) rfl rfl rfl Try.call27 (c_eqString 0 0 none 0 0 [] (0 : Int) (0 : Int) 0 0 0 0 0 0 0 0 0 0 (0 : Int) 0 0 0 0 0 0 0 0 0 0 0 0 0 none 0 0 0 0 0 0 0 0 0 0 0 0 0 rfl (fun h => absurd h (Nat.lt_irrefl _)) (fun h => absurd h (Nat.lt_irrefl _)) rfl rfl rfl rfl rfl rfl rfl rfl rfl rfl rfl rfl rfl rfl rfl rfl rfl rfl rfl rfl rfl rfl (by omega) w25 (Rng.nil _ _ _) (Rng.nil _ _ _))) rfl rfl (ltb rfl) ?_
    rintro _ w26 ⟨rfl, m25⟩
    refine WL.yes rfl rfl rfl (ltb rfl) rfl rfl ?_
    refine WL.det (op_not rfl) rfl rfl rfl ?_
    refine WL.det (op_pick_f rfl rfl rfl) rfl rfl rfl ?_
    refine WL.det (op_move rfl) rfl rfl rfl ?_
    refine WL.yes rfl rfl rfl (ltb rfl) rfl rfl ?_
    refine WL.det (op_move rfl) rfl rfl rfl ?_
    refine WL.yes rfl rfl rfl (ltb rfl) rfl rfl ?_
    refine WL.det (op_move rfl) rfl rfl rfl ?_
    refine WL.yes rfl rfl rfl (ltb rfl) rfl rfl ?_
    refine WL.det (op_nei rfl rfl) rfl rfl rfl ?_
    refine WL.det (op_pick_f rfl rfl rfl) rfl rfl rfl ?_
    refine WL.end ?_
    refine NE.code ?_
    refine CE.cond_f rfl rfl ?_
    refine CE.skip' ?_
    refine NE.code ?_
    refine CE.seq ?_
    refine CE.region ?_
    refine WL.det (op_assign rfl) rfl rfl rfl ?_
    refine WL.end ?_
    refine NE.code ?_
    refine CE.seq ?_
    refine CE.region ?_
    refine WL.det (op_loadA (i := 0) (cs := [.slice none 0 0, vI 0, vI 0, vF 0, vF 0, vF 0, vF 0, vF 0, vI 0, vF 0, vF 0, vF 0, vF 0, vF 0, vF 0]) rfl Try.isAgg33 Try.sizeOf33 (((((((((((r14.ext m16).ext md1).ext m17).ext m18).ext m19).ext m20).ext m21).ext m22).mod m23 (nC (lG (lL (lL r7.lt (lT (lT (lT m10.size m11.size) m12.size) m13.size)) lR)) nN)).mod m24 (nC (lG (lL (lL r11.lt m13.size) lR)) nN)).ext m25).rng rfl rfl rfl) rfl rfl rfl ?_
    refine WL.det (op_move rfl) rfl rfl rfl ?_
    refine WL.call (oc_call (vs := [.agg #[.slice none 0 0, vI 0, vI 0, vF 0, vF 0, vF 0, vF 0, vF 0, vI 0, vF 0, vF 0, vF 0, vF 0, vF 0, vF 0], vI 1]) (cap := []) rfl rfl rfl Try.call28 (c_markString_nil (0 : Int) (0 : Int) 0 0 0 0 0 (0 : Int) 0 0 0 0 0 0 1 (by omega) w26)) rfl rfl (ltb rfl) ?_
    rintro _ w27 ⟨rfl, m26⟩
    refine WL.det (op_assign rfl) rfl rfl rfl ?_
    refine WL.end ?_
    refine NE.code ?_
    refine CE.seq ?_
    refine CE.region ?_
    refine WL.det (op_assign rfl) rfl rfl rfl ?_
    refine WL.end ?_
    refine NE.code ?_
    refine CE.seq ?_
    refine CE.region ?_
    refine WL.det (op_loadA (i := 0) (cs := [.slice none 0 0, vI 0, vI 0, vF 0, vF 0, vF 0, vF 0, vF 0, vI 0, vF 0, vF 0, vF 0, vF 0, vF 0, vF 0]) rfl Try.isAgg33 Try.sizeOf33 ((((((((((((r14.ext m16).ext md1).ext m17).ext m18).ext m19).ext m20).ext m21).ext m22).mod m23 (nC (lG (lL (lL r7.lt (lT (lT (lT m10.size m11.size) m12.size) m13.size)) lR)) nN)).mod m24 (nC (lG (lL (lL r11.lt m13.size) lR)) nN)).ext m25).ext m26).rng rfl rfl rfl) rfl rfl rfl ?_
    refine WL.det (op_move rfl) rfl rfl rfl ?_
    refine WL.call (oc_call (vs := [.agg #[.slice none 0 0, vI 0, vI 0, vF 0, vF 0, vF 0, vF 0, vF 0, vI 0, vF 0, vF 0, vF 0, vF 0, vF 0, vF 0], vI 1]) (cap := []) rfl rfl rfl Try.call29 (c_heldString_nil (0 : Int) (0 : Int) 0 0 0 0 0 (0 : Int) 0 0 0 0 0 0 1 (by omega) w27)) rfl rfl (ltb rfl) ?_
    rintro _ w28 ⟨rfl, m27⟩
    refine WL.det (op_assign rfl) rfl rfl rfl ?_
    refine WL.end ?_
    refine NE.code ?_
    refine CE.seq ?_
    refine CE.seq ?_
    refine CE.region ?_
    refine WL.det (op_move rfl) rfl rfl rfl ?_
    refine WL.det (op_lti rfl rfl) rfl rfl rfl ?_
    refine WL.end ?_
    refine NE.code ?_
    refine CE.cond_f rfl rfl ?_
    refine CE.skip' ?_
    refine NE.code ?_
    refine CE.seq ?_
    refine CE.seq ?_
    refine CE.region ?_
    refine WL.det (op_move rfl) rfl rfl rfl ?_
    refine WL.det (op_move rfl) rfl rfl rfl ?_
    refine WL.det (op_nei rfl rfl) rfl rfl rfl ?_
    refine WL.end ?_
    refine NE.code ?_
    refine CE.cond_f rfl rfl ?_
    refine CE.skip' ?_
    refine NE.code ?_
    refine CE.seq ?_
    refine CE.region ?_
    refine WL.det (op_loadA (i := 0) (cs := [.slice ALr nLr cLr, vI Lj, vI Tk, vF Tc0, vF Tc1, vF Tc2, vF Ts0, vF Ts1, vI Dk, vF Dc0, vF Dc1, vF Dc2, vF Ds0, vF Ds1, vF g]) rfl Try.isAgg51 Try.sizeOf51 ((((((((((((((((((((((((((r1.ext m3).ext m4).ext m5).ext m6).ext m7).mod m8 (nC (lE (lL (lL r1.lt (lT (lT (lT m3.size m4.size) m5.size) m6.size)) lR)) nN)).ext m9).ext m10).mod m11 (nC (lE (lL (lL r1.lt (lT (lT (lT (lT (lT (lT m3.size m4.size) m5.size) m6.size) m7.size) m8.size) m9.size)) lR)) nN)).ext m12).ext m13).ext m14).mod m15 (nC (lE (lL (lL r1.lt (lT (lT (lT (lT (lT (lT (lT (lT (lT (lT m3.size m4.size) m5.size) m6.size) m7.size) m8.size) m9.size) m10.size) m11.size) m12.size) m13.size)) lR)) nN)).ext m16).ext md1).ext m17).ext m18).ext m19).ext m20).ext m21).ext m22).mod m23 (nC (lE (lL (lL r1.lt (lT (lT (lT (lT (lT m3.size m4.size) m5.size) m6.size) m7.size) m8.size)) ge3)) nN)).mod m24 (nC (lE (lL (lL r1.lt (lT (lT (lT (lT (lT (lT (lT (lT m3.size m4.size) m5.size) m6.size) m7.size) m8.size) m9.size) m10.size) m11.size)) ge4)) nN)).ext m25).ext m26).ext m27).rng rfl rfl rfl) rfl rfl rfl ?_
    refine WL.call (oc_call (vs := [.agg #[.slice ALr nLr cLr, vI Lj, vI Tk, vF Tc0, vF Tc1, vF Tc2, vF Ts0, vF Ts1, vI Dk, vF Dc0, vF Dc1, vF Dc2, vF Ds0, vF Ds1, vF g]]) (cap := []) rfl rfl rfl Try.call26 (c_toString nLr cLr ALr bLr oLr xLr Lj Tk Tc0 Tc1 Tc2 Ts0 Ts1 Dk Dc0 Dc1 Dc2 Ds0 Ds1 g lnLr hALr (by omega) w28 ((((Rng.youngS rLr (Rng.youngS rLr (((((((((Rng.youngS rLr ((((Rng.youngS rLr (((Rng.youngS rLr ((((((rLr.ext m1).ext m3).ext m4).ext m5).ext m6).ext m7) m8 (allge_cons (lT (lT (lT (lT (lT m1.size m3.size) m4.size) m5.size) m6.size) lR) allge_nil)).ext m9).ext m10) m11 (allge_cons (lT (lT (lT (lT (lT (lT (lT (lT m1.size m3.size) m4.size) m5.size) m6.size) m7.size) m8.size) m9.size) lR) allge_nil)).ext m12).ext m13).ext m14) m15 (allge_cons (lT (lT (lT (lT (lT (lT (lT (lT (lT (lT (lT (lT m1.size m3.size) m4.size) m5.size) m6.size) m7.size) m8.size) m9.size) m10.size) m11.size) m12.size) m13.size) lR) allge_nil)).ext m16).ext md1).ext m17).ext m18).ext m19).ext m20).ext m21).ext m22) m23 (allge_cons (lT (lT (lT (lT (lT (lT (lT m1.size m3.size) m4.size) m5.size) m6.size) m7.size) m8.size) ge3) allge_nil)) m24 (allge_cons (lT (lT (lT (lT (lT (lT (lT (lT (lT (lT m1.size m3.size) m4.size) m5.size) m6.size) m7.size) m8.size) m9.size) m10.size) m11.size) ge4) allge_nil)).ext m25).ext m26).ext m27))) rfl rfl (ltb rfl) ?_
    rintro _ w29 ⟨bLr'4, rfl, r19, ge7, m28⟩
    refine WL.det (op_move rfl) rfl rfl rfl ?_
    refine WL.det (op_move rfl) rfl rfl rfl ?_
    refine WL.call (oc_call (vs := [.slice AH nH cH]) (cap := []) rfl rfl rfl Try.call41 (c_to32 nH cH AH bH oH xH lnH hAH hnH w29 (((((Rng.youngS rH (Rng.youngS rH (((((((((Rng.youngS rH ((((Rng.youngS rH (((Rng.youngS rH ((((((rH.ext m1).ext m3).ext m4).ext m5).ext m6).ext m7) m8 (allge_cons (lT (lT (lT (lT (lT m1.size m3.size) m4.size) m5.size) m6.size) lR) allge_nil)).ext m9).ext m10) m11 (allge_cons (lT (lT (lT (lT (lT (lT (lT (lT m1.size m3.size) m4.size) m5.size) m6.size) m7.size) m8.size) m9.size) lR) allge_nil)).ext m12).ext m13).ext m14) m15 (allge_cons (lT (lT (lT (lT (lT (lT (lT (lT (lT (lT (lT (lT m1.size m3.size) m4.size) m5.size) m6.size) m7.size) m8.size) m9.size) m10.size) m11.size) m12.size) m13.size) lR) allge_nil)).ext m16).ext md1).ext m17).ext m18).ext m19).ext m20).ext m21).ext m22) m23 (allge_cons (lT (lT (lT (lT (lT (lT (lT m1.size m3.size) m4.size) m5.size) m6.size) m7.size) m8.size) ge3) allge_nil)) m24 (allge_cons (lT (lT (lT (lT (lT (lT (lT (lT (lT (lT m1.size m3.size) m4.size) m5.size) m6.size) m7.size) m8.size) m9.size) m10.size) m11.size) ge4) allge_nil)).ext m25).ext m26).ext m27).ext m28))) rfl rfl (ltb rfl) ?_
    rintro _ w30 ⟨b'4, rfl, r20, ge8, m29⟩
    refine WL.call (oc_call (vs := [.agg #[vS bLr'4 0 nLr nLr, vI Lj, vI Tk, vF Tc0, vF Tc1, vF Tc2, vF Ts0, vF Ts1, vI Dk, vF Dc0, vF Dc1, vF Dc2, vF Ds0, vF Ds1, vF g], vF pl, vS b'4 0 nH nH]) (cap := []) rfl rfl rfl Try.call42 (c_iStrike_bad nLr nLr bLr'4 xLr Lj Tk Tc0 Tc1 Tc2 Ts0 Ts1 Dk Dc0 Dc1 Dc2 Ds0 Ds1 g pl nH nH b'4 xH lnLr (by omega) (by first | assumption | exact W32.get (by assumption) _ | decide +kernel) (by first | assumption | exact W32.get (by assumption) _ | decide +kernel) (by first | assumption | exact W32.get (by assumption) _ | decide +kernel) (by first | assumption | exact W32.get (by assumption) _ | decide +kernel) lpl hv lnH (by first | assumption | exact W32.set (by assumption) (by first | assumption | exact wid_lt (by assumption)) | exact W32.zeros _ | exact W32.nil) hnH w30 (r19.ext m29).rng r20.rng)) rfl rfl (ltb rfl) ?_
    rintro _ w31 ⟨rfl, m30⟩
    refine WL.det (op_move rfl) rfl rfl rfl ?_
    refine WL.det (op_extract rfl rfl) rfl rfl rfl ?_
    refine WL.det (op_extract rfl rfl) rfl rfl rfl ?_
    refine WL.op (op_alloc (cs := [.slice none 0 0, vI 0, vI 0, vF 0, vF 0, vF 0, vF 0, vF 0, vI 0, vF 0, vF 0, vF 0, vF 0, vF 0, vF 0]) Try.zeroValue33 rfl) rfl rfl (ltb rfl) ?_
    rintro _ w32 ⟨rfl, r21, m31, z8⟩
    refine WL.op0 (op_store (i := 0) (cs := [.slice none 0 0, vI 0, vI 0, vF 0, vF 0, vF 0, vF 0, vF 0, vI 0, vF 0, vF 0, vF 0, vF 0, vF 0, vF 0]) rfl rfl rfl Try.sizeOf33 rfl r21 rfl (lB rfl) rfl) rfl rfl ?_
    rintro _ w33 ⟨r22, m32, z9⟩
    have r23 : Row w33 w31.heap.size 0 [.slice none 0 0, vI 0, vI 0, vF 0, vF 0, vF 0, vF 0, vF 0, vI 0, vF 0, vF 0, vF 0, vF 0, vF 0, vF 0] := Row.congr r22 rfl
    refine WL.det (op_assign rfl) rfl rfl rfl ?_
    refine WL.end ?_
    refine NE.code ?_
    refine CE.seq ?_
    refine CE.seq ?_
    refine CE.region ?_
    refine WL.det (op_loadA (i := 0) (cs := [.slice none 0 0, vI 0, vI 0, vF 0, vF 0, vF 0, vF 0, vF 0, vI 0, vF 0, vF 0, vF 0, vF 0, vF 0, vF 0]) rfl Try.isAgg33 Try.sizeOf33 r23.rng rfl rfl rfl) rfl rfl rfl ?_
    refine WL.det (op_loadA (i := 0) (cs := [.slice none 0 0, vI 0, vI 0, vF 0, vF 0, vF 0, vF 0, vF 0, vI 0, vF 0, vF 0, vF 0, vF 0, vF 0, vF 0]) rfl Try.isAgg33 Try.sizeOf33 (((((((((((((((((((((((((r6.ext m9).ext m10).mod m11 (nC (lE (lL (lL r4.lt (lT m8.size m9.size)) lR)) nN)).ext m12).ext m13).ext m14).mod m15 (nC (lE (lL (lL r4.lt (lT (lT (lT (lT (lT m8.size m9.size) m10.size) m11.size) m12.size) m13.size)) lR)) nN)).ext m16).ext md1).ext m17).ext m18).ext m19).ext m20).ext m21).ext m22).mod m23 (nC (lE (lL (lL r4.lt m8.size) ge3)) nN)).mod m24 (nC (lE (lL (lL r4.lt (lT (lT (lT m8.size m9.size) m10.size) m11.size)) ge4)) nN)).ext m25).ext m26).ext m27).ext m28).ext m29).ext m30).ext m31).mod m32 (nC (lE (lL (lL r4.lt (lT (lT (lT (lT (lT (lT (lT (lT (lT (lT (lT (lT (lT (lT (lT (lT (lT (lT (lT (lT (lT (lT (lT m8.size m9.size) m10.size) m11.size) m12.size) m13.size) m14.size) m15.size) m16.size) md1.size) m17.size) m18.size) m19.size) m20.size) m21.size) m22.size) m23.size) m24.size) m25.size) m26.size) m27.size) m28.size) m29.size) m30.size)) lR)) nN)).rng rfl rfl rfl) rfl rfl rfl ?_
    refine WL.call (oc_call (vs := [.agg #[.slice none 0 0, vI 0, vI 0, vF 0, vF 0, vF 0, vF 0, vF 0, vI 0, vF 0, vF 0, vF 0, vF 0, vF 0, vF 0], .agg #[.slice none 0 0, vI 0, vI 0, vF 0, vF 0, vF 0, vF 0, vF 0, vI 0, vF 0, vF 0, vF 0, vF 0, vF 0, vF 0]]) (cap := []) rfl rfl rfl Try.call27 (c_eqString 0 0 none 0 0 [] (0 : Int) (0 : Int) 0 0 0 0 0 0 0 0 0 0 (0 : Int) 0 0 0 0 0 0 0 0 0 0 0 0 0 none 0 0 0 0 0 0 0 0 0 0 0 0 0 rfl (fun h => absurd h (Nat.lt_irrefl _)) (fun h => absurd h (Nat.lt_irrefl _)) rfl rfl rfl rfl rfl rfl rfl rfl rfl rfl rfl rfl rfl rfl rfl rfl rfl rfl rfl rfl rfl rfl (by omega) w33 (Rng.nil _ _ _) (Rng.nil _ _ _))) rfl rfl (ltb rfl) ?_
    rintro _ w34 ⟨rfl, m33⟩
    refine WL.det (op_not rfl) rfl rfl rfl ?_
    refine WL.det (op_move rfl) rfl rfl rfl ?_
    refine WL.yes rfl rfl rfl (ltb rfl) rfl rfl ?_
    refine WL.det (op_move rfl) rfl rfl rfl ?_
    refine WL.yes rfl rfl rfl (ltb rfl) rfl rfl ?_
    refine WL.det (op_move rfl) rfl rfl rfl ?_
    refine WL.yes rfl rfl rfl (ltb rfl) rfl rfl ?_
    refine WL.det (op_nei rfl rfl) rfl rfl rfl ?_
    refine WL.det (op_pick_f rfl rfl rfl) rfl rfl rfl ?_
    refine WL.end ?_
    refine NE.code ?_
    refine CE.cond_f rfl rfl ?_
    refine CE.skip' ?_
    refine NE.code ?_
    refine CE.seq ?_
    refine CE.region ?_
    refine WL.det (op_assign rfl) rfl rfl rfl ?_
    refine WL.end ?_
    refine NE.code ?_
    refine CE.seq ?_
    refine CE.region ?_
    refine WL.det (op_loadA (i := 0) (cs := [.slice none 0 0, vI 0, vI 0, vF 0, vF 0, vF 0, vF 0, vF 0, vI 0, vF 0, vF 0, vF 0, vF 0, vF 0, vF 0]) rfl Try.isAgg33 Try.sizeOf33 (((((((((((((((((((r14.ext m16).ext md1).ext m17).ext m18).ext m19).ext m20).ext m21).ext m22).mod m23 (nC (lG (lL (lL r7.lt (lT (lT (lT m10.size m11.size) m12.size) m13.size)) lR)) nN)).mod m24 (nC (lG (lL (lL r11.lt m13.size) lR)) nN)).ext m25).ext m26).ext m27).ext m28).ext m29).ext m30).ext m31).mod m32 (nC (lE (lL (lL r12.lt (lT (lT (lT (lT (lT (lT (lT (lT (lT (lT (lT (lT (lT (lT (lT (lT m15.size m16.size) md1.size) m17.size) m18.size) m19.size) m20.size) m21.size) m22.size) m23.size) m24.size) m25.size) m26.size) m27.size) m28.size) m29.size) m30.size)) lR)) nN)).ext m33).rng rfl rfl rfl) rfl rfl rfl ?_
    refine WL.det (op_move rfl) rfl rfl rfl ?_
    refine WL.call (oc_call (vs := [.agg #[.slice none 0 0, vI 0, vI 0, vF 0, vF 0, vF 0, vF 0, vF 0, vI 0, vF 0, vF 0, vF 0, vF 0, vF 0, vF 0], vI 1]) (cap := []) rfl rfl rfl Try.call29 (c_heldString_nil (0 : Int) (0 : Int) 0 0 0 0 0 (0 : Int) 0 0 0 0 0 0 1 (by omega) w34)) rfl rfl (ltb rfl) ?_
    rintro _ w35 ⟨rfl, m34⟩
    refine WL.det (op_assign rfl) rfl rfl rfl ?_
    refine WL.end ?_
    refine NE.code ?_
    refine CE.seq ?_
    refine CE.seq ?_
    refine CE.region ?_
    refine WL.det (op_move rfl) rfl rfl rfl ?_
    refine WL.det (op_lti rfl rfl) rfl rfl rfl ?_
    refine WL.end ?_
    refine NE.code ?_
    refine CE.cond_f rfl rfl ?_
    refine CE.skip' ?_
    refine NE.code ?_
    refine CE.seq ?_
    refine CE.seq ?_
    refine CE.region ?_
    refine WL.det (op_move rfl) rfl rfl rfl ?_
    refine WL.det (op_move rfl) rfl rfl rfl ?_
    refine WL.det (op_nei rfl rfl) rfl rfl rfl ?_
    refine WL.end ?_
    refine NE.code ?_
    refine CE.cond_f rfl rfl ?_
    refine CE.skip' ?_
    refine NE.code ?_
    refine CE.seq ?_
    refine CE.region ?_
    refine WL.det (op_assign rfl) rfl rfl rfl ?_
    refine WL.end ?_
    refine NE.code ?_
    refine CE.ret' ?_
    refine XE.leave1 Try.results8 rfl ?_
    refine ⟨rfl, (((((((((((((((((((((((((((((((((((Mod.refl [] w).nt m1).nt m3).nt m4).nt m5).nt m6).nt m7).then m8 ((aC (.inr (lT (lT (lT (lT (lT m1.size m3.size) m4.size) m5.size) m6.size) lR)) aN))).nt m9).nt m10).then m11 ((aC (.inr (lT (lT (lT (lT (lT (lT (lT (lT m1.size m3.size) m4.size) m5.size) m6.size) m7.size) m8.size) m9.size) lR)) aN))).nt m12).nt m13).nt m14).then m15 ((aC (.inr (lT (lT (lT (lT (lT (lT (lT (lT (lT (lT (lT (lT m1.size m3.size) m4.size) m5.size) m6.size) m7.size) m8.size) m9.size) m10.size) m11.size) m12.size) m13.size) lR)) aN))).nt m16).nt md1).nt m17).nt m18).nt m19).nt m20).nt m21).nt m22).then m23 ((aC (.inr (lT (lT (lT (lT (lT (lT (lT m1.size m3.size) m4.size) m5.size) m6.size) m7.size) m8.size) ge3)) aN))).then m24 ((aC (.inr (lT (lT (lT (lT (lT (lT (lT (lT (lT (lT m1.size m3.size) m4.size) m5.size) m6.size) m7.size) m8.size) m9.size) m10.size) m11.size) ge4)) aN))).nt m25).nt m26).nt m27).nt m28).nt m29).nt m30).nt m31).then m32 ((aC (.inr (lT (lT (lT (lT (lT (lT (lT (lT (lT (lT (lT (lT (lT (lT (lT (lT (lT (lT (lT (lT (lT (lT (lT (lT (lT (lT (lT (lT (lT (lT m1.size m3.size) m4.size) m5.size) m6.size) m7.size) m8.size) m9.size) m10.size) m11.size) m12.size) m13.size) m14.size) m15.size) m16.size) md1.size) m17.size) m18.size) m19.size) m20.size) m21.size) m22.size) m23.size) m24.size) m25.size) m26.size) m27.size) m28.size) m29.size) m30.size) lR)) aN))).nt m33).nt m34)⟩

set_option maxRecDepth 100000 in
set_option maxHeartbeats 8000000 in
theorem law_strike_over (nLr : Nat) (cLr : Nat) (ALr : Option Addr) (bLr : Nat) (oLr : Nat) (xLr : List Nat) (Lj : Int) (Tk : Int) (Tc0 : Nat) (Tc1 : Nat) (Tc2 : Nat) (Ts0 : Nat) (Ts1 : Nat) (Dk : Int) (Dc0 : Nat) (Dc1 : Nat) (Dc2 : Nat) (Ds0 : Nat) (Ds1 : Nat) (g : Nat) (pl : Nat) (nH : Nat) (cH : Nat) (AH : Option Addr) (bH : Nat) (oH : Nat) (xH : List Nat) (lnLr : xLr.length = nLr) (hALr : 0 < nLr → ALr = some ⟨bLr, oLr, none⟩) (wLr : W32 xLr) (lTs0 : Ts0 < wid .f32) (lTs1 : Ts1 < wid .f32) (lDs0 : Ds0 < wid .f32) (lDs1 : Ds1 < wid .f32) (hov : 1048576 < nH) (hmH : nH ≤ 9223372036854775807) (lpl : pl < wid .f32) (lnH : xH.length = nH) (hAH : 0 < nH → AH = some ⟨bH, oH, none⟩) (wH : W32 xH) (w : World) (rLr : Rng w bLr oLr (fl xLr)) (rH : Rng w bH oH (fl xH)) : Cl Try.prog 8 #[.agg #[.slice ALr nLr cLr, vI Lj, vI Tk, vF Tc0, vF Tc1, vF Tc2, vF Ts0, vF Ts1, vI Dk, vF Dc0, vF Dc1, vF Dc2, vF Ds0, vF Ds1, vF g], vF pl, .slice AH nH cH] w fun v w' => v = .bool true ∧ Mod [] w w' := by
  refine Cl.of Try.func8 Try.ntmps8 rfl rfl (ρ := [(0, .agg #[.slice ALr nLr cLr, vI Lj, vI Tk, vF Tc0, vF Tc1, vF Tc2, vF Ts0, vF Ts1, vI Dk, vF Dc0, vF Dc1, vF Dc2, vF Ds0, vF Ds1, vF g]), (1, vF pl), (2, .slice AH nH cH)]) rfl ?_
  refine CE.seq ?_
  refine CE.region ?_
  refine WL.op (op_box (cs := [.slice ALr nLr cLr, vI Lj, vI Tk, vF Tc0, vF Tc1, vF Tc2, vF Ts0, vF Ts1, vI Dk, vF Dc0, vF Dc1, vF Dc2, vF Ds0, vF Ds1, vF g]) rfl rfl) rfl rfl (ltb rfl) ?_
  rintro _ w1 ⟨rfl, r1, m1, z1⟩
  refine WL.det (op_assign rfl) rfl rfl rfl ?_
  refine WL.end ?_
  refine NE.code ?_
  refine CE.seq ?_
  refine CE.seq ?_
  refine CE.region ?_
  refine WL.det (op_move rfl) rfl rfl rfl ?_
  refine WL.det (op_len rfl Try.runUnderlying24) rfl rfl rfl ?_
  refine WL.det (op_gti rfl rfl) rfl rfl rfl ?_
  refine WL.end ?_
  refine NE.code ?_
  refine CE.cond_t rfl (decide_eq_true (by omega)) ?_
  refine CE.seq ?_
  refine CE.region ?_
  refine WL.det (op_assign rfl) rfl rfl rfl ?_
  refine WL.end ?_
  refine NE.code ?_
  refine CE.ret' ?_
  refine XE.ret_then ?_
  refine XE.leave1 Try.results8 rfl ?_
  refine ⟨rfl, ((Mod.refl [] w).nt m1)⟩

end Go.Proofs.Ytabfdgpldcegiaa
