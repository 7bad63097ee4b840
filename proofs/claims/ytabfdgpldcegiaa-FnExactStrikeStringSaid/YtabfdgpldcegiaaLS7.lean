/- The law on striking a string, walked. -/
import Derived.Test.YtabfdgpldcegiaaG7
import Derived.Test.YtabfdgpldcegiaaE8
set_option linter.unusedVariables false
set_option linter.unusedSimpArgs false
namespace Go.Proofs.Ytabfdgpldcegiaa

set_option maxRecDepth 100000 in
set_option maxHeartbeats 8000000 in
theorem law_strike (nLr : Nat) (cLr : Nat) (ALr : Option Addr) (bLr : Nat) (oLr : Nat) (xLr : List Nat) (Tk : Int) (Tc0 : Nat) (Tc1 : Nat) (Tc2 : Nat) (Ts0 : Nat) (Ts1 : Nat) (Dk : Int) (Dc0 : Nat) (Dc1 : Nat) (Dc2 : Nat) (Ds0 : Nat) (Ds1 : Nat) (g : Nat) (i : Nat) (pl : Nat) (nH : Nat) (cH : Nat) (AH : Option Addr) (bH : Nat) (oH : Nat) (xH : List Nat) (lnLr : xLr.length = nLr) (hALr : 0 < nLr → ALr = some ⟨bLr, oLr, none⟩) (wLr : W32 xLr) (hi : i < nLr) (hn : nLr ≤ 1024) (lTs0 : Ts0 < wid .f32) (lTs1 : Ts1 < wid .f32) (lDs0 : Ds0 < wid .f32) (lDs1 : Ds1 < wid .f32) (hv : vStr nLr ((i : Nat) : Int) Tk Tc0 Tc1 Tc2 Ts0 Ts1 Dk Dc0 Dc1 Dc2 Ds0 Ds1 g = true) (h0 : 0 < nLr) (hnH : nH ≤ 1048576) (hp : placeF pl = true) (hf : allF xH nH = true) (lpl : pl < wid .f32) (lnH : xH.length = nH) (hAH : 0 < nH → AH = some ⟨bH, oH, none⟩) (wH : W32 xH) (w : World) (rLr : Rng w bLr oLr (fl xLr)) (rH : Rng w bH oH (fl xH)) : Cl Try.prog 8 #[.agg #[.slice ALr nLr cLr, vI ((i : Nat) : Int), vI Tk, vF Tc0, vF Tc1, vF Tc2, vF Ts0, vF Ts1, vI Dk, vF Dc0, vF Dc1, vF Dc2, vF Ds0, vF Ds1, vF g], vF pl, .slice AH nH cH] w fun v w' => v = .bool true ∧ Mod [] w w' := by
  refine Cl.of Try.func8 Try.ntmps8 rfl rfl (ρ := [(0, .agg #[.slice ALr nLr cLr, vI ((i : Nat) : Int), vI Tk, vF Tc0, vF Tc1, vF Tc2, vF Ts0, vF Ts1, vI Dk, vF Dc0, vF Dc1, vF Dc2, vF Ds0, vF Ds1, vF g]), (1, vF pl), (2, .slice AH nH cH)]) rfl ?_
  refine CE.seq ?_
  refine CE.region ?_
  refine WL.op (op_box (cs := [.slice ALr nLr cLr, vI ((i : Nat) : Int), vI Tk, vF Tc0, vF Tc1, vF Tc2, vF Ts0, vF Ts1, vI Dk, vF Dc0, vF Dc1, vF Dc2, vF Ds0, vF Ds1, vF g]) rfl rfl) rfl rfl (ltb rfl) ?_
  rintro _ w1 ⟨rfl, r1, m1, z1⟩
  refine WL.det (op_assign rfl) rfl rfl rfl ?_
  refine WL.end ?_
  refine NE.code ?_
  refine CE.seq ?_
  refine CE.seq ?_
  refine CE.region ?_
  refine WL.det (op_move rfl) rfl rfl rfl ?_
  refine WL.det (op_len rfl Try.runUnderlying24) rfl rfl rfl ?_
  refine WL.det (op_gti rfl rfl) rfl rfl rfl ?_
  refine WL.end ?_
  refine NE.code ?_
  refine CE.cond_f rfl (decide_eq_false (by omega)) ?_
  refine CE.skip' ?_
  refine NE.code ?_
  refine CE.seq ?_
  refine CE.region ?_
  refine WL.det (op_assign rfl) rfl rfl rfl ?_
  refine WL.end ?_
  refine NE.code ?_
  refine CE.seq ?_
  refine CE.region ?_
  refine WL.det (op_loadA (i := 0) (cs := [.slice ALr nLr cLr, vI ((i : Nat) : Int), vI Tk, vF Tc0, vF Tc1, vF Tc2, vF Ts0, vF Ts1, vI Dk, vF Dc0, vF Dc1, vF Dc2, vF Ds0, vF Ds1, vF g]) rfl Try.isAgg51 Try.sizeOf51 r1.rng rfl rfl rfl) rfl rfl rfl ?_
  refine WL.det (op_move rfl) rfl rfl rfl ?_
  refine WL.call (oc_call (vs := [.agg #[.slice ALr nLr cLr, vI ((i : Nat) : Int), vI Tk, vF Tc0, vF Tc1, vF Tc2, vF Ts0, vF Ts1, vI Dk, vF Dc0, vF Dc1, vF Dc2, vF Ds0, vF Ds1, vF g], vI 1048576]) (cap := []) rfl rfl rfl Try.call25 (c_szString 1048576 nLr cLr ALr ((i : Nat) : Int) Tk Tc0 Tc1 Tc2 Ts0 Ts1 Dk Dc0 Dc1 Dc2 Ds0 Ds1 g (by omega) (by omega) w1)) rfl rfl (ltb rfl) ?_
  rintro _ w2 ⟨rfl, m2⟩
  refine WL.det (op_assign rfl) rfl rfl rfl ?_
  refine WL.end ?_
  refine NE.code ?_
  refine CE.seq ?_
  refine CE.seq ?_
  refine CE.region ?_
  refine WL.det (op_move rfl) rfl rfl rfl ?_
  refine WL.det (op_lti_f rfl rfl (by omega)) rfl rfl rfl ?_
  refine WL.end ?_
  refine NE.code ?_
  refine CE.cond_f rfl rfl ?_
  refine CE.skip' ?_
  refine NE.code ?_
  refine CE.seq ?_
  refine CE.region ?_
  refine WL.det (op_loadA (i := 0) (cs := [.slice ALr nLr cLr, vI ((i : Nat) : Int), vI Tk, vF Tc0, vF Tc1, vF Tc2, vF Ts0, vF Ts1, vI Dk, vF Dc0, vF Dc1, vF Dc2, vF Ds0, vF Ds1, vF g]) rfl Try.isAgg51 Try.sizeOf51 (r1.ext m2).rng rfl rfl rfl) rfl rfl rfl ?_
  refine WL.call (oc_call (vs := [.agg #[.slice ALr nLr cLr, vI ((i : Nat) : Int), vI Tk, vF Tc0, vF Tc1, vF Tc2, vF Ts0, vF Ts1, vI Dk, vF Dc0, vF Dc1, vF Dc2, vF Ds0, vF Ds1, vF g]]) (cap := []) rfl rfl rfl Try.call26 (c_toString nLr cLr ALr bLr oLr xLr ((i : Nat) : Int) Tk Tc0 Tc1 Tc2 Ts0 Ts1 Dk Dc0 Dc1 Dc2 Ds0 Ds1 g lnLr hALr (by omega) w2 ((rLr.ext m1).ext m2))) rfl rfl (ltb rfl) ?_
  rintro _ w3 ⟨bLr'1, rfl, r2, ge1, m3⟩
  refine WL.det (op_move rfl) rfl rfl rfl ?_
  refine WL.det (op_move rfl) rfl rfl rfl ?_
  refine WL.call (oc_call (vs := [.slice AH nH cH]) (cap := []) rfl rfl rfl Try.call41 (c_to32 nH cH AH bH oH xH lnH hAH hnH w3 (((rH.ext m1).ext m2).ext m3))) rfl rfl (ltb rfl) ?_
  rintro _ w4 ⟨b'1, rfl, r3, ge2, m4⟩
  refine WL.call (oc_call (vs := [.agg #[vS bLr'1 0 nLr nLr, vI ((i : Nat) : Int), vI Tk, vF Tc0, vF Tc1, vF Tc2, vF Ts0, vF Ts1, vI Dk, vF Dc0, vF Dc1, vF Dc2, vF Ds0, vF Ds1, vF g], vF pl, vS b'1 0 nH nH]) (cap := []) rfl rfl rfl Try.call40 (c_sStrike nLr nLr bLr'1 xLr i Tk Tc0 Tc1 Tc2 Ts0 Ts1 Dk Dc0 Dc1 Dc2 Ds0 Ds1 g pl nH nH b'1 xH lnLr hi hn (by first | assumption | exact W32.set (by assumption) (by first | assumption | exact wid_lt (by assumption)) | exact W32.zeros _ | exact W32.nil) (by omega) (by first | assumption | exact W32.get (by assumption) _ | decide +kernel) (by first | assumption | exact W32.get (by assumption) _ | decide +kernel) (by first | assumption | exact W32.get (by assumption) _ | decide +kernel) (by first | assumption | exact W32.get (by assumption) _ | decide +kernel) lpl hv hp hf lnH (by first | assumption | exact W32.set (by assumption) (by first | assumption | exact wid_lt (by assumption)) | exact W32.zeros _ | exact W32.nil) hnH w4 (r2.ext m4).rng r3.rng)) rfl rfl (ltb rfl) ?_
  rintro _ w5 ⟨b'2, c'1, zs1, rfl, h1, h2, h3, r4, ge3, m5⟩
  refine WL.det (op_move rfl) rfl rfl rfl ?_
  refine WL.det (op_extract rfl rfl) rfl rfl rfl ?_
  refine WL.det (op_extract rfl rfl) rfl rfl rfl ?_
  refine WL.op (op_alloc (cs := [.slice none 0 0, vI 0, vI 0, vF 0, vF 0, vF 0, vF 0, vF 0, vI 0, vF 0, vF 0, vF 0, vF 0, vF 0, vF 0]) Try.zeroValue33 rfl) rfl rfl (ltb rfl) ?_
  rintro _ w6 ⟨rfl, r5, m6, z2⟩
  refine WL.op0 (op_store (i := 0) (cs := [vS b'2 0 nLr c'1, vI ((i : Nat) : Int), vI Tk, vF Tc0, vF Tc1, vF Tc2, vF Ts0, vF Ts1, vI Dk, vF Dc0, vF Dc1, vF Dc2, vF Ds0, vF Ds1, vF g]) rfl rfl rfl Try.sizeOf33 rfl r5 rfl (lB rfl) rfl) rfl rfl ?_
  rintro _ w7 ⟨r6, m7, z3⟩
  have r7 : Row w7 w5.heap.size 0 [vS b'2 0 nLr c'1, vI ((i : Nat) : Int), vI Tk, vF Tc0, vF Tc1, vF Tc2, vF Ts0, vF Ts1, vI Dk, vF Dc0, vF Dc1, vF Dc2, vF Ds0, vF Ds1, vF g] := Row.congr r6 rfl
  refine WL.det (op_assign rfl) rfl rfl rfl ?_
  refine WL.end ?_
  refine NE.code ?_
  refine CE.seq ?_
  refine CE.region ?_
  refine WL.det (op_loadA (i := 0) (cs := [.slice ALr nLr cLr, vI ((i : Nat) : Int), vI Tk, vF Tc0, vF Tc1, vF Tc2, vF Ts0, vF Ts1, vI Dk, vF Dc0, vF Dc1, vF Dc2, vF Ds0, vF Ds1, vF g]) rfl Try.isAgg51 Try.sizeOf51 ((((((r1.ext m2).ext m3).ext m4).ext m5).ext m6).mod m7 (nC (lE (lL (lL r1.lt (lT (lT (lT m2.size m3.size) m4.size) m5.size)) lR)) nN)).rng rfl rfl rfl) rfl rfl rfl ?_
  refine WL.call (oc_call (vs := [.agg #[.slice ALr nLr cLr, vI ((i : Nat) : Int), vI Tk, vF Tc0, vF Tc1, vF Tc2, vF Ts0, vF Ts1, vI Dk, vF Dc0, vF Dc1, vF Dc2, vF Ds0, vF Ds1, vF g]]) (cap := []) rfl rfl rfl Try.call26 (c_toString nLr cLr ALr bLr oLr xLr ((i : Nat) : Int) Tk Tc0 Tc1 Tc2 Ts0 Ts1 Dk Dc0 Dc1 Dc2 Ds0 Ds1 g lnLr hALr (by omega) w7 (Rng.youngS rLr ((((((rLr.ext m1).ext m2).ext m3).ext m4).ext m5).ext m6) m7 (allge_cons (lT (lT (lT (lT (lT m1.size m2.size) m3.size) m4.size) m5.size) lR) allge_nil)))) rfl rfl (ltb rfl) ?_
  rintro _ w8 ⟨bLr'2, rfl, r8, ge4, m8⟩
  refine WL.op (op_alloc (cs := [.slice none 0 0, vI 0, vI 0, vF 0, vF 0, vF 0, vF 0, vF 0, vI 0, vF 0, vF 0, vF 0, vF 0, vF 0, vF 0]) Try.zeroValue33 rfl) rfl rfl (ltb rfl) ?_
  rintro _ w9 ⟨rfl, r9, m9, z4⟩
  refine WL.op0 (op_store (i := 0) (cs := [vS bLr'2 0 nLr nLr, vI ((i : Nat) : Int), vI Tk, vF Tc0, vF Tc1, vF Tc2, vF Ts0, vF Ts1, vI Dk, vF Dc0, vF Dc1, vF Dc2, vF Ds0, vF Ds1, vF g]) rfl rfl rfl Try.sizeOf33 rfl r9 rfl (lB rfl) rfl) rfl rfl ?_
  rintro _ w10 ⟨r10, m10, z5⟩
  have r11 : Row w10 w8.heap.size 0 [vS bLr'2 0 nLr nLr, vI ((i : Nat) : Int), vI Tk, vF Tc0, vF Tc1, vF Tc2, vF Ts0, vF Ts1, vI Dk, vF Dc0, vF Dc1, vF Dc2, vF Ds0, vF Ds1, vF g] := Row.congr r10 rfl
  refine WL.end ?_
  refine NE.code ?_
  refine CE.seq ?_
  refine CE.region ?_
  refine WL.det (op_move rfl) rfl rfl rfl ?_
  refine WL.call (oc_call (vs := [.slice AH nH cH]) (cap := []) rfl rfl rfl Try.call41 (c_to32 nH cH AH bH oH xH lnH hAH hnH w10 (Rng.youngS rH (((Rng.youngS rH ((((((rH.ext m1).ext m2).ext m3).ext m4).ext m5).ext m6) m7 (allge_cons (lT (lT (lT (lT (lT m1.size m2.size) m3.size) m4.size) m5.size) lR) allge_nil)).ext m8).ext m9) m10 (allge_cons (lT (lT (lT (lT (lT (lT (lT (lT m1.size m2.size) m3.size) m4.size) m5.size) m6.size) m7.size) m8.size) lR) allge_nil)))) rfl rfl (ltb rfl) ?_
  rintro _ w11 ⟨b'3, rfl, r12, ge5, m11⟩
  refine WL.det (op_assign rfl) rfl rfl rfl ?_
  refine WL.end ?_
  refine NE.code ?_
  refine CE.seq ?_
  refine CE.region ?_
  refine WL.det (op_loadA (i := 0) (cs := [vS bLr'2 0 nLr nLr, vI ((i : Nat) : Int), vI Tk, vF Tc0, vF Tc1, vF Tc2, vF Ts0, vF Ts1, vI Dk, vF Dc0, vF Dc1, vF Dc2, vF Ds0, vF Ds1, vF g]) rfl Try.isAgg33 Try.sizeOf33 (r11.ext m11).rng rfl rfl rfl) rfl rfl rfl ?_
  refine WL.det (op_move rfl) rfl rfl rfl ?_
  refine WL.det (op_move rfl) rfl rfl rfl ?_
  refine WL.call (oc_call (vs := [.agg #[vS bLr'2 0 nLr nLr, vI ((i : Nat) : Int), vI Tk, vF Tc0, vF Tc1, vF Tc2, vF Ts0, vF Ts1, vI Dk, vF Dc0, vF Dc1, vF Dc2, vF Ds0, vF Ds1, vF g], vF pl, vS b'3 0 nH nH]) (cap := []) rfl rfl rfl Try.call42 (c_iStrike nLr nLr bLr'2 xLr i Tk Tc0 Tc1 Tc2 Ts0 Ts1 Dk Dc0 Dc1 Dc2 Ds0 Ds1 g pl nH nH b'3 xH lnLr hi hn (by first | assumption | exact W32.set (by assumption) (by first | assumption | exact wid_lt (by assumption)) | exact W32.zeros _ | exact W32.nil) (by omega) (by first | assumption | exact W32.get (by assumption) _ | decide +kernel) (by first | assumption | exact W32.get (by assumption) _ | decide +kernel) (by first | assumption | exact W32.get (by assumption) _ | decide +kernel) (by first | assumption | exact W32.get (by assumption) _ | decide +kernel) lpl hv hp hf lnH (by first | assumption | exact W32.set (by assumption) (by first | assumption | exact wid_lt (by assumption)) | exact W32.zeros _ | exact W32.nil) hnH w11 (((r8.ext m9).mod m10 (nC (lE (lL r8.lt lR)) nN)).ext m11).rng r12.rng)) rfl rfl (ltb rfl) ?_
  rintro _ w12 ⟨b'4, c'2, zs2, rfl, h4, h5, h6, r13, ge6, m12⟩
  refine WL.det (op_move rfl) rfl rfl rfl ?_
  refine WL.det (op_extract rfl rfl) rfl rfl rfl ?_
  refine WL.det (op_extract rfl rfl) rfl rfl rfl ?_
  refine WL.op (op_alloc (cs := [.slice none 0 0, vI 0, vI 0, vF 0, vF 0, vF 0, vF 0, vF 0, vI 0, vF 0, vF 0, vF 0, vF 0, vF 0, vF 0]) Try.zeroValue33 rfl) rfl rfl (ltb rfl) ?_
  rintro _ w13 ⟨rfl, r14, m13, z6⟩
  refine WL.op0 (op_store (i := 0) (cs := [vS b'4 0 nLr c'2, vI ((i : Nat) : Int), vI Tk, vF Tc0, vF Tc1, vF Tc2, vF Ts0, vF Ts1, vI Dk, vF Dc0, vF Dc1, vF Dc2, vF Ds0, vF Ds1, vF g]) rfl rfl rfl Try.sizeOf33 rfl r14 rfl (lB rfl) rfl) rfl rfl ?_
  rintro _ w14 ⟨r15, m14, z7⟩
  have r16 : Row w14 w12.heap.size 0 [vS b'4 0 nLr c'2, vI ((i : Nat) : Int), vI Tk, vF Tc0, vF Tc1, vF Tc2, vF Ts0, vF Ts1, vI Dk, vF Dc0, vF Dc1, vF Dc2, vF Ds0, vF Ds1, vF g] := Row.congr r15 rfl
  refine WL.det (op_assign rfl) rfl rfl rfl ?_
  refine WL.end ?_
  refine NE.code ?_
  refine CE.seq ?_
  refine CE.seq ?_
  refine CE.region ?_
  refine WL.det (op_loadA (i := 0) (cs := [vS b'4 0 nLr c'2, vI ((i : Nat) : Int), vI Tk, vF Tc0, vF Tc1, vF Tc2, vF Ts0, vF Ts1, vI Dk, vF Dc0, vF Dc1, vF Dc2, vF Ds0, vF Ds1, vF g]) rfl Try.isAgg33 Try.sizeOf33 r16.rng rfl rfl rfl) rfl rfl rfl ?_
  refine WL.det (op_loadA (i := 0) (cs := [vS b'2 0 nLr c'1, vI ((i : Nat) : Int), vI Tk, vF Tc0, vF Tc1, vF Tc2, vF Ts0, vF Ts1, vI Dk, vF Dc0, vF Dc1, vF Dc2, vF Ds0, vF Ds1, vF g]) rfl Try.isAgg33 Try.sizeOf33 (((((((r7.ext m8).ext m9).mod m10 (nC (lE (lL (lL r5.lt (lT m7.size m8.size)) lR)) nN)).ext m11).ext m12).ext m13).mod m14 (nC (lE (lL (lL r5.lt (lT (lT (lT (lT (lT m7.size m8.size) m9.size) m10.size) m11.size) m12.size)) lR)) nN)).rng rfl rfl rfl) rfl rfl rfl ?_
  refine WL.call (oc_call (vs := [.agg #[vS b'4 0 nLr c'2, vI ((i : Nat) : Int), vI Tk, vF Tc0, vF Tc1, vF Tc2, vF Ts0, vF Ts1, vI Dk, vF Dc0, vF Dc1, vF Dc2, vF Ds0, vF Ds1, vF g], .agg #[vS b'2 0 nLr c'1, vI ((i : Nat) : Int), vI Tk, vF Tc0, vF Tc1, vF Tc2, vF Ts0, vF Ts1, vI Dk, vF Dc0, vF Dc1, vF Dc2, vF Ds0, vF Ds1, vF g]]) (cap := []) rfl rfl rfl Try.call27 (c_eqString_cn nLr c'2 (some ⟨b'4, 0, none⟩) b'4 0 zs2 c'1 (some ⟨b'2, 0, none⟩) b'2 0 zs1 ((i : Nat) : Int) Tk Tc0 Tc0 Tc0 Tc1 Tc1 Tc1 Tc2 Tc2 Tc2 Ts0 Ts0 Ts0 Ts1 Ts1 Ts1 Dk Dc0 Dc0 Dc0 Dc1 Dc1 Dc1 Dc2 Dc2 Dc2 Ds0 Ds0 Ds0 Ds1 Ds1 Ds1 g g g h4 (fun _ => rfl) h5 h1 (fun _ => rfl) h2 (by first | assumption | exact Cn.refl _ | exact Cn.eq2 (by assumption) (by assumption)) (by omega) rfl rfl rfl rfl rfl rfl rfl rfl rfl rfl rfl rfl rfl rfl rfl rfl rfl rfl rfl rfl rfl rfl w14 ((r13.ext m13).mod m14 (nC (lE (lL r13.lt lR)) nN)).rng (((((((((r4.ext m6).mod m7 (nC (lE (lL r4.lt lR)) nN)).ext m8).ext m9).mod m10 (nC (lE (lL (lL r4.lt (lT (lT m6.size m7.size) m8.size)) lR)) nN)).ext m11).ext m12).ext m13).mod m14 (nC (lE (lL (lL r4.lt (lT (lT (lT (lT (lT (lT m6.size m7.size) m8.size) m9.size) m10.size) m11.size) m12.size)) lR)) nN)).rng)) rfl rfl (ltb rfl) ?_
  rintro _ w15 ⟨rfl, m15⟩
  refine WL.det (op_not rfl) rfl rfl rfl ?_
  refine WL.det (op_move rfl) rfl rfl rfl ?_
  refine WL.yes rfl rfl rfl (ltb rfl) rfl rfl ?_
  refine WL.det (op_move rfl) rfl rfl rfl ?_
  refine WL.yes rfl rfl rfl (ltb rfl) rfl rfl ?_
  refine WL.det (op_move rfl) rfl rfl rfl ?_
  refine WL.yes rfl rfl rfl (ltb rfl) rfl rfl ?_
  refine WL.det (op_nei rfl rfl) rfl rfl rfl ?_
  refine WL.det (op_pick_f rfl rfl rfl) rfl rfl rfl ?_
  refine WL.end ?_
  refine NE.code ?_
  refine CE.cond_f rfl rfl ?_
  refine CE.skip' ?_
  refine NE.code ?_
  refine CE.seq ?_
  refine CE.seq ?_
  refine CE.draw (fun | 2 => some (fun _ wA uA wB => ∃ (bLr' : Nat), uA = .agg #[vS bLr' 0 nLr nLr, vI ((i : Nat) : Int), vI Tk, vF Tc0, vF Tc1, vF Tc2, vF Ts0, vF Ts1, vI Dk, vF Dc0, vF Dc1, vF Dc2, vF Ds0, vF Ds1, vF g] ∧ Row wB bLr' 0 (fl xLr) ∧ wA.heap.size ≤ bLr' ∧ Mod [] wA wB) | _ => none) [0, 1, 2] [3, 4] [] (by kernel_rfl) (by kernel_rfl) ?_
  have md1 : Mod [] w15 w15.drew := (Mod.refl _ _).drew
  generalize w15.drew = w16 at md1 ⊢
  refine DR.det (i := 0) rfl rfl (by kernel_rfl) (.free rfl) rfl rfl (fun wD mD => op_loadA (i := 0) (cs := [vS bLr'2 0 nLr nLr, vI ((i : Nat) : Int), vI Tk, vF Tc0, vF Tc1, vF Tc2, vF Ts0, vF Ts1, vI Dk, vF Dc0, vF Dc1, vF Dc2, vF Ds0, vF Ds1, vF g]) rfl Try.isAgg33 Try.sizeOf33 (((((((r11.ext m11).ext m12).ext m13).mod m14 (nC (lE (lL (lL r9.lt (lT (lT m10.size m11.size) m12.size)) lR)) nN)).ext m15).ext md1).ext mD).rng rfl rfl rfl) ?_
  refine DR.det (i := 1) rfl rfl (by kernel_rfl) (.free rfl) rfl rfl (fun wD mD => op_loadA (i := 0) (cs := [.slice ALr nLr cLr, vI ((i : Nat) : Int), vI Tk, vF Tc0, vF Tc1, vF Tc2, vF Ts0, vF Ts1, vI Dk, vF Dc0, vF Dc1, vF Dc2, vF Ds0, vF Ds1, vF g]) rfl Try.isAgg51 Try.sizeOf51 ((((((((((((((((r1.ext m2).ext m3).ext m4).ext m5).ext m6).mod m7 (nC (lE (lL (lL r1.lt (lT (lT (lT m2.size m3.size) m4.size) m5.size)) lR)) nN)).ext m8).ext m9).mod m10 (nC (lE (lL (lL r1.lt (lT (lT (lT (lT (lT (lT m2.size m3.size) m4.size) m5.size) m6.size) m7.size) m8.size)) lR)) nN)).ext m11).ext m12).ext m13).mod m14 (nC (lE (lL (lL r1.lt (lT (lT (lT (lT (lT (lT (lT (lT (lT (lT m2.size m3.size) m4.size) m5.size) m6.size) m7.size) m8.size) m9.size) m10.size) m11.size) m12.size)) lR)) nN)).ext m15).ext md1).ext mD).rng rfl rfl rfl) ?_
  refine DR.one (i := 2) rfl rfl (by kernel_rfl) (.free rfl) rfl (ltb rfl) (vs := [.func (.func 26) #[] #[], .agg #[.slice ALr nLr cLr, vI ((i : Nat) : Int), vI Tk, vF Tc0, vF Tc1, vF Tc2, vF Ts0, vF Ts1, vI Dk, vF Dc0, vF Dc1, vF Dc2, vF Ds0, vF Ds1, vF g]]) rfl ?_
  intro w17 m16
  refine ⟨oc_call (vs := [.agg #[.slice ALr nLr cLr, vI ((i : Nat) : Int), vI Tk, vF Tc0, vF Tc1, vF Tc2, vF Ts0, vF Ts1, vI Dk, vF Dc0, vF Dc1, vF Dc2, vF Ds0, vF Ds1, vF g]]) (cap := []) rfl rfl rfl Try.call26 (c_toString nLr cLr ALr bLr oLr xLr ((i : Nat) : Int) Tk Tc0 Tc1 Tc2 Ts0 Ts1 Dk Dc0 Dc1 Dc2 Ds0 Ds1 g lnLr hALr (by omega) w17 ((((Rng.youngS rLr ((((Rng.youngS rLr (((Rng.youngS rLr ((((((rLr.ext m1).ext m2).ext m3).ext m4).ext m5).ext m6) m7 (allge_cons (lT (lT (lT (lT (lT m1.size m2.size) m3.size) m4.size) m5.size) lR) allge_nil)).ext m8).ext m9) m10 (allge_cons (lT (lT (lT (lT (lT (lT (lT (lT m1.size m2.size) m3.size) m4.size) m5.size) m6.size) m7.size) m8.size) lR) allge_nil)).ext m11).ext m12).ext m13) m14 (allge_cons (lT (lT (lT (lT (lT (lT (lT (lT (lT (lT (lT (lT m1.size m2.size) m3.size) m4.size) m5.size) m6.size) m7.size) m8.size) m9.size) m10.size) m11.size) m12.size) lR) allge_nil)).ext m15).ext md1).ext m16)), ?_⟩
  rintro _ w18 ⟨bLr'3, rfl, r17, ge7, m17⟩
  refine ⟨(((Mod.refl [] w16).nt m16).nt m17), ?_⟩
  refine DR.done rfl ?_
  intro w19 m18
  refine WO.call rfl (.free rfl) rfl (ltb rfl) (oc_call (vs := [.agg #[vS bLr'2 0 nLr nLr, vI ((i : Nat) : Int), vI Tk, vF Tc0, vF Tc1, vF Tc2, vF Ts0, vF Ts1, vI Dk, vF Dc0, vF Dc1, vF Dc2, vF Ds0, vF Ds1, vF g], .agg #[vS bLr'3 0 nLr nLr, vI ((i : Nat) : Int), vI Tk, vF Tc0, vF Tc1, vF Tc2, vF Ts0, vF Ts1, vI Dk, vF Dc0, vF Dc1, vF Dc2, vF Ds0, vF Ds1, vF g]]) (cap := []) rfl rfl rfl Try.call27 (c_eqString nLr nLr (some ⟨bLr'2, 0, none⟩) bLr'2 0 xLr ((i : Nat) : Int) Tk Tc0 Tc0 Tc1 Tc1 Tc2 Tc2 Ts0 Ts0 Ts1 Ts1 Dk Dc0 Dc0 Dc1 Dc1 Dc2 Dc2 Ds0 Ds0 Ds1 Ds1 g g nLr (some ⟨bLr'3, 0, none⟩) bLr'3 0 Tc0 Tc1 Tc2 Ts0 Ts1 Dc0 Dc1 Dc2 Ds0 Ds1 g lnLr (fun _ => rfl) (fun _ => rfl) rfl rfl rfl rfl rfl rfl rfl rfl rfl rfl rfl rfl rfl rfl rfl rfl rfl rfl rfl rfl rfl rfl (by omega) w19 (((((((((((r8.ext m9).mod m10 (nC (lE (lL r8.lt lR)) nN)).ext m11).ext m12).ext m13).mod m14 (nC (lE (lL (lL r8.lt (lT (lT (lT m9.size m10.size) m11.size) m12.size)) lR)) nN)).ext m15).ext md1).ext m16).ext m17).ext m18).rng (r17.ext m18).rng)) ?_
  rintro _ w20 ⟨rfl, m19⟩
  refine WO.det (op_not rfl) rfl (.free rfl) rfl rfl ?_
  refine WO.end ?_
  refine NE.code ?_
  refine CE.cond_f rfl rfl ?_
  refine CE.skip' ?_
  refine NE.code ?_
  refine CE.seq ?_
  refine CE.seq ?_
  refine CE.region ?_
  refine WL.det (op_move rfl) rfl rfl rfl ?_
  refine WL.det (op_move rfl) rfl rfl rfl ?_
  refine WL.call (oc_call (vs := [.slice AH nH cH]) (cap := []) rfl rfl rfl Try.call41 (c_to32 nH cH AH bH oH xH lnH hAH hnH w20 (((((((Rng.youngS rH ((((Rng.youngS rH (((Rng.youngS rH ((((((rH.ext m1).ext m2).ext m3).ext m4).ext m5).ext m6) m7 (allge_cons (lT (lT (lT (lT (lT m1.size m2.size) m3.size) m4.size) m5.size) lR) allge_nil)).ext m8).ext m9) m10 (allge_cons (lT (lT (lT (lT (lT (lT (lT (lT m1.size m2.size) m3.size) m4.size) m5.size) m6.size) m7.size) m8.size) lR) allge_nil)).ext m11).ext m12).ext m13) m14 (allge_cons (lT (lT (lT (lT (lT (lT (lT (lT (lT (lT (lT (lT m1.size m2.size) m3.size) m4.size) m5.size) m6.size) m7.size) m8.size) m9.size) m10.size) m11.size) m12.size) lR) allge_nil)).ext m15).ext md1).ext m16).ext m17).ext m18).ext m19))) rfl rfl (ltb rfl) ?_
  rintro _ w21 ⟨b'5, rfl, r18, ge8, m20⟩
  refine WL.call (oc_call (vs := [vS b'3 0 nH nH, vS b'5 0 nH nH]) (cap := []) rfl rfl rfl Try.call43 (c_eq32_same nH nH (some ⟨b'3, 0, none⟩) b'3 0 xH nH (some ⟨b'5, 0, none⟩) b'5 0 lnH (fun _ => rfl) (fun _ => rfl) (by omega) w21 ((((((((((r12.ext m12).ext m13).mod m14 (nC (lE (lL (lL r12.lt m12.size) lR)) nN)).ext m15).ext md1).ext m16).ext m17).ext m18).ext m19).ext m20).rng r18.rng)) rfl rfl (ltb rfl) ?_
  rintro _ w22 ⟨rfl, m21⟩
  refine WL.det (op_not rfl) rfl rfl rfl ?_
  refine WL.end ?_
  refine NE.code ?_
  refine CE.cond_f rfl rfl ?_
  refine CE.skip' ?_
  refine NE.code ?_
  refine CE.seq ?_
  refine CE.region ?_
  refine WL.det (op_assign rfl) rfl rfl rfl ?_
  refine WL.end ?_
  refine NE.code ?_
  refine CE.seq ?_
  refine CE.region ?_
  refine WL.det (op_loadA (i := 0) (cs := [vS bLr'2 0 nLr nLr, vI ((i : Nat) : Int), vI Tk, vF Tc0, vF Tc1, vF Tc2, vF Ts0, vF Ts1, vI Dk, vF Dc0, vF Dc1, vF Dc2, vF Ds0, vF Ds1, vF g]) rfl Try.isAgg33 Try.sizeOf33 ((((((((((((r11.ext m11).ext m12).ext m13).mod m14 (nC (lE (lL (lL r9.lt (lT (lT m10.size m11.size) m12.size)) lR)) nN)).ext m15).ext md1).ext m16).ext m17).ext m18).ext m19).ext m20).ext m21).rng rfl rfl rfl) rfl rfl rfl ?_
  refine WL.det (op_move rfl) rfl rfl rfl ?_
  refine WL.call (oc_call (vs := [.agg #[vS bLr'2 0 nLr nLr, vI ((i : Nat) : Int), vI Tk, vF Tc0, vF Tc1, vF Tc2, vF Ts0, vF Ts1, vI Dk, vF Dc0, vF Dc1, vF Dc2, vF Ds0, vF Ds1, vF g], vI 1]) (cap := []) rfl rfl rfl Try.call28 (c_markString nLr nLr bLr'2 xLr ((i : Nat) : Int) Tk Tc0 Tc1 Tc2 Ts0 Ts1 Dk Dc0 Dc1 Dc2 Ds0 Ds1 g 1 lnLr (by omega) (by omega) w22 ((((((((((((((r8.ext m9).mod m10 (nC (lE (lL r8.lt lR)) nN)).ext m11).ext m12).ext m13).mod m14 (nC (lE (lL (lL r8.lt (lT (lT (lT m9.size m10.size) m11.size) m12.size)) lR)) nN)).ext m15).ext md1).ext m16).ext m17).ext m18).ext m19).ext m20).ext m21))) rfl rfl (ltb rfl) ?_
  rintro _ w23 ⟨rfl, r19, m22⟩
  refine WL.det (op_assign rfl) rfl rfl rfl ?_
  refine WL.end ?_
  refine NE.code ?_
  refine CE.seq ?_
  refine CE.region ?_
  refine WL.det (op_move rfl) rfl rfl rfl ?_
  refine WL.det (op_move rfl) rfl rfl rfl ?_
  refine WL.call (oc_call (vs := [vS b'3 0 nH nH, vI ((1 + nLr : Nat) : Int)]) (cap := []) rfl rfl rfl Try.call44 (c_mark32 nH nH (some ⟨b'3, 0, none⟩) b'3 0 xH (1 + nLr) lnH (fun _ => rfl) hnH (by first | assumption | omega) w23 ((((((((((((r12.ext m12).ext m13).mod m14 (nC (lE (lL (lL r12.lt m12.size) lR)) nN)).ext m15).ext md1).ext m16).ext m17).ext m18).ext m19).ext m20).ext m21).mod m22 (nC (lG (lL (lL r8.lt (lT m9.size m10.size)) ge5)) nN)))) rfl rfl (ltb rfl) ?_
  rintro _ w24 ⟨rfl, r20, m23⟩
  refine WL.det (op_assign rfl) rfl rfl rfl ?_
  refine WL.end ?_
  refine NE.code ?_
  refine CE.seq ?_
  refine CE.seq ?_
  refine CE.region ?_
  refine WL.det (op_move rfl) rfl rfl rfl ?_
  refine WL.det (op_lti_f rfl rfl (by omega)) rfl rfl rfl ?_
  refine WL.det (op_move rfl) rfl rfl rfl ?_
  refine WL.yes rfl rfl rfl (ltb rfl) rfl rfl ?_
  refine WL.det (op_loadA (i := 0) (cs := [vS b'4 0 nLr c'2, vI ((i : Nat) : Int), vI Tk, vF Tc0, vF Tc1, vF Tc2, vF Ts0, vF Ts1, vI Dk, vF Dc0, vF Dc1, vF Dc2, vF Ds0, vF Ds1, vF g]) rfl Try.isAgg33 Try.sizeOf33 ((((((((((r16.ext m15).ext md1).ext m16).ext m17).ext m18).ext m19).ext m20).ext m21).mod m22 (nC (lG (lL (lL r8.lt (lT (lT (lT m9.size m10.size) m11.size) m12.size)) lR)) nN)).mod m23 (nC (lG (lL (lL r12.lt m12.size) lR)) nN)).rng rfl rfl rfl) rfl rfl rfl ?_
  refine WL.yes rfl rfl rfl (ltb rfl) rfl rfl ?_
  refine WL.det (op_loadA (i := 0) (cs := [vS b'2 0 nLr c'1, vI ((i : Nat) : Int), vI Tk, vF Tc0, vF Tc1, vF Tc2, vF Ts0, vF Ts1, vI Dk, vF Dc0, vF Dc1, vF Dc2, vF Ds0, vF Ds1, vF g]) rfl Try.isAgg33 Try.sizeOf33 (((((((((((((((((r7.ext m8).ext m9).mod m10 (nC (lE (lL (lL r5.lt (lT m7.size m8.size)) lR)) nN)).ext m11).ext m12).ext m13).mod m14 (nC (lE (lL (lL r5.lt (lT (lT (lT (lT (lT m7.size m8.size) m9.size) m10.size) m11.size) m12.size)) lR)) nN)).ext m15).ext md1).ext m16).ext m17).ext m18).ext m19).ext m20).ext m21).mod m22 (nC (lE (lL (lL r5.lt m7.size) ge4)) nN)).mod m23 (nC (lE (lL (lL r5.lt (lT (lT (lT m7.size m8.size) m9.size) m10.size)) ge5)) nN)).rng rfl rfl rfl) rfl rfl rfl ?_
  refine WL.yes rfl rfl rfl (ltb rfl) rfl rfl ?_
  refine WL.call (oc_call (vs := [.agg #[vS b'4 0 nLr c'2, vI ((i : Nat) : Int), vI Tk, vF Tc0, vF Tc1, vF Tc2, vF Ts0, vF Ts1, vI Dk, vF Dc0, vF Dc1, vF Dc2, vF Ds0, vF Ds1, vF g], .agg #[vS b'2 0 nLr c'1, vI ((i : Nat) : Int), vI Tk, vF Tc0, vF Tc1, vF Tc2, vF Ts0, vF Ts1, vI Dk, vF Dc0, vF Dc1, vF Dc2, vF Ds0, vF Ds1, vF g]]) (cap := []) rfl rfl rfl Try.call27 (c_eqString_cn nLr c'2 (some ⟨b'4, 0, none⟩) b'4 0 zs2 c'1 (some ⟨b'2, 0, none⟩) b'2 0 zs1 ((i : Nat) : Int) Tk Tc0 Tc0 Tc0 Tc1 Tc1 Tc1 Tc2 Tc2 Tc2 Ts0 Ts0 Ts0 Ts1 Ts1 Ts1 Dk Dc0 Dc0 Dc0 Dc1 Dc1 Dc1 Dc2 Dc2 Dc2 Ds0 Ds0 Ds0 Ds1 Ds1 Ds1 g g g h4 (fun _ => rfl) h5 h1 (fun _ => rfl) h2 (by first | assumption | exact Cn.refl _ | exact Cn.eq2 (by assumption) (by assumption)) (by omega) rfl rfl rfl rfl rfl rfl rfl rfl rfl rfl rfl rfl rfl rfl rfl rfl rfl rfl rfl rfl rfl rfl w24 ((((((((((((r13.ext m13).mod m14 (nC (lE (lL r13.lt lR)) nN)).ext m15).ext md1).ext m16).ext m17).ext m18).ext m19).ext m20).ext m21).mod m22 (nC (lG (lL (lL r8.lt (lT (lT m9.size m10.size) m11.size)) ge6)) nN)).mod m23 (nC (lG (lL r12.lt ge6)) nN)).rng (((((((((((((((((((r4.ext m6).mod m7 (nC (lE (lL r4.lt lR)) nN)).ext m8).ext m9).mod m10 (nC (lE (lL (lL r4.lt (lT (lT m6.size m7.size) m8.size)) lR)) nN)).ext m11).ext m12).ext m13).mod m14 (nC (lE (lL (lL r4.lt (lT (lT (lT (lT (lT (lT m6.size m7.size) m8.size) m9.size) m10.size) m11.size) m12.size)) lR)) nN)).ext m15).ext md1).ext m16).ext m17).ext m18).ext m19).ext m20).ext m21).mod m22 (nC (lE (lL (lL r4.lt (lT m6.size m7.size)) ge4)) nN)).mod m23 (nC (lE (lL (lL r4.lt (lT (lT (lT (lT m6.size m7.size) m8.size) m9.size) m10.size)) ge5)) nN)).rng)) rfl rfl (ltb rfl) ?_
  rintro _ w25 ⟨rfl, m24⟩
  refine WL.yes rfl rfl rfl (ltb rfl) rfl rfl ?_
  refine WL.det (op_not rfl) rfl rfl rfl ?_
  refine WL.det (op_pick_f rfl rfl rfl) rfl rfl rfl ?_
  refine WL.det (op_move rfl) rfl rfl rfl ?_
  refine WL.yes rfl rfl rfl (ltb rfl) rfl rfl ?_
  refine WL.det (op_move rfl) rfl rfl rfl ?_
  refine WL.yes rfl rfl rfl (ltb rfl) rfl rfl ?_
  refine WL.det (op_move rfl) rfl rfl rfl ?_
  refine WL.yes rfl rfl rfl (ltb rfl) rfl rfl ?_
  refine WL.det (op_nei rfl rfl) rfl rfl rfl ?_
  refine WL.det (op_pick_f rfl rfl rfl) rfl rfl rfl ?_
  refine WL.end ?_
  refine NE.code ?_
  refine CE.cond_f rfl rfl ?_
  refine CE.skip' ?_
  refine NE.code ?_
  refine CE.seq ?_
  refine CE.region ?_
  refine WL.det (op_assign rfl) rfl rfl rfl ?_
  refine WL.end ?_
  refine NE.code ?_
  refine CE.seq ?_
  refine CE.region ?_
  refine WL.det (op_loadA (i := 0) (cs := [vS b'4 0 nLr c'2, vI ((i : Nat) : Int), vI Tk, vF Tc0, vF Tc1, vF Tc2, vF Ts0, vF Ts1, vI Dk, vF Dc0, vF Dc1, vF Dc2, vF Ds0, vF Ds1, vF g]) rfl Try.isAgg33 Try.sizeOf33 (((((((((((r16.ext m15).ext md1).ext m16).ext m17).ext m18).ext m19).ext m20).ext m21).mod m22 (nC (lG (lL (lL r8.lt (lT (lT (lT m9.size m10.size) m11.size) m12.size)) lR)) nN)).mod m23 (nC (lG (lL (lL r12.lt m12.size) lR)) nN)).ext m24).rng rfl rfl rfl) rfl rfl rfl ?_
  refine WL.det (op_move rfl) rfl rfl rfl ?_
  refine WL.call (oc_call (vs := [.agg #[vS b'4 0 nLr c'2, vI ((i : Nat) : Int), vI Tk, vF Tc0, vF Tc1, vF Tc2, vF Ts0, vF Ts1, vI Dk, vF Dc0, vF Dc1, vF Dc2, vF Ds0, vF Ds1, vF g], vI 1]) (cap := []) rfl rfl rfl Try.call28 (c_markString nLr c'2 b'4 zs2 ((i : Nat) : Int) Tk Tc0 Tc1 Tc2 Ts0 Ts1 Dk Dc0 Dc1 Dc2 Ds0 Ds1 g 1 h4 (by omega) (by omega) w25 (((((((((((((r13.ext m13).mod m14 (nC (lE (lL r13.lt lR)) nN)).ext m15).ext md1).ext m16).ext m17).ext m18).ext m19).ext m20).ext m21).mod m22 (nC (lG (lL (lL r8.lt (lT (lT m9.size m10.size) m11.size)) ge6)) nN)).mod m23 (nC (lG (lL r12.lt ge6)) nN)).ext m24))) rfl rfl (ltb rfl) ?_
  rintro _ w26 ⟨rfl, r21, m25⟩
  refine WL.det (op_assign rfl) rfl rfl rfl ?_
  refine WL.end ?_
  refine NE.code ?_
  refine CE.seq ?_
  refine CE.region ?_
  refine WL.det (op_assign rfl) rfl rfl rfl ?_
  refine WL.end ?_
  refine NE.code ?_
  refine CE.seq ?_
  refine CE.region ?_
  refine WL.det (op_loadA (i := 0) (cs := [vS b'4 0 nLr c'2, vI ((i : Nat) : Int), vI Tk, vF Tc0, vF Tc1, vF Tc2, vF Ts0, vF Ts1, vI Dk, vF Dc0, vF Dc1, vF Dc2, vF Ds0, vF Ds1, vF g]) rfl Try.isAgg33 Try.sizeOf33 ((((((((((((r16.ext m15).ext md1).ext m16).ext m17).ext m18).ext m19).ext m20).ext m21).mod m22 (nC (lG (lL (lL r8.lt (lT (lT (lT m9.size m10.size) m11.size) m12.size)) lR)) nN)).mod m23 (nC (lG (lL (lL r12.lt m12.size) lR)) nN)).ext m24).mod m25 (nC (lG (lL r13.lt lR)) nN)).rng rfl rfl rfl) rfl rfl rfl ?_
  refine WL.det (op_move rfl) rfl rfl rfl ?_
  refine WL.call (oc_call (vs := [.agg #[vS b'4 0 nLr c'2, vI ((i : Nat) : Int), vI Tk, vF Tc0, vF Tc1, vF Tc2, vF Ts0, vF Ts1, vI Dk, vF Dc0, vF Dc1, vF Dc2, vF Ds0, vF Ds1, vF g], vI 1]) (cap := []) rfl rfl rfl Try.call29 (c_heldString nLr c'2 b'4 (marks zs2 1 nLr) ((i : Nat) : Int) Tk Tc0 Tc1 Tc2 Ts0 Ts1 Dk Dc0 Dc1 Dc2 Ds0 Ds1 g 1 (marks_len h4 (Nat.le_refl _)) (by omega) (by omega) (by first | assumption | exact marks_held _ _ _) w26 r21.rng)) rfl rfl (ltb rfl) ?_
  rintro _ w27 ⟨rfl, m26⟩
  refine WL.det (op_assign rfl) rfl rfl rfl ?_
  refine WL.end ?_
  refine NE.code ?_
  refine CE.seq ?_
  refine CE.seq ?_
  refine CE.region ?_
  refine WL.det (op_move rfl) rfl rfl rfl ?_
  refine WL.det (op_lti_f rfl rfl (by omega)) rfl rfl rfl ?_
  refine WL.end ?_
  refine NE.code ?_
  refine CE.cond_f rfl rfl ?_
  refine CE.skip' ?_
  refine NE.code ?_
  refine CE.seq ?_
  refine CE.seq ?_
  refine CE.region ?_
  refine WL.det (op_move rfl) rfl rfl rfl ?_
  refine WL.det (op_move rfl) rfl rfl rfl ?_
  refine WL.det (op_nei_f rfl rfl rfl) rfl rfl rfl ?_
  refine WL.end ?_
  refine NE.code ?_
  refine CE.cond_f rfl rfl ?_
  refine CE.skip' ?_
  refine NE.code ?_
  refine CE.seq ?_
  refine CE.region ?_
  refine WL.det (op_loadA (i := 0) (cs := [.slice ALr nLr cLr, vI ((i : Nat) : Int), vI Tk, vF Tc0, vF Tc1, vF Tc2, vF Ts0, vF Ts1, vI Dk, vF Dc0, vF Dc1, vF Dc2, vF Ds0, vF Ds1, vF g]) rfl Try.isAgg51 Try.sizeOf51 ((((((((((((((((((((((((((r1.ext m2).ext m3).ext m4).ext m5).ext m6).mod m7 (nC (lE (lL (lL r1.lt (lT (lT (lT m2.size m3.size) m4.size) m5.size)) lR)) nN)).ext m8).ext m9).mod m10 (nC (lE (lL (lL r1.lt (lT (lT (lT (lT (lT (lT m2.size m3.size) m4.size) m5.size) m6.size) m7.size) m8.size)) lR)) nN)).ext m11).ext m12).ext m13).mod m14 (nC (lE (lL (lL r1.lt (lT (lT (lT (lT (lT (lT (lT (lT (lT (lT m2.size m3.size) m4.size) m5.size) m6.size) m7.size) m8.size) m9.size) m10.size) m11.size) m12.size)) lR)) nN)).ext m15).ext md1).ext m16).ext m17).ext m18).ext m19).ext m20).ext m21).mod m22 (nC (lE (lL (lL r1.lt (lT (lT (lT (lT (lT m2.size m3.size) m4.size) m5.size) m6.size) m7.size)) ge4)) nN)).mod m23 (nC (lE (lL (lL r1.lt (lT (lT (lT (lT (lT (lT (lT (lT m2.size m3.size) m4.size) m5.size) m6.size) m7.size) m8.size) m9.size) m10.size)) ge5)) nN)).ext m24).mod m25 (nC (lE (lL (lL r1.lt (lT (lT (lT (lT (lT (lT (lT (lT (lT m2.size m3.size) m4.size) m5.size) m6.size) m7.size) m8.size) m9.size) m10.size) m11.size)) ge6)) nN)).ext m26).rng rfl rfl rfl) rfl rfl rfl ?_
  refine WL.call (oc_call (vs := [.agg #[.slice ALr nLr cLr, vI ((i : Nat) : Int), vI Tk, vF Tc0, vF Tc1, vF Tc2, vF Ts0, vF Ts1, vI Dk, vF Dc0, vF Dc1, vF Dc2, vF Ds0, vF Ds1, vF g]]) (cap := []) rfl rfl rfl Try.call26 (c_toString nLr cLr ALr bLr oLr xLr ((i : Nat) : Int) Tk Tc0 Tc1 Tc2 Ts0 Ts1 Dk Dc0 Dc1 Dc2 Ds0 Ds1 g lnLr hALr (by omega) w27 ((Rng.youngS rLr ((Rng.youngS rLr (Rng.youngS rLr (((((((((Rng.youngS rLr ((((Rng.youngS rLr (((Rng.youngS rLr ((((((rLr.ext m1).ext m2).ext m3).ext m4).ext m5).ext m6) m7 (allge_cons (lT (lT (lT (lT (lT m1.size m2.size) m3.size) m4.size) m5.size) lR) allge_nil)).ext m8).ext m9) m10 (allge_cons (lT (lT (lT (lT (lT (lT (lT (lT m1.size m2.size) m3.size) m4.size) m5.size) m6.size) m7.size) m8.size) lR) allge_nil)).ext m11).ext m12).ext m13) m14 (allge_cons (lT (lT (lT (lT (lT (lT (lT (lT (lT (lT (lT (lT m1.size m2.size) m3.size) m4.size) m5.size) m6.size) m7.size) m8.size) m9.size) m10.size) m11.size) m12.size) lR) allge_nil)).ext m15).ext md1).ext m16).ext m17).ext m18).ext m19).ext m20).ext m21) m22 (allge_cons (lT (lT (lT (lT (lT (lT (lT m1.size m2.size) m3.size) m4.size) m5.size) m6.size) m7.size) ge4) allge_nil)) m23 (allge_cons (lT (lT (lT (lT (lT (lT (lT (lT (lT (lT m1.size m2.size) m3.size) m4.size) m5.size) m6.size) m7.size) m8.size) m9.size) m10.size) ge5) allge_nil)).ext m24) m25 (allge_cons (lT (lT (lT (lT (lT (lT (lT (lT (lT (lT (lT m1.size m2.size) m3.size) m4.size) m5.size) m6.size) m7.size) m8.size) m9.size) m10.size) m11.size) ge6) allge_nil)).ext m26))) rfl rfl (ltb rfl) ?_
  rintro _ w28 ⟨bLr'4, rfl, r22, ge9, m27⟩
  refine WL.det (op_move rfl) rfl rfl rfl ?_
  refine WL.det (op_move rfl) rfl rfl rfl ?_
  refine WL.call (oc_call (vs := [.slice AH nH cH]) (cap := []) rfl rfl rfl Try.call41 (c_to32 nH cH AH bH oH xH lnH hAH hnH w28 (((Rng.youngS rH ((Rng.youngS rH (Rng.youngS rH (((((((((Rng.youngS rH ((((Rng.youngS rH (((Rng.youngS rH ((((((rH.ext m1).ext m2).ext m3).ext m4).ext m5).ext m6) m7 (allge_cons (lT (lT (lT (lT (lT m1.size m2.size) m3.size) m4.size) m5.size) lR) allge_nil)).ext m8).ext m9) m10 (allge_cons (lT (lT (lT (lT (lT (lT (lT (lT m1.size m2.size) m3.size) m4.size) m5.size) m6.size) m7.size) m8.size) lR) allge_nil)).ext m11).ext m12).ext m13) m14 (allge_cons (lT (lT (lT (lT (lT (lT (lT (lT (lT (lT (lT (lT m1.size m2.size) m3.size) m4.size) m5.size) m6.size) m7.size) m8.size) m9.size) m10.size) m11.size) m12.size) lR) allge_nil)).ext m15).ext md1).ext m16).ext m17).ext m18).ext m19).ext m20).ext m21) m22 (allge_cons (lT (lT (lT (lT (lT (lT (lT m1.size m2.size) m3.size) m4.size) m5.size) m6.size) m7.size) ge4) allge_nil)) m23 (allge_cons (lT (lT (lT (lT (lT (lT (lT (lT (lT (lT m1.size m2.size) m3.size) m4.size) m5.size) m6.size) m7.size) m8.size) m9.size) m10.size) ge5) allge_nil)).ext m24) m25 (allge_cons (lT (lT (lT (lT (lT (lT (lT (lT (lT (lT (lT m1.size m2.size) m3.size) m4.size) m5.size) m6.size) m7.size) m8.size) m9.size) m10.size) m11.size) ge6) allge_nil)).ext m26).ext m27))) rfl rfl (ltb rfl) ?_
  rintro _ w29 ⟨b'6, rfl, r23, ge10, m28⟩
  refine WL.call (oc_call (vs := [.agg #[vS bLr'4 0 nLr nLr, vI ((i : Nat) : Int), vI Tk, vF Tc0, vF Tc1, vF Tc2, vF Ts0, vF Ts1, vI Dk, vF Dc0, vF Dc1, vF Dc2, vF Ds0, vF Ds1, vF g], vF pl, vS b'6 0 nH nH]) (cap := []) rfl rfl rfl Try.call42 (c_iStrike nLr nLr bLr'4 xLr i Tk Tc0 Tc1 Tc2 Ts0 Ts1 Dk Dc0 Dc1 Dc2 Ds0 Ds1 g pl nH nH b'6 xH lnLr hi hn (by first | assumption | exact W32.set (by assumption) (by first | assumption | exact wid_lt (by assumption)) | exact W32.zeros _ | exact W32.nil) (by omega) (by first | assumption | exact W32.get (by assumption) _ | decide +kernel) (by first | assumption | exact W32.get (by assumption) _ | decide +kernel) (by first | assumption | exact W32.get (by assumption) _ | decide +kernel) (by first | assumption | exact W32.get (by assumption) _ | decide +kernel) lpl hv hp hf lnH (by first | assumption | exact W32.set (by assumption) (by first | assumption | exact wid_lt (by assumption)) | exact W32.zeros _ | exact W32.nil) hnH w29 (r22.ext m28).rng r23.rng)) rfl rfl (ltb rfl) ?_
  rintro _ w30 ⟨b'7, c'3, zs3, rfl, h7, h8, h9, r24, ge11, m29⟩
  refine WL.det (op_move rfl) rfl rfl rfl ?_
  refine WL.det (op_extract rfl rfl) rfl rfl rfl ?_
  refine WL.det (op_extract rfl rfl) rfl rfl rfl ?_
  refine WL.op (op_alloc (cs := [.slice none 0 0, vI 0, vI 0, vF 0, vF 0, vF 0, vF 0, vF 0, vI 0, vF 0, vF 0, vF 0, vF 0, vF 0, vF 0]) Try.zeroValue33 rfl) rfl rfl (ltb rfl) ?_
  rintro _ w31 ⟨rfl, r25, m30, z8⟩
  refine WL.op0 (op_store (i := 0) (cs := [vS b'7 0 nLr c'3, vI ((i : Nat) : Int), vI Tk, vF Tc0, vF Tc1, vF Tc2, vF Ts0, vF Ts1, vI Dk, vF Dc0, vF Dc1, vF Dc2, vF Ds0, vF Ds1, vF g]) rfl rfl rfl Try.sizeOf33 rfl r25 rfl (lB rfl) rfl) rfl rfl ?_
  rintro _ w32 ⟨r26, m31, z9⟩
  have r27 : Row w32 w30.heap.size 0 [vS b'7 0 nLr c'3, vI ((i : Nat) : Int), vI Tk, vF Tc0, vF Tc1, vF Tc2, vF Ts0, vF Ts1, vI Dk, vF Dc0, vF Dc1, vF Dc2, vF Ds0, vF Ds1, vF g] := Row.congr r26 rfl
  refine WL.det (op_assign rfl) rfl rfl rfl ?_
  refine WL.end ?_
  refine NE.code ?_
  refine CE.seq ?_
  refine CE.seq ?_
  refine CE.region ?_
  refine WL.det (op_loadA (i := 0) (cs := [vS b'7 0 nLr c'3, vI ((i : Nat) : Int), vI Tk, vF Tc0, vF Tc1, vF Tc2, vF Ts0, vF Ts1, vI Dk, vF Dc0, vF Dc1, vF Dc2, vF Ds0, vF Ds1, vF g]) rfl Try.isAgg33 Try.sizeOf33 r27.rng rfl rfl rfl) rfl rfl rfl ?_
  refine WL.det (op_loadA (i := 0) (cs := [vS b'2 0 nLr c'1, vI ((i : Nat) : Int), vI Tk, vF Tc0, vF Tc1, vF Tc2, vF Ts0, vF Ts1, vI Dk, vF Dc0, vF Dc1, vF Dc2, vF Ds0, vF Ds1, vF g]) rfl Try.isAgg33 Try.sizeOf33 (((((((((((((((((((((((((r7.ext m8).ext m9).mod m10 (nC (lE (lL (lL r5.lt (lT m7.size m8.size)) lR)) nN)).ext m11).ext m12).ext m13).mod m14 (nC (lE (lL (lL r5.lt (lT (lT (lT (lT (lT m7.size m8.size) m9.size) m10.size) m11.size) m12.size)) lR)) nN)).ext m15).ext md1).ext m16).ext m17).ext m18).ext m19).ext m20).ext m21).mod m22 (nC (lE (lL (lL r5.lt m7.size) ge4)) nN)).mod m23 (nC (lE (lL (lL r5.lt (lT (lT (lT m7.size m8.size) m9.size) m10.size)) ge5)) nN)).ext m24).mod m25 (nC (lE (lL (lL r5.lt (lT (lT (lT (lT m7.size m8.size) m9.size) m10.size) m11.size)) ge6)) nN)).ext m26).ext m27).ext m28).ext m29).ext m30).mod m31 (nC (lE (lL (lL r5.lt (lT (lT (lT (lT (lT (lT (lT (lT (lT (lT (lT (lT (lT (lT (lT (lT (lT (lT (lT (lT (lT (lT (lT m7.size m8.size) m9.size) m10.size) m11.size) m12.size) m13.size) m14.size) m15.size) md1.size) m16.size) m17.size) m18.size) m19.size) m20.size) m21.size) m22.size) m23.size) m24.size) m25.size) m26.size) m27.size) m28.size) m29.size)) lR)) nN)).rng rfl rfl rfl) rfl rfl rfl ?_
  refine WL.call (oc_call (vs := [.agg #[vS b'7 0 nLr c'3, vI ((i : Nat) : Int), vI Tk, vF Tc0, vF Tc1, vF Tc2, vF Ts0, vF Ts1, vI Dk, vF Dc0, vF Dc1, vF Dc2, vF Ds0, vF Ds1, vF g], .agg #[vS b'2 0 nLr c'1, vI ((i : Nat) : Int), vI Tk, vF Tc0, vF Tc1, vF Tc2, vF Ts0, vF Ts1, vI Dk, vF Dc0, vF Dc1, vF Dc2, vF Ds0, vF Ds1, vF g]]) (cap := []) rfl rfl rfl Try.call27 (c_eqString_cn nLr c'3 (some ⟨b'7, 0, none⟩) b'7 0 zs3 c'1 (some ⟨b'2, 0, none⟩) b'2 0 zs1 ((i : Nat) : Int) Tk Tc0 Tc0 Tc0 Tc1 Tc1 Tc1 Tc2 Tc2 Tc2 Ts0 Ts0 Ts0 Ts1 Ts1 Ts1 Dk Dc0 Dc0 Dc0 Dc1 Dc1 Dc1 Dc2 Dc2 Dc2 Ds0 Ds0 Ds0 Ds1 Ds1 Ds1 g g g h7 (fun _ => rfl) h8 h1 (fun _ => rfl) h2 (by first | assumption | exact Cn.refl _ | exact Cn.eq2 (by assumption) (by assumption)) (by omega) rfl rfl rfl rfl rfl rfl rfl rfl rfl rfl rfl rfl rfl rfl rfl rfl rfl rfl rfl rfl rfl rfl w32 ((r24.ext m30).mod m31 (nC (lE (lL r24.lt lR)) nN)).rng (((((((((((((((((((((((((((r4.ext m6).mod m7 (nC (lE (lL r4.lt lR)) nN)).ext m8).ext m9).mod m10 (nC (lE (lL (lL r4.lt (lT (lT m6.size m7.size) m8.size)) lR)) nN)).ext m11).ext m12).ext m13).mod m14 (nC (lE (lL (lL r4.lt (lT (lT (lT (lT (lT (lT m6.size m7.size) m8.size) m9.size) m10.size) m11.size) m12.size)) lR)) nN)).ext m15).ext md1).ext m16).ext m17).ext m18).ext m19).ext m20).ext m21).mod m22 (nC (lE (lL (lL r4.lt (lT m6.size m7.size)) ge4)) nN)).mod m23 (nC (lE (lL (lL r4.lt (lT (lT (lT (lT m6.size m7.size) m8.size) m9.size) m10.size)) ge5)) nN)).ext m24).mod m25 (nC (lE (lL (lL r4.lt (lT (lT (lT (lT (lT m6.size m7.size) m8.size) m9.size) m10.size) m11.size)) ge6)) nN)).ext m26).ext m27).ext m28).ext m29).ext m30).mod m31 (nC (lE (lL (lL r4.lt (lT (lT (lT (lT (lT (lT (lT (lT (lT (lT (lT (lT (lT (lT (lT (lT (lT (lT (lT (lT (lT (lT (lT (lT m6.size m7.size) m8.size) m9.size) m10.size) m11.size) m12.size) m13.size) m14.size) m15.size) md1.size) m16.size) m17.size) m18.size) m19.size) m20.size) m21.size) m22.size) m23.size) m24.size) m25.size) m26.size) m27.size) m28.size) m29.size)) lR)) nN)).rng)) rfl rfl (ltb rfl) ?_
  rintro _ w33 ⟨rfl, m32⟩
  refine WL.det (op_not rfl) rfl rfl rfl ?_
  refine WL.det (op_move rfl) rfl rfl rfl ?_
  refine WL.yes rfl rfl rfl (ltb rfl) rfl rfl ?_
  refine WL.det (op_move rfl) rfl rfl rfl ?_
  refine WL.yes rfl rfl rfl (ltb rfl) rfl rfl ?_
  refine WL.det (op_move rfl) rfl rfl rfl ?_
  refine WL.yes rfl rfl rfl (ltb rfl) rfl rfl ?_
  refine WL.det (op_nei rfl rfl) rfl rfl rfl ?_
  refine WL.det (op_pick_f rfl rfl rfl) rfl rfl rfl ?_
  refine WL.end ?_
  refine NE.code ?_
  refine CE.cond_f rfl rfl ?_
  refine CE.skip' ?_
  refine NE.code ?_
  refine CE.seq ?_
  refine CE.region ?_
  refine WL.det (op_assign rfl) rfl rfl rfl ?_
  refine WL.end ?_
  refine NE.code ?_
  refine CE.seq ?_
  refine CE.region ?_
  refine WL.det (op_loadA (i := 0) (cs := [vS b'4 0 nLr c'2, vI ((i : Nat) : Int), vI Tk, vF Tc0, vF Tc1, vF Tc2, vF Ts0, vF Ts1, vI Dk, vF Dc0, vF Dc1, vF Dc2, vF Ds0, vF Ds1, vF g]) rfl Try.isAgg33 Try.sizeOf33 (((((((((((((((((((r16.ext m15).ext md1).ext m16).ext m17).ext m18).ext m19).ext m20).ext m21).mod m22 (nC (lG (lL (lL r8.lt (lT (lT (lT m9.size m10.size) m11.size) m12.size)) lR)) nN)).mod m23 (nC (lG (lL (lL r12.lt m12.size) lR)) nN)).ext m24).mod m25 (nC (lG (lL r13.lt lR)) nN)).ext m26).ext m27).ext m28).ext m29).ext m30).mod m31 (nC (lE (lL (lL r14.lt (lT (lT (lT (lT (lT (lT (lT (lT (lT (lT (lT (lT (lT (lT (lT (lT m14.size m15.size) md1.size) m16.size) m17.size) m18.size) m19.size) m20.size) m21.size) m22.size) m23.size) m24.size) m25.size) m26.size) m27.size) m28.size) m29.size)) lR)) nN)).ext m32).rng rfl rfl rfl) rfl rfl rfl ?_
  refine WL.det (op_move rfl) rfl rfl rfl ?_
  refine WL.call (oc_call (vs := [.agg #[vS b'4 0 nLr c'2, vI ((i : Nat) : Int), vI Tk, vF Tc0, vF Tc1, vF Tc2, vF Ts0, vF Ts1, vI Dk, vF Dc0, vF Dc1, vF Dc2, vF Ds0, vF Ds1, vF g], vI 1]) (cap := []) rfl rfl rfl Try.call29 (c_heldString nLr c'2 b'4 (marks zs2 1 nLr) ((i : Nat) : Int) Tk Tc0 Tc1 Tc2 Ts0 Ts1 Dk Dc0 Dc1 Dc2 Ds0 Ds1 g 1 (marks_len h4 (Nat.le_refl _)) (by omega) (by omega) (by first | assumption | exact marks_held _ _ _) w33 (((((((r21.ext m26).ext m27).ext m28).ext m29).ext m30).mod m31 (nC (lE (lL (lL r13.lt (lT (lT (lT (lT (lT (lT (lT (lT (lT (lT (lT (lT (lT (lT (lT (lT (lT m13.size m14.size) m15.size) md1.size) m16.size) m17.size) m18.size) m19.size) m20.size) m21.size) m22.size) m23.size) m24.size) m25.size) m26.size) m27.size) m28.size) m29.size)) lR)) nN)).ext m32).rng)) rfl rfl (ltb rfl) ?_
  rintro _ w34 ⟨rfl, m33⟩
  refine WL.det (op_assign rfl) rfl rfl rfl ?_
  refine WL.end ?_
  refine NE.code ?_
  refine CE.seq ?_
  refine CE.seq ?_
  refine CE.region ?_
  refine WL.det (op_move rfl) rfl rfl rfl ?_
  refine WL.det (op_lti_f rfl rfl (by omega)) rfl rfl rfl ?_
  refine WL.end ?_
  refine NE.code ?_
  refine CE.cond_f rfl rfl ?_
  refine CE.skip' ?_
  refine NE.code ?_
  refine CE.seq ?_
  refine CE.seq ?_
  refine CE.region ?_
  refine WL.det (op_move rfl) rfl rfl rfl ?_
  refine WL.det (op_move rfl) rfl rfl rfl ?_
  refine WL.det (op_nei_f rfl rfl rfl) rfl rfl rfl ?_
  refine WL.end ?_
  refine NE.code ?_
  refine CE.cond_f rfl rfl ?_
  refine CE.skip' ?_
  refine NE.code ?_
  refine CE.seq ?_
  refine CE.region ?_
  refine WL.det (op_assign rfl) rfl rfl rfl ?_
  refine WL.end ?_
  refine NE.code ?_
  refine CE.ret' ?_
  refine XE.leave1 Try.results8 rfl ?_
  refine ⟨rfl, (((((((((((((((((((((((((((((((((((Mod.refl [] w).nt m1).nt m2).nt m3).nt m4).nt m5).nt m6).then m7 ((aC (.inr (lT (lT (lT (lT (lT m1.size m2.size) m3.size) m4.size) m5.size) lR)) aN))).nt m8).nt m9).then m10 ((aC (.inr (lT (lT (lT (lT (lT (lT (lT (lT m1.size m2.size) m3.size) m4.size) m5.size) m6.size) m7.size) m8.size) lR)) aN))).nt m11).nt m12).nt m13).then m14 ((aC (.inr (lT (lT (lT (lT (lT (lT (lT (lT (lT (lT (lT (lT m1.size m2.size) m3.size) m4.size) m5.size) m6.size) m7.size) m8.size) m9.size) m10.size) m11.size) m12.size) lR)) aN))).nt m15).nt md1).nt m16).nt m17).nt m18).nt m19).nt m20).nt m21).then m22 ((aC (.inr (lT (lT (lT (lT (lT (lT (lT m1.size m2.size) m3.size) m4.size) m5.size) m6.size) m7.size) ge4)) aN))).then m23 ((aC (.inr (lT (lT (lT (lT (lT (lT (lT (lT (lT (lT m1.size m2.size) m3.size) m4.size) m5.size) m6.size) m7.size) m8.size) m9.size) m10.size) ge5)) aN))).nt m24).then m25 ((aC (.inr (lT (lT (lT (lT (lT (lT (lT (lT (lT (lT (lT m1.size m2.size) m3.size) m4.size) m5.size) m6.size) m7.size) m8.size) m9.size) m10.size) m11.size) ge6)) aN))).nt m26).nt m27).nt m28).nt m29).nt m30).then m31 ((aC (.inr (lT (lT (lT (lT (lT (lT (lT (lT (lT (lT (lT (lT (lT (lT (lT (lT (lT (lT (lT (lT (lT (lT (lT (lT (lT (lT (lT (lT (lT (lT m1.size m2.size) m3.size) m4.size) m5.size) m6.size) m7.size) m8.size) m9.size) m10.size) m11.size) m12.size) m13.size) m14.size) m15.size) md1.size) m16.size) m17.size) m18.size) m19.size) m20.size) m21.size) m22.size) m23.size) m24.size) m25.size) m26.size) m27.size) m28.size) m29.size) lR)) aN))).nt m32).nt m33)⟩

end Go.Proofs.Ytabfdgpldcegiaa
