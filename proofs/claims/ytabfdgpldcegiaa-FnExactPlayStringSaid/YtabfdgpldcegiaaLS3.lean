/- The law on playing a string, walked. -/
import Derived.Test.YtabfdgpldcegiaaG5
import Derived.Test.YtabfdgpldcegiaaE8
set_option linter.unusedVariables false
set_option linter.unusedSimpArgs false
namespace Go.Proofs.Ytabfdgpldcegiaa

set_option maxRecDepth 100000 in
set_option maxHeartbeats 2000000 in
theorem law_playstr (nLr : Nat) (cLr : Nat) (ALr : Option Addr) (bLr : Nat) (oLr : Nat) (xLr : List Nat) (Tk : Int) (Tc0 : Nat) (Tc1 : Nat) (Tc2 : Nat) (Ts0 : Nat) (Ts1 : Nat) (Dk : Int) (Dc0 : Nat) (Dc1 : Nat) (Dc2 : Nat) (Ds0 : Nat) (Ds1 : Nat) (g : Nat) (i : Nat) (q : Nat) (z : StrSt) (ou : List Nat) (lnLr : xLr.length = nLr) (hALr : 0 < nLr → ALr = some ⟨bLr, oLr, none⟩) (wLr : W32 xLr) (hi : i < nLr) (hn : nLr ≤ 1024) (lTs0 : Ts0 < wid .f32) (lTs1 : Ts1 < wid .f32) (lDs0 : Ds0 < wid .f32) (lDs1 : Ds1 < wid .f32) (hv : vStr nLr ((i : Nat) : Int) Tk Tc0 Tc1 Tc2 Ts0 Ts1 Dk Dc0 Dc1 Dc2 Ds0 Ds1 g = true) (hq : q ≤ 4096) (hze : z = (strAt nLr Tk Tc0 Tc1 Tc2 Dk Dc0 Dc1 Dc2 g xLr i Ts0 Ts1 Ds0 Ds1 (fun _ => 0) q)) (hoe : ou = (outs (strOut nLr Tk Tc0 Tc1 Tc2 Dk Dc0 Dc1 Dc2 g xLr i Ts0 Ts1 Ds0 Ds1 (fun _ => 0)) q)) (w : World) (rLr : Rng w bLr oLr (fl xLr)) : Cl Try.prog 9 #[.agg #[.slice ALr nLr cLr, vI ((i : Nat) : Int), vI Tk, vF Tc0, vF Tc1, vF Tc2, vF Ts0, vF Ts1, vI Dk, vF Dc0, vF Dc1, vF Dc2, vF Ds0, vF Ds1, vF g], vI ((q : Nat) : Int)] w fun v w' => v = .bool true ∧ Mod [] w w' := by
  refine Cl.of Try.func9 Try.ntmps9 rfl rfl (ρ := [(0, .agg #[.slice ALr nLr cLr, vI ((i : Nat) : Int), vI Tk, vF Tc0, vF Tc1, vF Tc2, vF Ts0, vF Ts1, vI Dk, vF Dc0, vF Dc1, vF Dc2, vF Ds0, vF Ds1, vF g]), (1, vI ((q : Nat) : Int))]) rfl ?_
  refine CE.seq ?_
  refine CE.region ?_
  refine WL.op (op_box (cs := [.slice ALr nLr cLr, vI ((i : Nat) : Int), vI Tk, vF Tc0, vF Tc1, vF Tc2, vF Ts0, vF Ts1, vI Dk, vF Dc0, vF Dc1, vF Dc2, vF Ds0, vF Ds1, vF g]) rfl rfl) rfl rfl (ltb rfl) ?_
  rintro _ w1 ⟨rfl, r1, m1, z1⟩
  refine WL.det (op_assign rfl) rfl rfl rfl ?_
  refine WL.end ?_
  refine NE.code ?_
  refine CE.seq ?_
  refine CE.region ?_
  refine WL.det (op_assign rfl) rfl rfl rfl ?_
  refine WL.end ?_
  refine NE.code ?_
  refine CE.seq ?_
  refine CE.region ?_
  refine WL.det (op_loadA (i := 0) (cs := [.slice ALr nLr cLr, vI ((i : Nat) : Int), vI Tk, vF Tc0, vF Tc1, vF Tc2, vF Ts0, vF Ts1, vI Dk, vF Dc0, vF Dc1, vF Dc2, vF Ds0, vF Ds1, vF g]) rfl Try.isAgg51 Try.sizeOf51 r1.rng rfl rfl rfl) rfl rfl rfl ?_
  refine WL.det (op_move rfl) rfl rfl rfl ?_
  refine WL.call (oc_call (vs := [.agg #[.slice ALr nLr cLr, vI ((i : Nat) : Int), vI Tk, vF Tc0, vF Tc1, vF Tc2, vF Ts0, vF Ts1, vI Dk, vF Dc0, vF Dc1, vF Dc2, vF Ds0, vF Ds1, vF g], vI 1048576]) (cap := []) rfl rfl rfl Try.call25 (c_szString 1048576 nLr cLr ALr ((i : Nat) : Int) Tk Tc0 Tc1 Tc2 Ts0 Ts1 Dk Dc0 Dc1 Dc2 Ds0 Ds1 g (by omega) (by omega) w1)) rfl rfl (ltb rfl) ?_
  rintro _ w2 ⟨rfl, m2⟩
  refine WL.det (op_assign rfl) rfl rfl rfl ?_
  refine WL.end ?_
  refine NE.code ?_
  refine CE.seq ?_
  refine CE.seq ?_
  refine CE.region ?_
  refine WL.det (op_move rfl) rfl rfl rfl ?_
  refine WL.det (op_lti_f rfl rfl (by omega)) rfl rfl rfl ?_
  refine WL.end ?_
  refine NE.code ?_
  refine CE.cond_f rfl rfl ?_
  refine CE.skip' ?_
  refine NE.code ?_
  refine CE.seq ?_
  refine CE.region ?_
  refine WL.det (op_loadA (i := 0) (cs := [.slice ALr nLr cLr, vI ((i : Nat) : Int), vI Tk, vF Tc0, vF Tc1, vF Tc2, vF Ts0, vF Ts1, vI Dk, vF Dc0, vF Dc1, vF Dc2, vF Ds0, vF Ds1, vF g]) rfl Try.isAgg51 Try.sizeOf51 (r1.ext m2).rng rfl rfl rfl) rfl rfl rfl ?_
  refine WL.call (oc_call (vs := [.agg #[.slice ALr nLr cLr, vI ((i : Nat) : Int), vI Tk, vF Tc0, vF Tc1, vF Tc2, vF Ts0, vF Ts1, vI Dk, vF Dc0, vF Dc1, vF Dc2, vF Ds0, vF Ds1, vF g]]) (cap := []) rfl rfl rfl Try.call26 (c_toString nLr cLr ALr bLr oLr xLr ((i : Nat) : Int) Tk Tc0 Tc1 Tc2 Ts0 Ts1 Dk Dc0 Dc1 Dc2 Ds0 Ds1 g lnLr hALr (by omega) w2 ((rLr.ext m1).ext m2))) rfl rfl (ltb rfl) ?_
  rintro _ w3 ⟨bLr'1, rfl, r2, ge1, m3⟩
  refine WL.det (op_move rfl) rfl rfl rfl ?_
  refine WL.call (oc_call (vs := [.agg #[vS bLr'1 0 nLr nLr, vI ((i : Nat) : Int), vI Tk, vF Tc0, vF Tc1, vF Tc2, vF Ts0, vF Ts1, vI Dk, vF Dc0, vF Dc1, vF Dc2, vF Ds0, vF Ds1, vF g], vI ((q : Nat) : Int)]) (cap := []) rfl rfl rfl Try.call45 (c_sPlayStr nLr nLr bLr'1 xLr i Tk Tc0 Tc1 Tc2 Ts0 Ts1 Dk Dc0 Dc1 Dc2 Ds0 Ds1 g q z ou lnLr (by omega) (by omega) (by first | assumption | exact W32.set (by assumption) (by first | assumption | exact wid_lt (by assumption)) | exact W32.zeros _ | exact W32.nil) (by first | assumption | exact W32.get (by assumption) _ | decide +kernel) (by first | assumption | exact W32.get (by assumption) _ | decide +kernel) (by first | assumption | exact W32.get (by assumption) _ | decide +kernel) (by first | assumption | exact W32.get (by assumption) _ | decide +kernel) (by assumption) (by assumption) (by omega) (by assumption) w3 r2.rng)) rfl rfl (ltb rfl) ?_
  rintro _ w4 ⟨b'1, c'1, e'1, c3'1, A'1, rfl, h1, h2, h3, r3, r4, ge2, ge3, ne1, m4⟩
  refine WL.det (op_move rfl) rfl rfl rfl ?_
  refine WL.det (op_extract rfl rfl) rfl rfl rfl ?_
  refine WL.det (op_extract rfl rfl) rfl rfl rfl ?_
  refine WL.det (op_extract rfl rfl) rfl rfl rfl ?_
  refine WL.op (op_alloc (cs := [.slice none 0 0, vI 0, vI 0, vF 0, vF 0, vF 0, vF 0, vF 0, vI 0, vF 0, vF 0, vF 0, vF 0, vF 0, vF 0]) Try.zeroValue33 rfl) rfl rfl (ltb rfl) ?_
  rintro _ w5 ⟨rfl, r5, m5, z2⟩
  refine WL.op0 (op_store (i := 0) (cs := [vS b'1 0 nLr c'1, vI ((z.i : Nat) : Int), vI Tk, vF Tc0, vF Tc1, vF Tc2, vF (z.t0), vF (z.t1), vI Dk, vF Dc0, vF Dc1, vF Dc2, vF (z.d0), vF (z.d1), vF g]) rfl rfl rfl Try.sizeOf33 rfl r5 rfl (lB rfl) rfl) rfl rfl ?_
  rintro _ w6 ⟨r6, m6, z3⟩
  have r7 : Row w6 w4.heap.size 0 [vS b'1 0 nLr c'1, vI ((z.i : Nat) : Int), vI Tk, vF Tc0, vF Tc1, vF Tc2, vF (z.t0), vF (z.t1), vI Dk, vF Dc0, vF Dc1, vF Dc2, vF (z.d0), vF (z.d1), vF g] := Row.congr r6 rfl
  refine WL.det (op_assign rfl) rfl rfl rfl ?_
  refine WL.det (op_assign rfl) rfl rfl rfl ?_
  refine WL.end ?_
  refine NE.code ?_
  refine CE.seq ?_
  refine CE.region ?_
  refine WL.det (op_loadA (i := 0) (cs := [.slice ALr nLr cLr, vI ((i : Nat) : Int), vI Tk, vF Tc0, vF Tc1, vF Tc2, vF Ts0, vF Ts1, vI Dk, vF Dc0, vF Dc1, vF Dc2, vF Ds0, vF Ds1, vF g]) rfl Try.isAgg51 Try.sizeOf51 (((((r1.ext m2).ext m3).ext m4).ext m5).mod m6 (nC (lE (lL (lL r1.lt (lT (lT m2.size m3.size) m4.size)) lR)) nN)).rng rfl rfl rfl) rfl rfl rfl ?_
  refine WL.call (oc_call (vs := [.agg #[.slice ALr nLr cLr, vI ((i : Nat) : Int), vI Tk, vF Tc0, vF Tc1, vF Tc2, vF Ts0, vF Ts1, vI Dk, vF Dc0, vF Dc1, vF Dc2, vF Ds0, vF Ds1, vF g]]) (cap := []) rfl rfl rfl Try.call26 (c_toString nLr cLr ALr bLr oLr xLr ((i : Nat) : Int) Tk Tc0 Tc1 Tc2 Ts0 Ts1 Dk Dc0 Dc1 Dc2 Ds0 Ds1 g lnLr hALr (by omega) w6 (Rng.youngS rLr (((((rLr.ext m1).ext m2).ext m3).ext m4).ext m5) m6 (allge_cons (lT (lT (lT (lT m1.size m2.size) m3.size) m4.size) lR) allge_nil)))) rfl rfl (ltb rfl) ?_
  rintro _ w7 ⟨bLr'2, rfl, r8, ge4, m7⟩
  refine WL.op (op_alloc (cs := [.slice none 0 0, vI 0, vI 0, vF 0, vF 0, vF 0, vF 0, vF 0, vI 0, vF 0, vF 0, vF 0, vF 0, vF 0, vF 0]) Try.zeroValue33 rfl) rfl rfl (ltb rfl) ?_
  rintro _ w8 ⟨rfl, r9, m8, z4⟩
  refine WL.op0 (op_store (i := 0) (cs := [vS bLr'2 0 nLr nLr, vI ((i : Nat) : Int), vI Tk, vF Tc0, vF Tc1, vF Tc2, vF Ts0, vF Ts1, vI Dk, vF Dc0, vF Dc1, vF Dc2, vF Ds0, vF Ds1, vF g]) rfl rfl rfl Try.sizeOf33 rfl r9 rfl (lB rfl) rfl) rfl rfl ?_
  rintro _ w9 ⟨r10, m9, z5⟩
  have r11 : Row w9 w7.heap.size 0 [vS bLr'2 0 nLr nLr, vI ((i : Nat) : Int), vI Tk, vF Tc0, vF Tc1, vF Tc2, vF Ts0, vF Ts1, vI Dk, vF Dc0, vF Dc1, vF Dc2, vF Ds0, vF Ds1, vF g] := Row.congr r10 rfl
  refine WL.end ?_
  refine NE.code ?_
  refine CE.seq ?_
  refine CE.region ?_
  refine WL.det (op_loadA (i := 0) (cs := [vS bLr'2 0 nLr nLr, vI ((i : Nat) : Int), vI Tk, vF Tc0, vF Tc1, vF Tc2, vF Ts0, vF Ts1, vI Dk, vF Dc0, vF Dc1, vF Dc2, vF Ds0, vF Ds1, vF g]) rfl Try.isAgg33 Try.sizeOf33 r11.rng rfl rfl rfl) rfl rfl rfl ?_
  refine WL.det (op_move rfl) rfl rfl rfl ?_
  refine WL.call (oc_call (vs := [.agg #[vS bLr'2 0 nLr nLr, vI ((i : Nat) : Int), vI Tk, vF Tc0, vF Tc1, vF Tc2, vF Ts0, vF Ts1, vI Dk, vF Dc0, vF Dc1, vF Dc2, vF Ds0, vF Ds1, vF g], vI ((q : Nat) : Int)]) (cap := []) rfl rfl rfl Try.call23 (c_iPlayStr nLr nLr bLr'2 xLr i Tk Tc0 Tc1 Tc2 Ts0 Ts1 Dk Dc0 Dc1 Dc2 Ds0 Ds1 g q z ou lnLr (by omega) (by omega) (by first | assumption | exact W32.set (by assumption) (by first | assumption | exact wid_lt (by assumption)) | exact W32.zeros _ | exact W32.nil) (by first | assumption | exact W32.get (by assumption) _ | decide +kernel) (by first | assumption | exact W32.get (by assumption) _ | decide +kernel) (by first | assumption | exact W32.get (by assumption) _ | decide +kernel) (by first | assumption | exact W32.get (by assumption) _ | decide +kernel) (by assumption) (by assumption) (by omega) (by assumption) w9 ((r8.ext m8).mod m9 (nC (lE (lL r8.lt lR)) nN)).rng)) rfl rfl (ltb rfl) ?_
  rintro _ w10 ⟨b'2, c'2, e'2, c3'2, A'2, rfl, h4, h5, h6, r12, r13, ge5, ge6, ne2, m10⟩
  refine WL.det (op_move rfl) rfl rfl rfl ?_
  refine WL.det (op_extract rfl rfl) rfl rfl rfl ?_
  refine WL.det (op_extract rfl rfl) rfl rfl rfl ?_
  refine WL.det (op_extract rfl rfl) rfl rfl rfl ?_
  refine WL.op (op_alloc (cs := [.slice none 0 0, vI 0, vI 0, vF 0, vF 0, vF 0, vF 0, vF 0, vI 0, vF 0, vF 0, vF 0, vF 0, vF 0, vF 0]) Try.zeroValue33 rfl) rfl rfl (ltb rfl) ?_
  rintro _ w11 ⟨rfl, r14, m11, z6⟩
  refine WL.op0 (op_store (i := 0) (cs := [vS b'2 0 nLr c'2, vI ((z.i : Nat) : Int), vI Tk, vF Tc0, vF Tc1, vF Tc2, vF (z.t0), vF (z.t1), vI Dk, vF Dc0, vF Dc1, vF Dc2, vF (z.d0), vF (z.d1), vF g]) rfl rfl rfl Try.sizeOf33 rfl r14 rfl (lB rfl) rfl) rfl rfl ?_
  rintro _ w12 ⟨r15, m12, z7⟩
  have r16 : Row w12 w10.heap.size 0 [vS b'2 0 nLr c'2, vI ((z.i : Nat) : Int), vI Tk, vF Tc0, vF Tc1, vF Tc2, vF (z.t0), vF (z.t1), vI Dk, vF Dc0, vF Dc1, vF Dc2, vF (z.d0), vF (z.d1), vF g] := Row.congr r15 rfl
  refine WL.det (op_assign rfl) rfl rfl rfl ?_
  refine WL.det (op_assign rfl) rfl rfl rfl ?_
  refine WL.end ?_
  refine NE.code ?_
  refine CE.seq ?_
  refine CE.seq ?_
  refine CE.region ?_
  refine WL.det (op_loadA (i := 0) (cs := [vS b'2 0 nLr c'2, vI ((z.i : Nat) : Int), vI Tk, vF Tc0, vF Tc1, vF Tc2, vF (z.t0), vF (z.t1), vI Dk, vF Dc0, vF Dc1, vF Dc2, vF (z.d0), vF (z.d1), vF g]) rfl Try.isAgg33 Try.sizeOf33 r16.rng rfl rfl rfl) rfl rfl rfl ?_
  refine WL.det (op_loadA (i := 0) (cs := [vS b'1 0 nLr c'1, vI ((z.i : Nat) : Int), vI Tk, vF Tc0, vF Tc1, vF Tc2, vF (z.t0), vF (z.t1), vI Dk, vF Dc0, vF Dc1, vF Dc2, vF (z.d0), vF (z.d1), vF g]) rfl Try.isAgg33 Try.sizeOf33 ((((((r7.ext m7).ext m8).mod m9 (nC (lE (lL (lL r5.lt (lT m6.size m7.size)) lR)) nN)).ext m10).ext m11).mod m12 (nC (lE (lL (lL r5.lt (lT (lT (lT (lT m6.size m7.size) m8.size) m9.size) m10.size)) lR)) nN)).rng rfl rfl rfl) rfl rfl rfl ?_
  refine WL.call (oc_call (vs := [.agg #[vS b'2 0 nLr c'2, vI ((z.i : Nat) : Int), vI Tk, vF Tc0, vF Tc1, vF Tc2, vF (z.t0), vF (z.t1), vI Dk, vF Dc0, vF Dc1, vF Dc2, vF (z.d0), vF (z.d1), vF g], .agg #[vS b'1 0 nLr c'1, vI ((z.i : Nat) : Int), vI Tk, vF Tc0, vF Tc1, vF Tc2, vF (z.t0), vF (z.t1), vI Dk, vF Dc0, vF Dc1, vF Dc2, vF (z.d0), vF (z.d1), vF g]]) (cap := []) rfl rfl rfl Try.call27 (c_eqString nLr c'2 (some ⟨b'2, 0, none⟩) b'2 0 z.xs ((z.i : Nat) : Int) Tk Tc0 Tc0 Tc1 Tc1 Tc2 Tc2 (z.t0) (z.t0) (z.t1) (z.t1) Dk Dc0 Dc0 Dc1 Dc1 Dc2 Dc2 (z.d0) (z.d0) (z.d1) (z.d1) g g c'1 (some ⟨b'1, 0, none⟩) b'1 0 Tc0 Tc1 Tc2 (z.t0) (z.t1) Dc0 Dc1 Dc2 (z.d0) (z.d1) g h1 (fun _ => rfl) (fun _ => rfl) rfl rfl rfl rfl rfl rfl rfl rfl rfl rfl rfl rfl rfl rfl rfl rfl rfl rfl rfl rfl rfl rfl (by omega) w12 ((r12.ext m11).mod m12 (nC (lE (lL r12.lt lR)) nN)).rng ((((((((r3.ext m5).mod m6 (nC (lE (lL r3.lt lR)) nN)).ext m7).ext m8).mod m9 (nC (lE (lL (lL r3.lt (lT (lT m5.size m6.size) m7.size)) lR)) nN)).ext m10).ext m11).mod m12 (nC (lE (lL (lL r3.lt (lT (lT (lT (lT (lT m5.size m6.size) m7.size) m8.size) m9.size) m10.size)) lR)) nN)).rng)) rfl rfl (ltb rfl) ?_
  rintro _ w13 ⟨rfl, m13⟩
  refine WL.det (op_not rfl) rfl rfl rfl ?_
  refine WL.det (op_move rfl) rfl rfl rfl ?_
  refine WL.yes rfl rfl rfl (ltb rfl) rfl rfl ?_
  refine WL.det (op_move rfl) rfl rfl rfl ?_
  refine WL.yes rfl rfl rfl (ltb rfl) rfl rfl ?_
  refine WL.det (op_move rfl) rfl rfl rfl ?_
  refine WL.yes rfl rfl rfl (ltb rfl) rfl rfl ?_
  refine WL.call (oc_call (vs := [.slice A'2 q c3'2, .slice A'1 q c3'1]) (cap := []) rfl rfl rfl Try.call43 (c_eq32_same q c3'2 A'2 e'2 0 ou c3'1 A'1 e'1 0 h2 h6 h3 (by omega) w13 (((r13.ext m11).mod m12 (nC (lE (lL r13.lt lR)) nN)).ext m13).rng (((((((((r4.ext m5).mod m6 (nC (lE (lL r4.lt lR)) nN)).ext m7).ext m8).mod m9 (nC (lE (lL (lL r4.lt (lT (lT m5.size m6.size) m7.size)) lR)) nN)).ext m10).ext m11).mod m12 (nC (lE (lL (lL r4.lt (lT (lT (lT (lT (lT m5.size m6.size) m7.size) m8.size) m9.size) m10.size)) lR)) nN)).ext m13).rng)) rfl rfl (ltb rfl) ?_
  rintro _ w14 ⟨rfl, m14⟩
  refine WL.yes rfl rfl rfl (ltb rfl) rfl rfl ?_
  refine WL.det (op_not rfl) rfl rfl rfl ?_
  refine WL.det (op_pick_f rfl rfl rfl) rfl rfl rfl ?_
  refine WL.det (op_move rfl) rfl rfl rfl ?_
  refine WL.yes rfl rfl rfl (ltb rfl) rfl rfl ?_
  refine WL.det (op_move rfl) rfl rfl rfl ?_
  refine WL.yes rfl rfl rfl (ltb rfl) rfl rfl ?_
  refine WL.det (op_move rfl) rfl rfl rfl ?_
  refine WL.yes rfl rfl rfl (ltb rfl) rfl rfl ?_
  refine WL.det (op_nei rfl rfl) rfl rfl rfl ?_
  refine WL.det (op_pick_f rfl rfl rfl) rfl rfl rfl ?_
  refine WL.end ?_
  refine NE.code ?_
  refine CE.cond_f rfl rfl ?_
  refine CE.skip' ?_
  refine NE.code ?_
  refine CE.seq ?_
  refine CE.seq ?_
  refine CE.draw (fun | 2 => some (fun _ wA uA wB => ∃ (bLr' : Nat), uA = .agg #[vS bLr' 0 nLr nLr, vI ((i : Nat) : Int), vI Tk, vF Tc0, vF Tc1, vF Tc2, vF Ts0, vF Ts1, vI Dk, vF Dc0, vF Dc1, vF Dc2, vF Ds0, vF Ds1, vF g] ∧ Row wB bLr' 0 (fl xLr) ∧ wA.heap.size ≤ bLr' ∧ Mod [] wA wB) | _ => none) [0, 1, 2] [3, 4] [] (by kernel_rfl) (by kernel_rfl) ?_
  have md1 : Mod [] w14 w14.drew := (Mod.refl _ _).drew
  generalize w14.drew = w15 at md1 ⊢
  refine DR.det (i := 0) rfl rfl (by kernel_rfl) (.free rfl) rfl rfl (fun wD mD => op_loadA (i := 0) (cs := [vS bLr'2 0 nLr nLr, vI ((i : Nat) : Int), vI Tk, vF Tc0, vF Tc1, vF Tc2, vF Ts0, vF Ts1, vI Dk, vF Dc0, vF Dc1, vF Dc2, vF Ds0, vF Ds1, vF g]) rfl Try.isAgg33 Try.sizeOf33 (((((((r11.ext m10).ext m11).mod m12 (nC (lE (lL (lL r9.lt (lT m9.size m10.size)) lR)) nN)).ext m13).ext m14).ext md1).ext mD).rng rfl rfl rfl) ?_
  refine DR.det (i := 1) rfl rfl (by kernel_rfl) (.free rfl) rfl rfl (fun wD mD => op_loadA (i := 0) (cs := [.slice ALr nLr cLr, vI ((i : Nat) : Int), vI Tk, vF Tc0, vF Tc1, vF Tc2, vF Ts0, vF Ts1, vI Dk, vF Dc0, vF Dc1, vF Dc2, vF Ds0, vF Ds1, vF g]) rfl Try.isAgg51 Try.sizeOf51 (((((((((((((((r1.ext m2).ext m3).ext m4).ext m5).mod m6 (nC (lE (lL (lL r1.lt (lT (lT m2.size m3.size) m4.size)) lR)) nN)).ext m7).ext m8).mod m9 (nC (lE (lL (lL r1.lt (lT (lT (lT (lT (lT m2.size m3.size) m4.size) m5.size) m6.size) m7.size)) lR)) nN)).ext m10).ext m11).mod m12 (nC (lE (lL (lL r1.lt (lT (lT (lT (lT (lT (lT (lT (lT m2.size m3.size) m4.size) m5.size) m6.size) m7.size) m8.size) m9.size) m10.size)) lR)) nN)).ext m13).ext m14).ext md1).ext mD).rng rfl rfl rfl) ?_
  refine DR.one (i := 2) rfl rfl (by kernel_rfl) (.free rfl) rfl (ltb rfl) (vs := [.func (.func 26) #[] #[], .agg #[.slice ALr nLr cLr, vI ((i : Nat) : Int), vI Tk, vF Tc0, vF Tc1, vF Tc2, vF Ts0, vF Ts1, vI Dk, vF Dc0, vF Dc1, vF Dc2, vF Ds0, vF Ds1, vF g]]) rfl ?_
  intro w16 m15
  refine ⟨oc_call (vs := [.agg #[.slice ALr nLr cLr, vI ((i : Nat) : Int), vI Tk, vF Tc0, vF Tc1, vF Tc2, vF Ts0, vF Ts1, vI Dk, vF Dc0, vF Dc1, vF Dc2, vF Ds0, vF Ds1, vF g]]) (cap := []) rfl rfl rfl Try.call26 (c_toString nLr cLr ALr bLr oLr xLr ((i : Nat) : Int) Tk Tc0 Tc1 Tc2 Ts0 Ts1 Dk Dc0 Dc1 Dc2 Ds0 Ds1 g lnLr hALr (by omega) w16 (((((Rng.youngS rLr (((Rng.youngS rLr (((Rng.youngS rLr (((((rLr.ext m1).ext m2).ext m3).ext m4).ext m5) m6 (allge_cons (lT (lT (lT (lT m1.size m2.size) m3.size) m4.size) lR) allge_nil)).ext m7).ext m8) m9 (allge_cons (lT (lT (lT (lT (lT (lT (lT m1.size m2.size) m3.size) m4.size) m5.size) m6.size) m7.size) lR) allge_nil)).ext m10).ext m11) m12 (allge_cons (lT (lT (lT (lT (lT (lT (lT (lT (lT (lT m1.size m2.size) m3.size) m4.size) m5.size) m6.size) m7.size) m8.size) m9.size) m10.size) lR) allge_nil)).ext m13).ext m14).ext md1).ext m15)), ?_⟩
  rintro _ w17 ⟨bLr'3, rfl, r17, ge7, m16⟩
  refine ⟨(((Mod.refl [] w15).nt m15).nt m16), ?_⟩
  refine DR.done rfl ?_
  intro w18 m17
  refine WO.call rfl (.free rfl) rfl (ltb rfl) (oc_call (vs := [.agg #[vS bLr'2 0 nLr nLr, vI ((i : Nat) : Int), vI Tk, vF Tc0, vF Tc1, vF Tc2, vF Ts0, vF Ts1, vI Dk, vF Dc0, vF Dc1, vF Dc2, vF Ds0, vF Ds1, vF g], .agg #[vS bLr'3 0 nLr nLr, vI ((i : Nat) : Int), vI Tk, vF Tc0, vF Tc1, vF Tc2, vF Ts0, vF Ts1, vI Dk, vF Dc0, vF Dc1, vF Dc2, vF Ds0, vF Ds1, vF g]]) (cap := []) rfl rfl rfl Try.call27 (c_eqString nLr nLr (some ⟨bLr'2, 0, none⟩) bLr'2 0 xLr ((i : Nat) : Int) Tk Tc0 Tc0 Tc1 Tc1 Tc2 Tc2 Ts0 Ts0 Ts1 Ts1 Dk Dc0 Dc0 Dc1 Dc1 Dc2 Dc2 Ds0 Ds0 Ds1 Ds1 g g nLr (some ⟨bLr'3, 0, none⟩) bLr'3 0 Tc0 Tc1 Tc2 Ts0 Ts1 Dc0 Dc1 Dc2 Ds0 Ds1 g lnLr (fun _ => rfl) (fun _ => rfl) rfl rfl rfl rfl rfl rfl rfl rfl rfl rfl rfl rfl rfl rfl rfl rfl rfl rfl rfl rfl rfl rfl (by omega) w18 (((((((((((r8.ext m8).mod m9 (nC (lE (lL r8.lt lR)) nN)).ext m10).ext m11).mod m12 (nC (lE (lL (lL r8.lt (lT (lT m8.size m9.size) m10.size)) lR)) nN)).ext m13).ext m14).ext md1).ext m15).ext m16).ext m17).rng (r17.ext m17).rng)) ?_
  rintro _ w19 ⟨rfl, m18⟩
  refine WO.det (op_not rfl) rfl (.free rfl) rfl rfl ?_
  refine WO.end ?_
  refine NE.code ?_
  refine CE.cond_f rfl rfl ?_
  refine CE.skip' ?_
  refine NE.code ?_
  refine CE.seq ?_
  refine CE.region ?_
  refine WL.det (op_assign rfl) rfl rfl rfl ?_
  refine WL.end ?_
  refine NE.code ?_
  refine CE.seq ?_
  refine CE.region ?_
  refine WL.det (op_loadA (i := 0) (cs := [vS bLr'2 0 nLr nLr, vI ((i : Nat) : Int), vI Tk, vF Tc0, vF Tc1, vF Tc2, vF Ts0, vF Ts1, vI Dk, vF Dc0, vF Dc1, vF Dc2, vF Ds0, vF Ds1, vF g]) rfl Try.isAgg33 Try.sizeOf33 ((((((((((r11.ext m10).ext m11).mod m12 (nC (lE (lL (lL r9.lt (lT m9.size m10.size)) lR)) nN)).ext m13).ext m14).ext md1).ext m15).ext m16).ext m17).ext m18).rng rfl rfl rfl) rfl rfl rfl ?_
  refine WL.det (op_move rfl) rfl rfl rfl ?_
  refine WL.call (oc_call (vs := [.agg #[vS bLr'2 0 nLr nLr, vI ((i : Nat) : Int), vI Tk, vF Tc0, vF Tc1, vF Tc2, vF Ts0, vF Ts1, vI Dk, vF Dc0, vF Dc1, vF Dc2, vF Ds0, vF Ds1, vF g], vI 1]) (cap := []) rfl rfl rfl Try.call28 (c_markString nLr nLr bLr'2 xLr ((i : Nat) : Int) Tk Tc0 Tc1 Tc2 Ts0 Ts1 Dk Dc0 Dc1 Dc2 Ds0 Ds1 g 1 lnLr (by omega) (by omega) w19 ((((((((((((r8.ext m8).mod m9 (nC (lE (lL r8.lt lR)) nN)).ext m10).ext m11).mod m12 (nC (lE (lL (lL r8.lt (lT (lT m8.size m9.size) m10.size)) lR)) nN)).ext m13).ext m14).ext md1).ext m15).ext m16).ext m17).ext m18))) rfl rfl (ltb rfl) ?_
  rintro _ w20 ⟨rfl, r18, m19⟩
  refine WL.det (op_assign rfl) rfl rfl rfl ?_
  refine WL.end ?_
  refine NE.code ?_
  refine CE.seq ?_
  refine CE.seq ?_
  refine CE.region ?_
  refine WL.det (op_move rfl) rfl rfl rfl ?_
  refine WL.det (op_lti_f rfl rfl (by omega)) rfl rfl rfl ?_
  refine WL.det (op_move rfl) rfl rfl rfl ?_
  refine WL.yes rfl rfl rfl (ltb rfl) rfl rfl ?_
  refine WL.det (op_loadA (i := 0) (cs := [vS b'2 0 nLr c'2, vI ((z.i : Nat) : Int), vI Tk, vF Tc0, vF Tc1, vF Tc2, vF (z.t0), vF (z.t1), vI Dk, vF Dc0, vF Dc1, vF Dc2, vF (z.d0), vF (z.d1), vF g]) rfl Try.isAgg33 Try.sizeOf33 ((((((((r16.ext m13).ext m14).ext md1).ext m15).ext m16).ext m17).ext m18).mod m19 (nC (lG (lL (lL r8.lt (lT (lT m8.size m9.size) m10.size)) lR)) nN)).rng rfl rfl rfl) rfl rfl rfl ?_
  refine WL.yes rfl rfl rfl (ltb rfl) rfl rfl ?_
  refine WL.det (op_loadA (i := 0) (cs := [vS b'1 0 nLr c'1, vI ((z.i : Nat) : Int), vI Tk, vF Tc0, vF Tc1, vF Tc2, vF (z.t0), vF (z.t1), vI Dk, vF Dc0, vF Dc1, vF Dc2, vF (z.d0), vF (z.d1), vF g]) rfl Try.isAgg33 Try.sizeOf33 ((((((((((((((r7.ext m7).ext m8).mod m9 (nC (lE (lL (lL r5.lt (lT m6.size m7.size)) lR)) nN)).ext m10).ext m11).mod m12 (nC (lE (lL (lL r5.lt (lT (lT (lT (lT m6.size m7.size) m8.size) m9.size) m10.size)) lR)) nN)).ext m13).ext m14).ext md1).ext m15).ext m16).ext m17).ext m18).mod m19 (nC (lE (lL (lL r5.lt m6.size) ge4)) nN)).rng rfl rfl rfl) rfl rfl rfl ?_
  refine WL.yes rfl rfl rfl (ltb rfl) rfl rfl ?_
  refine WL.call (oc_call (vs := [.agg #[vS b'2 0 nLr c'2, vI ((z.i : Nat) : Int), vI Tk, vF Tc0, vF Tc1, vF Tc2, vF (z.t0), vF (z.t1), vI Dk, vF Dc0, vF Dc1, vF Dc2, vF (z.d0), vF (z.d1), vF g], .agg #[vS b'1 0 nLr c'1, vI ((z.i : Nat) : Int), vI Tk, vF Tc0, vF Tc1, vF Tc2, vF (z.t0), vF (z.t1), vI Dk, vF Dc0, vF Dc1, vF Dc2, vF (z.d0), vF (z.d1), vF g]]) (cap := []) rfl rfl rfl Try.call27 (c_eqString nLr c'2 (some ⟨b'2, 0, none⟩) b'2 0 z.xs ((z.i : Nat) : Int) Tk Tc0 Tc0 Tc1 Tc1 Tc2 Tc2 (z.t0) (z.t0) (z.t1) (z.t1) Dk Dc0 Dc0 Dc1 Dc1 Dc2 Dc2 (z.d0) (z.d0) (z.d1) (z.d1) g g c'1 (some ⟨b'1, 0, none⟩) b'1 0 Tc0 Tc1 Tc2 (z.t0) (z.t1) Dc0 Dc1 Dc2 (z.d0) (z.d1) g h1 (fun _ => rfl) (fun _ => rfl) rfl rfl rfl rfl rfl rfl rfl rfl rfl rfl rfl rfl rfl rfl rfl rfl rfl rfl rfl rfl rfl rfl (by omega) w20 ((((((((((r12.ext m11).mod m12 (nC (lE (lL r12.lt lR)) nN)).ext m13).ext m14).ext md1).ext m15).ext m16).ext m17).ext m18).mod m19 (nC (lG (lL (lL r8.lt (lT m8.size m9.size)) ge5)) nN)).rng ((((((((((((((((r3.ext m5).mod m6 (nC (lE (lL r3.lt lR)) nN)).ext m7).ext m8).mod m9 (nC (lE (lL (lL r3.lt (lT (lT m5.size m6.size) m7.size)) lR)) nN)).ext m10).ext m11).mod m12 (nC (lE (lL (lL r3.lt (lT (lT (lT (lT (lT m5.size m6.size) m7.size) m8.size) m9.size) m10.size)) lR)) nN)).ext m13).ext m14).ext md1).ext m15).ext m16).ext m17).ext m18).mod m19 (nC (lE (lL (lL r3.lt (lT m5.size m6.size)) ge4)) nN)).rng)) rfl rfl (ltb rfl) ?_
  rintro _ w21 ⟨rfl, m20⟩
  refine WL.yes rfl rfl rfl (ltb rfl) rfl rfl ?_
  refine WL.det (op_not rfl) rfl rfl rfl ?_
  refine WL.det (op_pick_f rfl rfl rfl) rfl rfl rfl ?_
  refine WL.det (op_move rfl) rfl rfl rfl ?_
  refine WL.yes rfl rfl rfl (ltb rfl) rfl rfl ?_
  refine WL.det (op_move rfl) rfl rfl rfl ?_
  refine WL.yes rfl rfl rfl (ltb rfl) rfl rfl ?_
  refine WL.det (op_move rfl) rfl rfl rfl ?_
  refine WL.yes rfl rfl rfl (ltb rfl) rfl rfl ?_
  refine WL.call (oc_call (vs := [.slice A'2 q c3'2, .slice A'1 q c3'1]) (cap := []) rfl rfl rfl Try.call43 (c_eq32_same q c3'2 A'2 e'2 0 ou c3'1 A'1 e'1 0 h2 h6 h3 (by omega) w21 (((((((((((r13.ext m11).mod m12 (nC (lE (lL r13.lt lR)) nN)).ext m13).ext m14).ext md1).ext m15).ext m16).ext m17).ext m18).mod m19 (nC (lG (lL (lL r8.lt (lT m8.size m9.size)) ge6)) nN)).ext m20).rng (((((((((((((((((r4.ext m5).mod m6 (nC (lE (lL r4.lt lR)) nN)).ext m7).ext m8).mod m9 (nC (lE (lL (lL r4.lt (lT (lT m5.size m6.size) m7.size)) lR)) nN)).ext m10).ext m11).mod m12 (nC (lE (lL (lL r4.lt (lT (lT (lT (lT (lT m5.size m6.size) m7.size) m8.size) m9.size) m10.size)) lR)) nN)).ext m13).ext m14).ext md1).ext m15).ext m16).ext m17).ext m18).mod m19 (nC (lE (lL (lL r4.lt (lT m5.size m6.size)) ge4)) nN)).ext m20).rng)) rfl rfl (ltb rfl) ?_
  rintro _ w22 ⟨rfl, m21⟩
  refine WL.yes rfl rfl rfl (ltb rfl) rfl rfl ?_
  refine WL.det (op_not rfl) rfl rfl rfl ?_
  refine WL.det (op_pick_f rfl rfl rfl) rfl rfl rfl ?_
  refine WL.det (op_move rfl) rfl rfl rfl ?_
  refine WL.yes rfl rfl rfl (ltb rfl) rfl rfl ?_
  refine WL.det (op_move rfl) rfl rfl rfl ?_
  refine WL.yes rfl rfl rfl (ltb rfl) rfl rfl ?_
  refine WL.det (op_move rfl) rfl rfl rfl ?_
  refine WL.yes rfl rfl rfl (ltb rfl) rfl rfl ?_
  refine WL.det (op_nei rfl rfl) rfl rfl rfl ?_
  refine WL.det (op_pick_f rfl rfl rfl) rfl rfl rfl ?_
  refine WL.end ?_
  refine NE.code ?_
  refine CE.cond_f rfl rfl ?_
  refine CE.skip' ?_
  refine NE.code ?_
  refine CE.seq ?_
  refine CE.region ?_
  refine WL.det (op_assign rfl) rfl rfl rfl ?_
  refine WL.end ?_
  refine NE.code ?_
  refine CE.seq ?_
  refine CE.region ?_
  refine WL.det (op_loadA (i := 0) (cs := [vS b'2 0 nLr c'2, vI ((z.i : Nat) : Int), vI Tk, vF Tc0, vF Tc1, vF Tc2, vF (z.t0), vF (z.t1), vI Dk, vF Dc0, vF Dc1, vF Dc2, vF (z.d0), vF (z.d1), vF g]) rfl Try.isAgg33 Try.sizeOf33 ((((((((((r16.ext m13).ext m14).ext md1).ext m15).ext m16).ext m17).ext m18).mod m19 (nC (lG (lL (lL r8.lt (lT (lT m8.size m9.size) m10.size)) lR)) nN)).ext m20).ext m21).rng rfl rfl rfl) rfl rfl rfl ?_
  refine WL.det (op_move rfl) rfl rfl rfl ?_
  refine WL.call (oc_call (vs := [.agg #[vS b'2 0 nLr c'2, vI ((z.i : Nat) : Int), vI Tk, vF Tc0, vF Tc1, vF Tc2, vF (z.t0), vF (z.t1), vI Dk, vF Dc0, vF Dc1, vF Dc2, vF (z.d0), vF (z.d1), vF g], vI 1]) (cap := []) rfl rfl rfl Try.call28 (c_markString nLr c'2 b'2 z.xs ((z.i : Nat) : Int) Tk Tc0 Tc1 Tc2 (z.t0) (z.t1) Dk Dc0 Dc1 Dc2 (z.d0) (z.d1) g 1 h4 (by omega) (by omega) w22 ((((((((((((r12.ext m11).mod m12 (nC (lE (lL r12.lt lR)) nN)).ext m13).ext m14).ext md1).ext m15).ext m16).ext m17).ext m18).mod m19 (nC (lG (lL (lL r8.lt (lT m8.size m9.size)) ge5)) nN)).ext m20).ext m21))) rfl rfl (ltb rfl) ?_
  rintro _ w23 ⟨rfl, r19, m22⟩
  refine WL.det (op_assign rfl) rfl rfl rfl ?_
  refine WL.end ?_
  refine NE.code ?_
  refine CE.seq ?_
  refine CE.region ?_
  refine WL.det (op_move rfl) rfl rfl rfl ?_
  refine WL.det (op_move rfl) rfl rfl rfl ?_
  refine WL.call (oc_call (vs := [.slice A'2 q c3'2, vI ((1 + nLr : Nat) : Int)]) (cap := []) rfl rfl rfl Try.call44 (c_mark32 q c3'2 A'2 e'2 0 ou (1 + nLr) h5 h6 (by omega) (by omega) w23 (((((((((((((r13.ext m11).mod m12 (nC (lE (lL r13.lt lR)) nN)).ext m13).ext m14).ext md1).ext m15).ext m16).ext m17).ext m18).mod m19 (nC (lG (lL (lL r8.lt (lT m8.size m9.size)) ge6)) nN)).ext m20).ext m21).mod m22 (nC (Ne.symm ne2) nN)))) rfl rfl (ltb rfl) ?_
  rintro _ w24 ⟨rfl, r20, m23⟩
  refine WL.det (op_assign rfl) rfl rfl rfl ?_
  refine WL.end ?_
  refine NE.code ?_
  refine CE.seq ?_
  refine CE.region ?_
  refine WL.det (op_assign rfl) rfl rfl rfl ?_
  refine WL.end ?_
  refine NE.code ?_
  refine CE.seq ?_
  refine CE.region ?_
  refine WL.det (op_loadA (i := 0) (cs := [vS b'2 0 nLr c'2, vI ((z.i : Nat) : Int), vI Tk, vF Tc0, vF Tc1, vF Tc2, vF (z.t0), vF (z.t1), vI Dk, vF Dc0, vF Dc1, vF Dc2, vF (z.d0), vF (z.d1), vF g]) rfl Try.isAgg33 Try.sizeOf33 ((((((((((((r16.ext m13).ext m14).ext md1).ext m15).ext m16).ext m17).ext m18).mod m19 (nC (lG (lL (lL r8.lt (lT (lT m8.size m9.size) m10.size)) lR)) nN)).ext m20).ext m21).mod m22 (nC (lG (lL r12.lt lR)) nN)).mod m23 (nC (lG (lL r13.lt lR)) nN)).rng rfl rfl rfl) rfl rfl rfl ?_
  refine WL.det (op_move rfl) rfl rfl rfl ?_
  refine WL.call (oc_call (vs := [.agg #[vS b'2 0 nLr c'2, vI ((z.i : Nat) : Int), vI Tk, vF Tc0, vF Tc1, vF Tc2, vF (z.t0), vF (z.t1), vI Dk, vF Dc0, vF Dc1, vF Dc2, vF (z.d0), vF (z.d1), vF g], vI 1]) (cap := []) rfl rfl rfl Try.call29 (c_heldString nLr c'2 b'2 (marks z.xs 1 nLr) ((z.i : Nat) : Int) Tk Tc0 Tc1 Tc2 (z.t0) (z.t1) Dk Dc0 Dc1 Dc2 (z.d0) (z.d1) g 1 (marks_len h4 (Nat.le_refl _)) (by omega) (by omega) (by first | assumption | exact marks_held _ _ _) w24 (r19.mod m23 (nC ne2 nN)).rng)) rfl rfl (ltb rfl) ?_
  rintro _ w25 ⟨rfl, m24⟩
  refine WL.det (op_assign rfl) rfl rfl rfl ?_
  refine WL.end ?_
  refine NE.code ?_
  refine CE.seq ?_
  refine CE.seq ?_
  refine CE.region ?_
  refine WL.det (op_move rfl) rfl rfl rfl ?_
  refine WL.det (op_lti_f rfl rfl (by omega)) rfl rfl rfl ?_
  refine WL.end ?_
  refine NE.code ?_
  refine CE.cond_f rfl rfl ?_
  refine CE.skip' ?_
  refine NE.code ?_
  refine CE.seq ?_
  refine CE.region ?_
  refine WL.det (op_move rfl) rfl rfl rfl ?_
  refine WL.det (op_move rfl) rfl rfl rfl ?_
  refine WL.call (oc_call (vs := [.slice A'2 q c3'2, vI ((1 + nLr : Nat) : Int)]) (cap := []) rfl rfl rfl Try.call46 (c_held32 q c3'2 A'2 e'2 0 (marks ou (1 + nLr) q) (1 + nLr) (marks_len h5 (Nat.le_refl _)) h6 (by omega) (by omega) (by first | assumption | exact marks_held _ _ _) w25 (r20.ext m24).rng)) rfl rfl (ltb rfl) ?_
  rintro _ w26 ⟨rfl, m25⟩
  refine WL.det (op_assign rfl) rfl rfl rfl ?_
  refine WL.end ?_
  refine NE.code ?_
  refine CE.seq ?_
  refine CE.seq ?_
  refine CE.region ?_
  refine WL.det (op_move rfl) rfl rfl rfl ?_
  refine WL.det (op_lti_f rfl rfl (by omega)) rfl rfl rfl ?_
  refine WL.end ?_
  refine NE.code ?_
  refine CE.cond_f rfl rfl ?_
  refine CE.skip' ?_
  refine NE.code ?_
  refine CE.seq ?_
  refine CE.seq ?_
  refine CE.region ?_
  refine WL.det (op_move rfl) rfl rfl rfl ?_
  refine WL.det (op_move rfl) rfl rfl rfl ?_
  refine WL.det (op_nei_f rfl rfl rfl) rfl rfl rfl ?_
  refine WL.end ?_
  refine NE.code ?_
  refine CE.cond_f rfl rfl ?_
  refine CE.skip' ?_
  refine NE.code ?_
  refine CE.seq ?_
  refine CE.region ?_
  refine WL.det (op_loadA (i := 0) (cs := [.slice ALr nLr cLr, vI ((i : Nat) : Int), vI Tk, vF Tc0, vF Tc1, vF Tc2, vF Ts0, vF Ts1, vI Dk, vF Dc0, vF Dc1, vF Dc2, vF Ds0, vF Ds1, vF g]) rfl Try.isAgg51 Try.sizeOf51 (((((((((((((((((((((((((r1.ext m2).ext m3).ext m4).ext m5).mod m6 (nC (lE (lL (lL r1.lt (lT (lT m2.size m3.size) m4.size)) lR)) nN)).ext m7).ext m8).mod m9 (nC (lE (lL (lL r1.lt (lT (lT (lT (lT (lT m2.size m3.size) m4.size) m5.size) m6.size) m7.size)) lR)) nN)).ext m10).ext m11).mod m12 (nC (lE (lL (lL r1.lt (lT (lT (lT (lT (lT (lT (lT (lT m2.size m3.size) m4.size) m5.size) m6.size) m7.size) m8.size) m9.size) m10.size)) lR)) nN)).ext m13).ext m14).ext md1).ext m15).ext m16).ext m17).ext m18).mod m19 (nC (lE (lL (lL r1.lt (lT (lT (lT (lT m2.size m3.size) m4.size) m5.size) m6.size)) ge4)) nN)).ext m20).ext m21).mod m22 (nC (lE (lL (lL r1.lt (lT (lT (lT (lT (lT (lT (lT m2.size m3.size) m4.size) m5.size) m6.size) m7.size) m8.size) m9.size)) ge5)) nN)).mod m23 (nC (lE (lL (lL r1.lt (lT (lT (lT (lT (lT (lT (lT m2.size m3.size) m4.size) m5.size) m6.size) m7.size) m8.size) m9.size)) ge6)) nN)).ext m24).ext m25).rng rfl rfl rfl) rfl rfl rfl ?_
  refine WL.call (oc_call (vs := [.agg #[.slice ALr nLr cLr, vI ((i : Nat) : Int), vI Tk, vF Tc0, vF Tc1, vF Tc2, vF Ts0, vF Ts1, vI Dk, vF Dc0, vF Dc1, vF Dc2, vF Ds0, vF Ds1, vF g]]) (cap := []) rfl rfl rfl Try.call26 (c_toString nLr cLr ALr bLr oLr xLr ((i : Nat) : Int) Tk Tc0 Tc1 Tc2 Ts0 Ts1 Dk Dc0 Dc1 Dc2 Ds0 Ds1 g lnLr hALr (by omega) w26 (((Rng.youngS rLr (Rng.youngS rLr (((Rng.youngS rLr ((((((((Rng.youngS rLr (((Rng.youngS rLr (((Rng.youngS rLr (((((rLr.ext m1).ext m2).ext m3).ext m4).ext m5) m6 (allge_cons (lT (lT (lT (lT m1.size m2.size) m3.size) m4.size) lR) allge_nil)).ext m7).ext m8) m9 (allge_cons (lT (lT (lT (lT (lT (lT (lT m1.size m2.size) m3.size) m4.size) m5.size) m6.size) m7.size) lR) allge_nil)).ext m10).ext m11) m12 (allge_cons (lT (lT (lT (lT (lT (lT (lT (lT (lT (lT m1.size m2.size) m3.size) m4.size) m5.size) m6.size) m7.size) m8.size) m9.size) m10.size) lR) allge_nil)).ext m13).ext m14).ext md1).ext m15).ext m16).ext m17).ext m18) m19 (allge_cons (lT (lT (lT (lT (lT (lT m1.size m2.size) m3.size) m4.size) m5.size) m6.size) ge4) allge_nil)).ext m20).ext m21) m22 (allge_cons (lT (lT (lT (lT (lT (lT (lT (lT (lT m1.size m2.size) m3.size) m4.size) m5.size) m6.size) m7.size) m8.size) m9.size) ge5) allge_nil)) m23 (allge_cons (lT (lT (lT (lT (lT (lT (lT (lT (lT m1.size m2.size) m3.size) m4.size) m5.size) m6.size) m7.size) m8.size) m9.size) ge6) allge_nil)).ext m24).ext m25))) rfl rfl (ltb rfl) ?_
  rintro _ w27 ⟨bLr'4, rfl, r21, ge8, m26⟩
  refine WL.det (op_move rfl) rfl rfl rfl ?_
  refine WL.call (oc_call (vs := [.agg #[vS bLr'4 0 nLr nLr, vI ((i : Nat) : Int), vI Tk, vF Tc0, vF Tc1, vF Tc2, vF Ts0, vF Ts1, vI Dk, vF Dc0, vF Dc1, vF Dc2, vF Ds0, vF Ds1, vF g], vI ((q : Nat) : Int)]) (cap := []) rfl rfl rfl Try.call23 (c_iPlayStr nLr nLr bLr'4 xLr i Tk Tc0 Tc1 Tc2 Ts0 Ts1 Dk Dc0 Dc1 Dc2 Ds0 Ds1 g q z ou lnLr (by omega) (by omega) (by first | assumption | exact W32.set (by assumption) (by first | assumption | exact wid_lt (by assumption)) | exact W32.zeros _ | exact W32.nil) (by first | assumption | exact W32.get (by assumption) _ | decide +kernel) (by first | assumption | exact W32.get (by assumption) _ | decide +kernel) (by first | assumption | exact W32.get (by assumption) _ | decide +kernel) (by first | assumption | exact W32.get (by assumption) _ | decide +kernel) (by assumption) (by assumption) (by omega) (by assumption) w27 r21.rng)) rfl rfl (ltb rfl) ?_
  rintro _ w28 ⟨b'3, c'3, e'3, c3'3, A'3, rfl, h7, h8, h9, r22, r23, ge9, ge10, ne3, m27⟩
  refine WL.det (op_move rfl) rfl rfl rfl ?_
  refine WL.det (op_extract rfl rfl) rfl rfl rfl ?_
  refine WL.det (op_extract rfl rfl) rfl rfl rfl ?_
  refine WL.det (op_extract rfl rfl) rfl rfl rfl ?_
  refine WL.op (op_alloc (cs := [.slice none 0 0, vI 0, vI 0, vF 0, vF 0, vF 0, vF 0, vF 0, vI 0, vF 0, vF 0, vF 0, vF 0, vF 0, vF 0]) Try.zeroValue33 rfl) rfl rfl (ltb rfl) ?_
  rintro _ w29 ⟨rfl, r24, m28, z8⟩
  refine WL.op0 (op_store (i := 0) (cs := [vS b'3 0 nLr c'3, vI ((z.i : Nat) : Int), vI Tk, vF Tc0, vF Tc1, vF Tc2, vF (z.t0), vF (z.t1), vI Dk, vF Dc0, vF Dc1, vF Dc2, vF (z.d0), vF (z.d1), vF g]) rfl rfl rfl Try.sizeOf33 rfl r24 rfl (lB rfl) rfl) rfl rfl ?_
  rintro _ w30 ⟨r25, m29, z9⟩
  have r26 : Row w30 w28.heap.size 0 [vS b'3 0 nLr c'3, vI ((z.i : Nat) : Int), vI Tk, vF Tc0, vF Tc1, vF Tc2, vF (z.t0), vF (z.t1), vI Dk, vF Dc0, vF Dc1, vF Dc2, vF (z.d0), vF (z.d1), vF g] := Row.congr r25 rfl
  refine WL.det (op_assign rfl) rfl rfl rfl ?_
  refine WL.det (op_assign rfl) rfl rfl rfl ?_
  refine WL.end ?_
  refine NE.code ?_
  refine CE.seq ?_
  refine CE.seq ?_
  refine CE.region ?_
  refine WL.det (op_loadA (i := 0) (cs := [vS b'3 0 nLr c'3, vI ((z.i : Nat) : Int), vI Tk, vF Tc0, vF Tc1, vF Tc2, vF (z.t0), vF (z.t1), vI Dk, vF Dc0, vF Dc1, vF Dc2, vF (z.d0), vF (z.d1), vF g]) rfl Try.isAgg33 Try.sizeOf33 r26.rng rfl rfl rfl) rfl rfl rfl ?_
  refine WL.det (op_loadA (i := 0) (cs := [vS b'1 0 nLr c'1, vI ((z.i : Nat) : Int), vI Tk, vF Tc0, vF Tc1, vF Tc2, vF (z.t0), vF (z.t1), vI Dk, vF Dc0, vF Dc1, vF Dc2, vF (z.d0), vF (z.d1), vF g]) rfl Try.isAgg33 Try.sizeOf33 ((((((((((((((((((((((((r7.ext m7).ext m8).mod m9 (nC (lE (lL (lL r5.lt (lT m6.size m7.size)) lR)) nN)).ext m10).ext m11).mod m12 (nC (lE (lL (lL r5.lt (lT (lT (lT (lT m6.size m7.size) m8.size) m9.size) m10.size)) lR)) nN)).ext m13).ext m14).ext md1).ext m15).ext m16).ext m17).ext m18).mod m19 (nC (lE (lL (lL r5.lt m6.size) ge4)) nN)).ext m20).ext m21).mod m22 (nC (lE (lL (lL r5.lt (lT (lT (lT m6.size m7.size) m8.size) m9.size)) ge5)) nN)).mod m23 (nC (lE (lL (lL r5.lt (lT (lT (lT m6.size m7.size) m8.size) m9.size)) ge6)) nN)).ext m24).ext m25).ext m26).ext m27).ext m28).mod m29 (nC (lE (lL (lL r5.lt (lT (lT (lT (lT (lT (lT (lT (lT (lT (lT (lT (lT (lT (lT (lT (lT (lT (lT (lT (lT (lT (lT m6.size m7.size) m8.size) m9.size) m10.size) m11.size) m12.size) m13.size) m14.size) md1.size) m15.size) m16.size) m17.size) m18.size) m19.size) m20.size) m21.size) m22.size) m23.size) m24.size) m25.size) m26.size) m27.size)) lR)) nN)).rng rfl rfl rfl) rfl rfl rfl ?_
  refine WL.call (oc_call (vs := [.agg #[vS b'3 0 nLr c'3, vI ((z.i : Nat) : Int), vI Tk, vF Tc0, vF Tc1, vF Tc2, vF (z.t0), vF (z.t1), vI Dk, vF Dc0, vF Dc1, vF Dc2, vF (z.d0), vF (z.d1), vF g], .agg #[vS b'1 0 nLr c'1, vI ((z.i : Nat) : Int), vI Tk, vF Tc0, vF Tc1, vF Tc2, vF (z.t0), vF (z.t1), vI Dk, vF Dc0, vF Dc1, vF Dc2, vF (z.d0), vF (z.d1), vF g]]) (cap := []) rfl rfl rfl Try.call27 (c_eqString nLr c'3 (some ⟨b'3, 0, none⟩) b'3 0 z.xs ((z.i : Nat) : Int) Tk Tc0 Tc0 Tc1 Tc1 Tc2 Tc2 (z.t0) (z.t0) (z.t1) (z.t1) Dk Dc0 Dc0 Dc1 Dc1 Dc2 Dc2 (z.d0) (z.d0) (z.d1) (z.d1) g g c'1 (some ⟨b'1, 0, none⟩) b'1 0 Tc0 Tc1 Tc2 (z.t0) (z.t1) Dc0 Dc1 Dc2 (z.d0) (z.d1) g h1 (fun _ => rfl) (fun _ => rfl) rfl rfl rfl rfl rfl rfl rfl rfl rfl rfl rfl rfl rfl rfl rfl rfl rfl rfl rfl rfl rfl rfl (by omega) w30 ((r22.ext m28).mod m29 (nC (lE (lL r22.lt lR)) nN)).rng ((((((((((((((((((((((((((r3.ext m5).mod m6 (nC (lE (lL r3.lt lR)) nN)).ext m7).ext m8).mod m9 (nC (lE (lL (lL r3.lt (lT (lT m5.size m6.size) m7.size)) lR)) nN)).ext m10).ext m11).mod m12 (nC (lE (lL (lL r3.lt (lT (lT (lT (lT (lT m5.size m6.size) m7.size) m8.size) m9.size) m10.size)) lR)) nN)).ext m13).ext m14).ext md1).ext m15).ext m16).ext m17).ext m18).mod m19 (nC (lE (lL (lL r3.lt (lT m5.size m6.size)) ge4)) nN)).ext m20).ext m21).mod m22 (nC (lE (lL (lL r3.lt (lT (lT (lT (lT m5.size m6.size) m7.size) m8.size) m9.size)) ge5)) nN)).mod m23 (nC (lE (lL (lL r3.lt (lT (lT (lT (lT m5.size m6.size) m7.size) m8.size) m9.size)) ge6)) nN)).ext m24).ext m25).ext m26).ext m27).ext m28).mod m29 (nC (lE (lL (lL r3.lt (lT (lT (lT (lT (lT (lT (lT (lT (lT (lT (lT (lT (lT (lT (lT (lT (lT (lT (lT (lT (lT (lT (lT m5.size m6.size) m7.size) m8.size) m9.size) m10.size) m11.size) m12.size) m13.size) m14.size) md1.size) m15.size) m16.size) m17.size) m18.size) m19.size) m20.size) m21.size) m22.size) m23.size) m24.size) m25.size) m26.size) m27.size)) lR)) nN)).rng)) rfl rfl (ltb rfl) ?_
  rintro _ w31 ⟨rfl, m30⟩
  refine WL.det (op_not rfl) rfl rfl rfl ?_
  refine WL.det (op_move rfl) rfl rfl rfl ?_
  refine WL.yes rfl rfl rfl (ltb rfl) rfl rfl ?_
  refine WL.det (op_move rfl) rfl rfl rfl ?_
  refine WL.yes rfl rfl rfl (ltb rfl) rfl rfl ?_
  refine WL.det (op_move rfl) rfl rfl rfl ?_
  refine WL.yes rfl rfl rfl (ltb rfl) rfl rfl ?_
  refine WL.call (oc_call (vs := [.slice A'3 q c3'3, .slice A'1 q c3'1]) (cap := []) rfl rfl rfl Try.call43 (c_eq32_same q c3'3 A'3 e'3 0 ou c3'1 A'1 e'1 0 h2 h9 h3 (by omega) w31 (((r23.ext m28).mod m29 (nC (lE (lL r23.lt lR)) nN)).ext m30).rng (((((((((((((((((((((((((((r4.ext m5).mod m6 (nC (lE (lL r4.lt lR)) nN)).ext m7).ext m8).mod m9 (nC (lE (lL (lL r4.lt (lT (lT m5.size m6.size) m7.size)) lR)) nN)).ext m10).ext m11).mod m12 (nC (lE (lL (lL r4.lt (lT (lT (lT (lT (lT m5.size m6.size) m7.size) m8.size) m9.size) m10.size)) lR)) nN)).ext m13).ext m14).ext md1).ext m15).ext m16).ext m17).ext m18).mod m19 (nC (lE (lL (lL r4.lt (lT m5.size m6.size)) ge4)) nN)).ext m20).ext m21).mod m22 (nC (lE (lL (lL r4.lt (lT (lT (lT (lT m5.size m6.size) m7.size) m8.size) m9.size)) ge5)) nN)).mod m23 (nC (lE (lL (lL r4.lt (lT (lT (lT (lT m5.size m6.size) m7.size) m8.size) m9.size)) ge6)) nN)).ext m24).ext m25).ext m26).ext m27).ext m28).mod m29 (nC (lE (lL (lL r4.lt (lT (lT (lT (lT (lT (lT (lT (lT (lT (lT (lT (lT (lT (lT (lT (lT (lT (lT (lT (lT (lT (lT (lT m5.size m6.size) m7.size) m8.size) m9.size) m10.size) m11.size) m12.size) m13.size) m14.size) md1.size) m15.size) m16.size) m17.size) m18.size) m19.size) m20.size) m21.size) m22.size) m23.size) m24.size) m25.size) m26.size) m27.size)) lR)) nN)).ext m30).rng)) rfl rfl (ltb rfl) ?_
  rintro _ w32 ⟨rfl, m31⟩
  refine WL.yes rfl rfl rfl (ltb rfl) rfl rfl ?_
  refine WL.det (op_not rfl) rfl rfl rfl ?_
  refine WL.det (op_pick_f rfl rfl rfl) rfl rfl rfl ?_
  refine WL.det (op_move rfl) rfl rfl rfl ?_
  refine WL.yes rfl rfl rfl (ltb rfl) rfl rfl ?_
  refine WL.det (op_move rfl) rfl rfl rfl ?_
  refine WL.yes rfl rfl rfl (ltb rfl) rfl rfl ?_
  refine WL.det (op_move rfl) rfl rfl rfl ?_
  refine WL.yes rfl rfl rfl (ltb rfl) rfl rfl ?_
  refine WL.det (op_nei rfl rfl) rfl rfl rfl ?_
  refine WL.det (op_pick_f rfl rfl rfl) rfl rfl rfl ?_
  refine WL.end ?_
  refine NE.code ?_
  refine CE.cond_f rfl rfl ?_
  refine CE.skip' ?_
  refine NE.code ?_
  refine CE.seq ?_
  refine CE.region ?_
  refine WL.det (op_assign rfl) rfl rfl rfl ?_
  refine WL.end ?_
  refine NE.code ?_
  refine CE.seq ?_
  refine CE.region ?_
  refine WL.det (op_loadA (i := 0) (cs := [vS b'2 0 nLr c'2, vI ((z.i : Nat) : Int), vI Tk, vF Tc0, vF Tc1, vF Tc2, vF (z.t0), vF (z.t1), vI Dk, vF Dc0, vF Dc1, vF Dc2, vF (z.d0), vF (z.d1), vF g]) rfl Try.isAgg33 Try.sizeOf33 ((((((((((((((((((((r16.ext m13).ext m14).ext md1).ext m15).ext m16).ext m17).ext m18).mod m19 (nC (lG (lL (lL r8.lt (lT (lT m8.size m9.size) m10.size)) lR)) nN)).ext m20).ext m21).mod m22 (nC (lG (lL r12.lt lR)) nN)).mod m23 (nC (lG (lL r13.lt lR)) nN)).ext m24).ext m25).ext m26).ext m27).ext m28).mod m29 (nC (lE (lL (lL r14.lt (lT (lT (lT (lT (lT (lT (lT (lT (lT (lT (lT (lT (lT (lT (lT (lT m12.size m13.size) m14.size) md1.size) m15.size) m16.size) m17.size) m18.size) m19.size) m20.size) m21.size) m22.size) m23.size) m24.size) m25.size) m26.size) m27.size)) lR)) nN)).ext m30).ext m31).rng rfl rfl rfl) rfl rfl rfl ?_
  refine WL.det (op_move rfl) rfl rfl rfl ?_
  refine WL.call (oc_call (vs := [.agg #[vS b'2 0 nLr c'2, vI ((z.i : Nat) : Int), vI Tk, vF Tc0, vF Tc1, vF Tc2, vF (z.t0), vF (z.t1), vI Dk, vF Dc0, vF Dc1, vF Dc2, vF (z.d0), vF (z.d1), vF g], vI 1]) (cap := []) rfl rfl rfl Try.call29 (c_heldString nLr c'2 b'2 (marks z.xs 1 nLr) ((z.i : Nat) : Int) Tk Tc0 Tc1 Tc2 (z.t0) (z.t1) Dk Dc0 Dc1 Dc2 (z.d0) (z.d1) g 1 (marks_len h4 (Nat.le_refl _)) (by omega) (by omega) (by first | assumption | exact marks_held _ _ _) w32 (((((((((r19.mod m23 (nC ne2 nN)).ext m24).ext m25).ext m26).ext m27).ext m28).mod m29 (nC (lE (lL (lL r12.lt (lT (lT (lT (lT (lT (lT (lT (lT (lT (lT (lT (lT (lT (lT (lT (lT (lT m11.size m12.size) m13.size) m14.size) md1.size) m15.size) m16.size) m17.size) m18.size) m19.size) m20.size) m21.size) m22.size) m23.size) m24.size) m25.size) m26.size) m27.size)) lR)) nN)).ext m30).ext m31).rng)) rfl rfl (ltb rfl) ?_
  rintro _ w33 ⟨rfl, m32⟩
  refine WL.det (op_assign rfl) rfl rfl rfl ?_
  refine WL.end ?_
  refine NE.code ?_
  refine CE.seq ?_
  refine CE.seq ?_
  refine CE.region ?_
  refine WL.det (op_move rfl) rfl rfl rfl ?_
  refine WL.det (op_lti_f rfl rfl (by omega)) rfl rfl rfl ?_
  refine WL.end ?_
  refine NE.code ?_
  refine CE.cond_f rfl rfl ?_
  refine CE.skip' ?_
  refine NE.code ?_
  refine CE.seq ?_
  refine CE.region ?_
  refine WL.det (op_move rfl) rfl rfl rfl ?_
  refine WL.det (op_move rfl) rfl rfl rfl ?_
  refine WL.call (oc_call (vs := [.slice A'2 q c3'2, vI ((1 + nLr : Nat) : Int)]) (cap := []) rfl rfl rfl Try.call46 (c_held32 q c3'2 A'2 e'2 0 (marks ou (1 + nLr) q) (1 + nLr) (marks_len h5 (Nat.le_refl _)) h6 (by omega) (by omega) (by first | assumption | exact marks_held _ _ _) w33 (((((((((r20.ext m24).ext m25).ext m26).ext m27).ext m28).mod m29 (nC (lE (lL (lL r13.lt (lT (lT (lT (lT (lT (lT (lT (lT (lT (lT (lT (lT (lT (lT (lT (lT (lT m11.size m12.size) m13.size) m14.size) md1.size) m15.size) m16.size) m17.size) m18.size) m19.size) m20.size) m21.size) m22.size) m23.size) m24.size) m25.size) m26.size) m27.size)) lR)) nN)).ext m30).ext m31).ext m32).rng)) rfl rfl (ltb rfl) ?_
  rintro _ w34 ⟨rfl, m33⟩
  refine WL.det (op_assign rfl) rfl rfl rfl ?_
  refine WL.end ?_
  refine NE.code ?_
  refine CE.seq ?_
  refine CE.seq ?_
  refine CE.region ?_
  refine WL.det (op_move rfl) rfl rfl rfl ?_
  refine WL.det (op_lti_f rfl rfl (by omega)) rfl rfl rfl ?_
  refine WL.end ?_
  refine NE.code ?_
  refine CE.cond_f rfl rfl ?_
  refine CE.skip' ?_
  refine NE.code ?_
  refine CE.seq ?_
  refine CE.seq ?_
  refine CE.region ?_
  refine WL.det (op_move rfl) rfl rfl rfl ?_
  refine WL.det (op_move rfl) rfl rfl rfl ?_
  refine WL.det (op_nei_f rfl rfl rfl) rfl rfl rfl ?_
  refine WL.end ?_
  refine NE.code ?_
  refine CE.cond_f rfl rfl ?_
  refine CE.skip' ?_
  refine NE.code ?_
  refine CE.seq ?_
  refine CE.region ?_
  refine WL.det (op_assign rfl) rfl rfl rfl ?_
  refine WL.end ?_
  refine NE.code ?_
  refine CE.ret' ?_
  refine XE.leave1 Try.results9 rfl ?_
  refine ⟨rfl, (((((((((((((((((((((((((((((((((((Mod.refl [] w).nt m1).nt m2).nt m3).nt m4).nt m5).then m6 ((aC (.inr (lT (lT (lT (lT m1.size m2.size) m3.size) m4.size) lR)) aN))).nt m7).nt m8).then m9 ((aC (.inr (lT (lT (lT (lT (lT (lT (lT m1.size m2.size) m3.size) m4.size) m5.size) m6.size) m7.size) lR)) aN))).nt m10).nt m11).then m12 ((aC (.inr (lT (lT (lT (lT (lT (lT (lT (lT (lT (lT m1.size m2.size) m3.size) m4.size) m5.size) m6.size) m7.size) m8.size) m9.size) m10.size) lR)) aN))).nt m13).nt m14).nt md1).nt m15).nt m16).nt m17).nt m18).then m19 ((aC (.inr (lT (lT (lT (lT (lT (lT m1.size m2.size) m3.size) m4.size) m5.size) m6.size) ge4)) aN))).nt m20).nt m21).then m22 ((aC (.inr (lT (lT (lT (lT (lT (lT (lT (lT (lT m1.size m2.size) m3.size) m4.size) m5.size) m6.size) m7.size) m8.size) m9.size) ge5)) aN))).then m23 ((aC (.inr (lT (lT (lT (lT (lT (lT (lT (lT (lT m1.size m2.size) m3.size) m4.size) m5.size) m6.size) m7.size) m8.size) m9.size) ge6)) aN))).nt m24).nt m25).nt m26).nt m27).nt m28).then m29 ((aC (.inr (lT (lT (lT (lT (lT (lT (lT (lT (lT (lT (lT (lT (lT (lT (lT (lT (lT (lT (lT (lT (lT (lT (lT (lT (lT (lT (lT (lT m1.size m2.size) m3.size) m4.size) m5.size) m6.size) m7.size) m8.size) m9.size) m10.size) m11.size) m12.size) m13.size) m14.size) md1.size) m15.size) m16.size) m17.size) m18.size) m19.size) m20.size) m21.size) m22.size) m23.size) m24.size) m25.size) m26.size) m27.size) lR)) aN))).nt m30).nt m31).nt m32).nt m33)⟩

end Go.Proofs.Ytabfdgpldcegiaa
