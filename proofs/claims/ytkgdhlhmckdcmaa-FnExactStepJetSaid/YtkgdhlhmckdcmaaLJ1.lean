/- The law on a step of a jet, walked. -/
import Derived.Test.YtkgdhlhmckdcmaaH3
import Derived.Test.YtkgdhlhmckdcmaaE8
set_option linter.unusedVariables false
set_option linter.unusedSimpArgs false
namespace Go.Proofs.Ytkgdhlhmckdcmaa

set_option maxRecDepth 100000 in
set_option maxHeartbeats 2000000 in
theorem law_stepjet (nTr : Nat) (cTr : Nat) (ATr : Option Addr) (bTr : Nat) (oTr : Nat) (xTr : List Nat) (nBr : Nat) (cBr : Nat) (ABr : Option Addr) (bBr : Nat) (oBr : Nat) (xBr : List Nat) (Lk : Int) (Lc0 : Nat) (Lc1 : Nat) (Lc2 : Nat) (Ls0 : Nat) (Ls1 : Nat) (Dk : Int) (Dc0 : Nat) (Dc1 : Nat) (Dc2 : Nat) (Ds0 : Nat) (Ds1 : Nat) (ne : Nat) (fa : Nat) (i : Nat) (h : Nat) (a : Nat) (lnTr : xTr.length = nTr) (hATr : 0 < nTr → ATr = some ⟨bTr, oTr, none⟩) (lnBr : xBr.length = nBr) (hABr : 0 < nBr → ABr = some ⟨bBr, oBr, none⟩) (wTr : W32 xTr) (wBr : W32 xBr) (hi : i < nTr) (hh : h < nBr) (hn : nTr ≤ 1024) (hm : nBr ≤ 1024) (lLs0 : Ls0 < wid .f32) (lLs1 : Ls1 < wid .f32) (lDs0 : Ds0 < wid .f32) (lDs1 : Ds1 < wid .f32) (hv : vJet nTr ((i : Nat) : Int) nBr ((h : Nat) : Int) xTr xBr Lk Lc0 Lc1 Lc2 Ls0 Ls1 Dk Dc0 Dc1 Dc2 Ds0 Ds1 ne fa = true) (la : a < wid .f32) (w : World) (rTr : Rng w bTr oTr (fl xTr)) (rBr : Rng w bBr oBr (fl xBr)) : Cl Try.prog 6 #[.agg #[.slice ATr nTr cTr, vI ((i : Nat) : Int), .slice ABr nBr cBr, vI ((h : Nat) : Int), vI Lk, vF Lc0, vF Lc1, vF Lc2, vF Ls0, vF Ls1, vI Dk, vF Dc0, vF Dc1, vF Dc2, vF Ds0, vF Ds1, vF ne, vF fa], vF a] w fun v w' => v = .bool true ∧ Mod [] w w' := by
  refine Cl.of Try.func6 Try.ntmps6 rfl rfl (ρ := [(0, .agg #[.slice ATr nTr cTr, vI ((i : Nat) : Int), .slice ABr nBr cBr, vI ((h : Nat) : Int), vI Lk, vF Lc0, vF Lc1, vF Lc2, vF Ls0, vF Ls1, vI Dk, vF Dc0, vF Dc1, vF Dc2, vF Ds0, vF Ds1, vF ne, vF fa]), (1, vF a)]) rfl ?_
  refine CE.seq ?_
  refine CE.region ?_
  refine WL.op (op_box (cs := [.slice ATr nTr cTr, vI ((i : Nat) : Int), .slice ABr nBr cBr, vI ((h : Nat) : Int), vI Lk, vF Lc0, vF Lc1, vF Lc2, vF Ls0, vF Ls1, vI Dk, vF Dc0, vF Dc1, vF Dc2, vF Ds0, vF Ds1, vF ne, vF fa]) rfl rfl) rfl rfl (ltb rfl) ?_
  rintro _ w1 ⟨rfl, r1, m1, z1⟩
  refine WL.det (op_assign rfl) rfl rfl rfl ?_
  refine WL.end ?_
  refine NE.code ?_
  refine CE.seq ?_
  refine CE.region ?_
  refine WL.det (op_assign rfl) rfl rfl rfl ?_
  refine WL.end ?_
  refine NE.code ?_
  refine CE.seq ?_
  refine CE.region ?_
  refine WL.det (op_loadA (i := 0) (cs := [.slice ATr nTr cTr, vI ((i : Nat) : Int), .slice ABr nBr cBr, vI ((h : Nat) : Int), vI Lk, vF Lc0, vF Lc1, vF Lc2, vF Ls0, vF Ls1, vI Dk, vF Dc0, vF Dc1, vF Dc2, vF Ds0, vF Ds1, vF ne, vF fa]) rfl Try.isAgg58 Try.sizeOf58 r1.rng rfl rfl rfl) rfl rfl rfl ?_
  refine WL.det (op_move rfl) rfl rfl rfl ?_
  refine WL.call (oc_call (vs := [.agg #[.slice ATr nTr cTr, vI ((i : Nat) : Int), .slice ABr nBr cBr, vI ((h : Nat) : Int), vI Lk, vF Lc0, vF Lc1, vF Lc2, vF Ls0, vF Ls1, vI Dk, vF Dc0, vF Dc1, vF Dc2, vF Ds0, vF Ds1, vF ne, vF fa], vI 1048576]) (cap := []) rfl rfl rfl Try.call30 (c_szJet 1048576 nTr cTr ATr ((i : Nat) : Int) nBr cBr ABr ((h : Nat) : Int) Lk Lc0 Lc1 Lc2 Ls0 Ls1 Dk Dc0 Dc1 Dc2 Ds0 Ds1 ne fa (by omega) (by omega) w1)) rfl rfl (ltb rfl) ?_
  rintro _ w2 ⟨rfl, m2⟩
  refine WL.det (op_assign rfl) rfl rfl rfl ?_
  refine WL.end ?_
  refine NE.code ?_
  refine CE.seq ?_
  refine CE.seq ?_
  refine CE.region ?_
  refine WL.det (op_move rfl) rfl rfl rfl ?_
  refine WL.det (op_lti_f rfl rfl (by omega)) rfl rfl rfl ?_
  refine WL.end ?_
  refine NE.code ?_
  refine CE.cond_f rfl rfl ?_
  refine CE.skip' ?_
  refine NE.code ?_
  refine CE.seq ?_
  refine CE.region ?_
  refine WL.det (op_loadA (i := 0) (cs := [.slice ATr nTr cTr, vI ((i : Nat) : Int), .slice ABr nBr cBr, vI ((h : Nat) : Int), vI Lk, vF Lc0, vF Lc1, vF Lc2, vF Ls0, vF Ls1, vI Dk, vF Dc0, vF Dc1, vF Dc2, vF Ds0, vF Ds1, vF ne, vF fa]) rfl Try.isAgg58 Try.sizeOf58 (r1.ext m2).rng rfl rfl rfl) rfl rfl rfl ?_
  refine WL.call (oc_call (vs := [.agg #[.slice ATr nTr cTr, vI ((i : Nat) : Int), .slice ABr nBr cBr, vI ((h : Nat) : Int), vI Lk, vF Lc0, vF Lc1, vF Lc2, vF Ls0, vF Ls1, vI Dk, vF Dc0, vF Dc1, vF Dc2, vF Ds0, vF Ds1, vF ne, vF fa]]) (cap := []) rfl rfl rfl Try.call32 (c_toJet nTr cTr ATr bTr oTr xTr ((i : Nat) : Int) nBr cBr ABr bBr oBr xBr ((h : Nat) : Int) Lk Lc0 Lc1 Lc2 Ls0 Ls1 Dk Dc0 Dc1 Dc2 Ds0 Ds1 ne fa lnTr hATr lnBr hABr (by omega) (by omega) w2 ((rTr.ext m1).ext m2) ((rBr.ext m1).ext m2))) rfl rfl (ltb rfl) ?_
  rintro _ w3 ⟨bTr'1, bBr'1, rfl, r2, r3, ge1, ge2, ne1, m3⟩
  refine WL.det (op_move rfl) rfl rfl rfl ?_
  refine WL.call (oc_call (vs := [.agg #[vS bTr'1 0 nTr nTr, vI ((i : Nat) : Int), vS bBr'1 0 nBr nBr, vI ((h : Nat) : Int), vI Lk, vF Lc0, vF Lc1, vF Lc2, vF Ls0, vF Ls1, vI Dk, vF Dc0, vF Dc1, vF Dc2, vF Ds0, vF Ds1, vF ne, vF fa], vF a]) (cap := []) rfl rfl rfl Try.call31 (c_sStepJet nTr nTr bTr'1 xTr nBr nBr bBr'1 xBr i h Lk Lc0 Lc1 Lc2 Ls0 Ls1 Dk Dc0 Dc1 Dc2 Ds0 Ds1 ne fa a lnTr lnBr (by omega) (by omega) (by omega) (by omega) (by first | assumption | exact W32.get (by assumption) _ | decide +kernel) (by first | assumption | exact W32.get (by assumption) _ | decide +kernel) (by first | assumption | exact W32.get (by assumption) _ | decide +kernel) (by first | assumption | exact W32.get (by assumption) _ | decide +kernel) (by first | assumption | exact W32.set (by assumption) (by first | assumption | exact wid_lt (by assumption)) | exact W32.zeros _ | exact W32.nil) (by first | assumption | exact W32.set (by assumption) (by first | assumption | exact wid_lt (by assumption)) | exact W32.zeros _ | exact W32.nil) la (by assumption) w3 r2.rng r3.rng)) rfl rfl (ltb rfl) ?_
  rintro _ w4 ⟨b'1, c'1, d'1, c2'1, rfl, r4, r5, ge3, ge4, ne2, m4⟩
  refine WL.det (op_move rfl) rfl rfl rfl ?_
  refine WL.det (op_extract rfl rfl) rfl rfl rfl ?_
  refine WL.det (op_extract rfl rfl) rfl rfl rfl ?_
  refine WL.det (op_extract rfl rfl) rfl rfl rfl ?_
  refine WL.op (op_alloc (cs := [.slice none 0 0, vI 0, .slice none 0 0, vI 0, vI 0, vF 0, vF 0, vF 0, vF 0, vF 0, vI 0, vF 0, vF 0, vF 0, vF 0, vF 0, vF 0, vF 0]) Try.zeroValue61 rfl) rfl rfl (ltb rfl) ?_
  rintro _ w5 ⟨rfl, r6, m5, z2⟩
  refine WL.op0 (op_store (i := 0) (cs := [vS b'1 0 nTr c'1, vI (((i + 1) % nTr : Nat) : Int), vS d'1 0 nBr c2'1, vI (((h + 1) % nBr : Nat) : Int), vI Lk, vF Lc0, vF Lc1, vF Lc2, vF (stepS Lk Lc0 Lc1 Lc2 Ls0 Ls1 (xBr.getD h 0)), vF (stepT Lk Lc0 Lc1 Lc2 Ls0 Ls1 (xBr.getD h 0)), vI Dk, vF Dc0, vF Dc1, vF Dc2, vF (stepS Dk Dc0 Dc1 Dc2 Ds0 Ds1 (stepY Lk Lc0 Lc1 Lc2 Ls0 Ls1 (xBr.getD h 0))), vF (stepT Dk Dc0 Dc1 Dc2 Ds0 Ds1 (stepY Lk Lc0 Lc1 Lc2 Ls0 Ls1 (xBr.getD h 0))), vF ne, vF fa]) rfl rfl rfl Try.sizeOf61 rfl r6 rfl (lB rfl) rfl) rfl rfl ?_
  rintro _ w6 ⟨r7, m6, z3⟩
  have r8 : Row w6 w4.heap.size 0 [vS b'1 0 nTr c'1, vI (((i + 1) % nTr : Nat) : Int), vS d'1 0 nBr c2'1, vI (((h + 1) % nBr : Nat) : Int), vI Lk, vF Lc0, vF Lc1, vF Lc2, vF (stepS Lk Lc0 Lc1 Lc2 Ls0 Ls1 (xBr.getD h 0)), vF (stepT Lk Lc0 Lc1 Lc2 Ls0 Ls1 (xBr.getD h 0)), vI Dk, vF Dc0, vF Dc1, vF Dc2, vF (stepS Dk Dc0 Dc1 Dc2 Ds0 Ds1 (stepY Lk Lc0 Lc1 Lc2 Ls0 Ls1 (xBr.getD h 0))), vF (stepT Dk Dc0 Dc1 Dc2 Ds0 Ds1 (stepY Lk Lc0 Lc1 Lc2 Ls0 Ls1 (xBr.getD h 0))), vF ne, vF fa] := Row.congr r7 rfl
  refine WL.det (op_assign rfl) rfl rfl rfl ?_
  refine WL.det (op_assign rfl) rfl rfl rfl ?_
  refine WL.end ?_
  refine NE.code ?_
  refine CE.seq ?_
  refine CE.region ?_
  refine WL.det (op_loadA (i := 0) (cs := [.slice ATr nTr cTr, vI ((i : Nat) : Int), .slice ABr nBr cBr, vI ((h : Nat) : Int), vI Lk, vF Lc0, vF Lc1, vF Lc2, vF Ls0, vF Ls1, vI Dk, vF Dc0, vF Dc1, vF Dc2, vF Ds0, vF Ds1, vF ne, vF fa]) rfl Try.isAgg58 Try.sizeOf58 (((((r1.ext m2).ext m3).ext m4).ext m5).mod m6 (nC (lE (lL (lL r1.lt (lT (lT m2.size m3.size) m4.size)) lR)) nN)).rng rfl rfl rfl) rfl rfl rfl ?_
  refine WL.call (oc_call (vs := [.agg #[.slice ATr nTr cTr, vI ((i : Nat) : Int), .slice ABr nBr cBr, vI ((h : Nat) : Int), vI Lk, vF Lc0, vF Lc1, vF Lc2, vF Ls0, vF Ls1, vI Dk, vF Dc0, vF Dc1, vF Dc2, vF Ds0, vF Ds1, vF ne, vF fa]]) (cap := []) rfl rfl rfl Try.call32 (c_toJet nTr cTr ATr bTr oTr xTr ((i : Nat) : Int) nBr cBr ABr bBr oBr xBr ((h : Nat) : Int) Lk Lc0 Lc1 Lc2 Ls0 Ls1 Dk Dc0 Dc1 Dc2 Ds0 Ds1 ne fa lnTr hATr lnBr hABr (by omega) (by omega) w6 (Rng.youngS rTr (((((rTr.ext m1).ext m2).ext m3).ext m4).ext m5) m6 (allge_cons (lT (lT (lT (lT m1.size m2.size) m3.size) m4.size) lR) allge_nil)) (Rng.youngS rBr (((((rBr.ext m1).ext m2).ext m3).ext m4).ext m5) m6 (allge_cons (lT (lT (lT (lT m1.size m2.size) m3.size) m4.size) lR) allge_nil)))) rfl rfl (ltb rfl) ?_
  rintro _ w7 ⟨bTr'2, bBr'2, rfl, r9, r10, ge5, ge6, ne3, m7⟩
  refine WL.op (op_alloc (cs := [.slice none 0 0, vI 0, .slice none 0 0, vI 0, vI 0, vF 0, vF 0, vF 0, vF 0, vF 0, vI 0, vF 0, vF 0, vF 0, vF 0, vF 0, vF 0, vF 0]) Try.zeroValue61 rfl) rfl rfl (ltb rfl) ?_
  rintro _ w8 ⟨rfl, r11, m8, z4⟩
  refine WL.op0 (op_store (i := 0) (cs := [vS bTr'2 0 nTr nTr, vI ((i : Nat) : Int), vS bBr'2 0 nBr nBr, vI ((h : Nat) : Int), vI Lk, vF Lc0, vF Lc1, vF Lc2, vF Ls0, vF Ls1, vI Dk, vF Dc0, vF Dc1, vF Dc2, vF Ds0, vF Ds1, vF ne, vF fa]) rfl rfl rfl Try.sizeOf61 rfl r11 rfl (lB rfl) rfl) rfl rfl ?_
  rintro _ w9 ⟨r12, m9, z5⟩
  have r13 : Row w9 w7.heap.size 0 [vS bTr'2 0 nTr nTr, vI ((i : Nat) : Int), vS bBr'2 0 nBr nBr, vI ((h : Nat) : Int), vI Lk, vF Lc0, vF Lc1, vF Lc2, vF Ls0, vF Ls1, vI Dk, vF Dc0, vF Dc1, vF Dc2, vF Ds0, vF Ds1, vF ne, vF fa] := Row.congr r12 rfl
  refine WL.end ?_
  refine NE.code ?_
  refine CE.seq ?_
  refine CE.region ?_
  refine WL.det (op_loadA (i := 0) (cs := [vS bTr'2 0 nTr nTr, vI ((i : Nat) : Int), vS bBr'2 0 nBr nBr, vI ((h : Nat) : Int), vI Lk, vF Lc0, vF Lc1, vF Lc2, vF Ls0, vF Ls1, vI Dk, vF Dc0, vF Dc1, vF Dc2, vF Ds0, vF Ds1, vF ne, vF fa]) rfl Try.isAgg61 Try.sizeOf61 r13.rng rfl rfl rfl) rfl rfl rfl ?_
  refine WL.det (op_move rfl) rfl rfl rfl ?_
  refine WL.call (oc_call (vs := [.agg #[vS bTr'2 0 nTr nTr, vI ((i : Nat) : Int), vS bBr'2 0 nBr nBr, vI ((h : Nat) : Int), vI Lk, vF Lc0, vF Lc1, vF Lc2, vF Ls0, vF Ls1, vI Dk, vF Dc0, vF Dc1, vF Dc2, vF Ds0, vF Ds1, vF ne, vF fa], vF a]) (cap := []) rfl rfl rfl Try.call33 (c_iStepJet nTr nTr bTr'2 xTr nBr nBr bBr'2 xBr i h Lk Lc0 Lc1 Lc2 Ls0 Ls1 Dk Dc0 Dc1 Dc2 Ds0 Ds1 ne fa a lnTr lnBr (by omega) (by omega) (by omega) (by omega) (by first | assumption | exact W32.get (by assumption) _ | decide +kernel) (by first | assumption | exact W32.get (by assumption) _ | decide +kernel) (by first | assumption | exact W32.get (by assumption) _ | decide +kernel) (by first | assumption | exact W32.get (by assumption) _ | decide +kernel) (by first | assumption | exact W32.set (by assumption) (by first | assumption | exact wid_lt (by assumption)) | exact W32.zeros _ | exact W32.nil) (by first | assumption | exact W32.set (by assumption) (by first | assumption | exact wid_lt (by assumption)) | exact W32.zeros _ | exact W32.nil) la (by assumption) w9 ((r9.ext m8).mod m9 (nC (lE (lL r9.lt lR)) nN)).rng ((r10.ext m8).mod m9 (nC (lE (lL r10.lt lR)) nN)).rng)) rfl rfl (ltb rfl) ?_
  rintro _ w10 ⟨b'2, c'2, d'2, c2'2, rfl, r14, r15, ge7, ge8, ne4, m10⟩
  refine WL.det (op_move rfl) rfl rfl rfl ?_
  refine WL.det (op_extract rfl rfl) rfl rfl rfl ?_
  refine WL.det (op_extract rfl rfl) rfl rfl rfl ?_
  refine WL.det (op_extract rfl rfl) rfl rfl rfl ?_
  refine WL.op (op_alloc (cs := [.slice none 0 0, vI 0, .slice none 0 0, vI 0, vI 0, vF 0, vF 0, vF 0, vF 0, vF 0, vI 0, vF 0, vF 0, vF 0, vF 0, vF 0, vF 0, vF 0]) Try.zeroValue61 rfl) rfl rfl (ltb rfl) ?_
  rintro _ w11 ⟨rfl, r16, m11, z6⟩
  refine WL.op0 (op_store (i := 0) (cs := [vS b'2 0 nTr c'2, vI (((i + 1) % nTr : Nat) : Int), vS d'2 0 nBr c2'2, vI (((h + 1) % nBr : Nat) : Int), vI Lk, vF Lc0, vF Lc1, vF Lc2, vF (stepS Lk Lc0 Lc1 Lc2 Ls0 Ls1 (xBr.getD h 0)), vF (stepT Lk Lc0 Lc1 Lc2 Ls0 Ls1 (xBr.getD h 0)), vI Dk, vF Dc0, vF Dc1, vF Dc2, vF (stepS Dk Dc0 Dc1 Dc2 Ds0 Ds1 (stepY Lk Lc0 Lc1 Lc2 Ls0 Ls1 (xBr.getD h 0))), vF (stepT Dk Dc0 Dc1 Dc2 Ds0 Ds1 (stepY Lk Lc0 Lc1 Lc2 Ls0 Ls1 (xBr.getD h 0))), vF ne, vF fa]) rfl rfl rfl Try.sizeOf61 rfl r16 rfl (lB rfl) rfl) rfl rfl ?_
  rintro _ w12 ⟨r17, m12, z7⟩
  have r18 : Row w12 w10.heap.size 0 [vS b'2 0 nTr c'2, vI (((i + 1) % nTr : Nat) : Int), vS d'2 0 nBr c2'2, vI (((h + 1) % nBr : Nat) : Int), vI Lk, vF Lc0, vF Lc1, vF Lc2, vF (stepS Lk Lc0 Lc1 Lc2 Ls0 Ls1 (xBr.getD h 0)), vF (stepT Lk Lc0 Lc1 Lc2 Ls0 Ls1 (xBr.getD h 0)), vI Dk, vF Dc0, vF Dc1, vF Dc2, vF (stepS Dk Dc0 Dc1 Dc2 Ds0 Ds1 (stepY Lk Lc0 Lc1 Lc2 Ls0 Ls1 (xBr.getD h 0))), vF (stepT Dk Dc0 Dc1 Dc2 Ds0 Ds1 (stepY Lk Lc0 Lc1 Lc2 Ls0 Ls1 (xBr.getD h 0))), vF ne, vF fa] := Row.congr r17 rfl
  refine WL.det (op_assign rfl) rfl rfl rfl ?_
  refine WL.det (op_assign rfl) rfl rfl rfl ?_
  refine WL.end ?_
  refine NE.code ?_
  refine CE.seq ?_
  refine CE.seq ?_
  refine CE.region ?_
  refine WL.det (op_loadA (i := 0) (cs := [vS b'2 0 nTr c'2, vI (((i + 1) % nTr : Nat) : Int), vS d'2 0 nBr c2'2, vI (((h + 1) % nBr : Nat) : Int), vI Lk, vF Lc0, vF Lc1, vF Lc2, vF (stepS Lk Lc0 Lc1 Lc2 Ls0 Ls1 (xBr.getD h 0)), vF (stepT Lk Lc0 Lc1 Lc2 Ls0 Ls1 (xBr.getD h 0)), vI Dk, vF Dc0, vF Dc1, vF Dc2, vF (stepS Dk Dc0 Dc1 Dc2 Ds0 Ds1 (stepY Lk Lc0 Lc1 Lc2 Ls0 Ls1 (xBr.getD h 0))), vF (stepT Dk Dc0 Dc1 Dc2 Ds0 Ds1 (stepY Lk Lc0 Lc1 Lc2 Ls0 Ls1 (xBr.getD h 0))), vF ne, vF fa]) rfl Try.isAgg61 Try.sizeOf61 r18.rng rfl rfl rfl) rfl rfl rfl ?_
  refine WL.det (op_loadA (i := 0) (cs := [vS b'1 0 nTr c'1, vI (((i + 1) % nTr : Nat) : Int), vS d'1 0 nBr c2'1, vI (((h + 1) % nBr : Nat) : Int), vI Lk, vF Lc0, vF Lc1, vF Lc2, vF (stepS Lk Lc0 Lc1 Lc2 Ls0 Ls1 (xBr.getD h 0)), vF (stepT Lk Lc0 Lc1 Lc2 Ls0 Ls1 (xBr.getD h 0)), vI Dk, vF Dc0, vF Dc1, vF Dc2, vF (stepS Dk Dc0 Dc1 Dc2 Ds0 Ds1 (stepY Lk Lc0 Lc1 Lc2 Ls0 Ls1 (xBr.getD h 0))), vF (stepT Dk Dc0 Dc1 Dc2 Ds0 Ds1 (stepY Lk Lc0 Lc1 Lc2 Ls0 Ls1 (xBr.getD h 0))), vF ne, vF fa]) rfl Try.isAgg61 Try.sizeOf61 ((((((r8.ext m7).ext m8).mod m9 (nC (lE (lL (lL r6.lt (lT m6.size m7.size)) lR)) nN)).ext m10).ext m11).mod m12 (nC (lE (lL (lL r6.lt (lT (lT (lT (lT m6.size m7.size) m8.size) m9.size) m10.size)) lR)) nN)).rng rfl rfl rfl) rfl rfl rfl ?_
  refine WL.call (oc_call (vs := [.agg #[vS b'2 0 nTr c'2, vI (((i + 1) % nTr : Nat) : Int), vS d'2 0 nBr c2'2, vI (((h + 1) % nBr : Nat) : Int), vI Lk, vF Lc0, vF Lc1, vF Lc2, vF (stepS Lk Lc0 Lc1 Lc2 Ls0 Ls1 (xBr.getD h 0)), vF (stepT Lk Lc0 Lc1 Lc2 Ls0 Ls1 (xBr.getD h 0)), vI Dk, vF Dc0, vF Dc1, vF Dc2, vF (stepS Dk Dc0 Dc1 Dc2 Ds0 Ds1 (stepY Lk Lc0 Lc1 Lc2 Ls0 Ls1 (xBr.getD h 0))), vF (stepT Dk Dc0 Dc1 Dc2 Ds0 Ds1 (stepY Lk Lc0 Lc1 Lc2 Ls0 Ls1 (xBr.getD h 0))), vF ne, vF fa], .agg #[vS b'1 0 nTr c'1, vI (((i + 1) % nTr : Nat) : Int), vS d'1 0 nBr c2'1, vI (((h + 1) % nBr : Nat) : Int), vI Lk, vF Lc0, vF Lc1, vF Lc2, vF (stepS Lk Lc0 Lc1 Lc2 Ls0 Ls1 (xBr.getD h 0)), vF (stepT Lk Lc0 Lc1 Lc2 Ls0 Ls1 (xBr.getD h 0)), vI Dk, vF Dc0, vF Dc1, vF Dc2, vF (stepS Dk Dc0 Dc1 Dc2 Ds0 Ds1 (stepY Lk Lc0 Lc1 Lc2 Ls0 Ls1 (xBr.getD h 0))), vF (stepT Dk Dc0 Dc1 Dc2 Ds0 Ds1 (stepY Lk Lc0 Lc1 Lc2 Ls0 Ls1 (xBr.getD h 0))), vF ne, vF fa]]) (cap := []) rfl rfl rfl Try.call34 (c_eqJet nTr c'2 (some ⟨b'2, 0, none⟩) b'2 0 (xTr.set i (keptF (fop .sub .f32 a (fop .mul .f32 ne (stepY Dk Dc0 Dc1 Dc2 Ds0 Ds1 (stepY Lk Lc0 Lc1 Lc2 Ls0 Ls1 (xBr.getD h 0))))))) (((i + 1) % nTr : Nat) : Int) nBr c2'2 (some ⟨d'2, 0, none⟩) d'2 0 (xBr.set h (keptF (fop .add .f32 (jetF (xTr.getD i 0)) (fop .mul .f32 fa (stepY Dk Dc0 Dc1 Dc2 Ds0 Ds1 (stepY Lk Lc0 Lc1 Lc2 Ls0 Ls1 (xBr.getD h 0))))))) (((h + 1) % nBr : Nat) : Int) Lk Lc0 Lc0 Lc1 Lc1 Lc2 Lc2 (stepS Lk Lc0 Lc1 Lc2 Ls0 Ls1 (xBr.getD h 0)) (stepS Lk Lc0 Lc1 Lc2 Ls0 Ls1 (xBr.getD h 0)) (stepT Lk Lc0 Lc1 Lc2 Ls0 Ls1 (xBr.getD h 0)) (stepT Lk Lc0 Lc1 Lc2 Ls0 Ls1 (xBr.getD h 0)) Dk Dc0 Dc0 Dc1 Dc1 Dc2 Dc2 (stepS Dk Dc0 Dc1 Dc2 Ds0 Ds1 (stepY Lk Lc0 Lc1 Lc2 Ls0 Ls1 (xBr.getD h 0))) (stepS Dk Dc0 Dc1 Dc2 Ds0 Ds1 (stepY Lk Lc0 Lc1 Lc2 Ls0 Ls1 (xBr.getD h 0))) (stepT Dk Dc0 Dc1 Dc2 Ds0 Ds1 (stepY Lk Lc0 Lc1 Lc2 Ls0 Ls1 (xBr.getD h 0))) (stepT Dk Dc0 Dc1 Dc2 Ds0 Ds1 (stepY Lk Lc0 Lc1 Lc2 Ls0 Ls1 (xBr.getD h 0))) ne ne fa fa c'1 (some ⟨b'1, 0, none⟩) b'1 0 c2'1 (some ⟨d'1, 0, none⟩) d'1 0 Lc0 Lc1 Lc2 (stepS Lk Lc0 Lc1 Lc2 Ls0 Ls1 (xBr.getD h 0)) (stepT Lk Lc0 Lc1 Lc2 Ls0 Ls1 (xBr.getD h 0)) Dc0 Dc1 Dc2 (stepS Dk Dc0 Dc1 Dc2 Ds0 Ds1 (stepY Lk Lc0 Lc1 Lc2 Ls0 Ls1 (xBr.getD h 0))) (stepT Dk Dc0 Dc1 Dc2 Ds0 Ds1 (stepY Lk Lc0 Lc1 Lc2 Ls0 Ls1 (xBr.getD h 0))) ne fa ((List.length_set).trans lnTr) (fun _ => rfl) ((List.length_set).trans lnBr) (fun _ => rfl) (fun _ => rfl) (fun _ => rfl) rfl rfl rfl rfl rfl rfl rfl rfl rfl rfl rfl rfl rfl rfl rfl rfl rfl rfl rfl rfl rfl rfl rfl rfl (by omega) (by omega) w12 ((r14.ext m11).mod m12 (nC (lE (lL r14.lt lR)) nN)).rng ((r15.ext m11).mod m12 (nC (lE (lL r15.lt lR)) nN)).rng ((((((((r4.ext m5).mod m6 (nC (lE (lL r4.lt lR)) nN)).ext m7).ext m8).mod m9 (nC (lE (lL (lL r4.lt (lT (lT m5.size m6.size) m7.size)) lR)) nN)).ext m10).ext m11).mod m12 (nC (lE (lL (lL r4.lt (lT (lT (lT (lT (lT m5.size m6.size) m7.size) m8.size) m9.size) m10.size)) lR)) nN)).rng ((((((((r5.ext m5).mod m6 (nC (lE (lL r5.lt lR)) nN)).ext m7).ext m8).mod m9 (nC (lE (lL (lL r5.lt (lT (lT m5.size m6.size) m7.size)) lR)) nN)).ext m10).ext m11).mod m12 (nC (lE (lL (lL r5.lt (lT (lT (lT (lT (lT m5.size m6.size) m7.size) m8.size) m9.size) m10.size)) lR)) nN)).rng)) rfl rfl (ltb rfl) ?_
  rintro _ w13 ⟨rfl, m13⟩
  refine WL.det (op_not rfl) rfl rfl rfl ?_
  refine WL.det (op_move rfl) rfl rfl rfl ?_
  refine WL.yes rfl rfl rfl (ltb rfl) rfl rfl ?_
  refine WL.det (op_move rfl) rfl rfl rfl ?_
  refine WL.yes rfl rfl rfl (ltb rfl) rfl rfl ?_
  refine WL.op (op_widen (e := (wide (xBr.getD h 0))) rfl rfl Try.runUnderlying25 Try.runUnderlying67 rfl) rfl rfl (ltb rfl) ?_
  rintro _ w14 ⟨⟨f1, rfl, hf1, lf1⟩, m14⟩
  refine WL.yes rfl rfl rfl (ltb rfl) rfl rfl ?_
  refine WL.det (op_move rfl) rfl rfl rfl ?_
  refine WL.yes rfl rfl rfl (ltb rfl) rfl rfl ?_
  refine WL.op (op_widen (e := (wide (xBr.getD h 0))) rfl rfl Try.runUnderlying25 Try.runUnderlying67 rfl) rfl rfl (ltb rfl) ?_
  rintro _ w15 ⟨⟨f2, rfl, hf2, lf2⟩, m15⟩
  refine WL.yes rfl rfl rfl (ltb rfl) rfl rfl ?_
  refine WL.call (oc_call (vs := [.float .f64 f1, .float .f64 f2]) (cap := []) rfl rfl rfl Try.call35 (c_sameFloat f1 (wide (xBr.getD h 0)) f2 (wide (xBr.getD h 0)) hf1 hf2 w15)) rfl rfl (ltb rfl) ?_
  rintro _ w16 ⟨rfl, m16⟩
  refine WL.yes rfl rfl rfl (ltb rfl) rfl rfl ?_
  refine WL.det (op_not rfl) rfl rfl rfl ?_
  refine WL.det (op_pick_f rfl rfl rfl) rfl rfl rfl ?_
  refine WL.det (op_move rfl) rfl rfl rfl ?_
  refine WL.yes rfl rfl rfl (ltb rfl) rfl (bnot_t (sameF_self _)) ?_
  refine WL.det (op_move rfl) rfl rfl rfl ?_
  refine WL.yes rfl rfl rfl (ltb rfl) rfl (bnot_t (sameF_self _)) ?_
  refine WL.det (op_move rfl) rfl rfl rfl ?_
  refine WL.yes rfl rfl rfl (ltb rfl) rfl (bnot_t (sameF_self _)) ?_
  refine WL.det (op_nei rfl rfl) rfl rfl rfl ?_
  refine WL.det (op_pick_f rfl (bnot_t (sameF_self _)) rfl) rfl rfl rfl ?_
  refine WL.end ?_
  refine NE.code ?_
  refine CE.cond_f rfl rfl ?_
  refine CE.skip' ?_
  refine NE.code ?_
  refine CE.seq ?_
  refine CE.seq ?_
  refine CE.draw (fun | 2 => some (fun _ wA uA wB => ∃ (bTr' : Nat) (bBr' : Nat), uA = .agg #[vS bTr' 0 nTr nTr, vI ((i : Nat) : Int), vS bBr' 0 nBr nBr, vI ((h : Nat) : Int), vI Lk, vF Lc0, vF Lc1, vF Lc2, vF Ls0, vF Ls1, vI Dk, vF Dc0, vF Dc1, vF Dc2, vF Ds0, vF Ds1, vF ne, vF fa] ∧ Row wB bTr' 0 (fl xTr) ∧ Row wB bBr' 0 (fl xBr) ∧ wA.heap.size ≤ bTr' ∧ wA.heap.size ≤ bBr' ∧ bTr' ≠ bBr' ∧ Mod [] wA wB) | _ => none) [0, 1, 2] [3, 4] [] (by kernel_rfl) (by kernel_rfl) ?_
  have md1 : Mod [] w16 w16.drew := (Mod.refl _ _).drew
  generalize w16.drew = w17 at md1 ⊢
  refine DR.det (i := 0) rfl rfl (by kernel_rfl) (.free rfl) rfl rfl (fun wD mD => op_loadA (i := 0) (cs := [vS bTr'2 0 nTr nTr, vI ((i : Nat) : Int), vS bBr'2 0 nBr nBr, vI ((h : Nat) : Int), vI Lk, vF Lc0, vF Lc1, vF Lc2, vF Ls0, vF Ls1, vI Dk, vF Dc0, vF Dc1, vF Dc2, vF Ds0, vF Ds1, vF ne, vF fa]) rfl Try.isAgg61 Try.sizeOf61 (((((((((r13.ext m10).ext m11).mod m12 (nC (lE (lL (lL r11.lt (lT m9.size m10.size)) lR)) nN)).ext m13).ext m14).ext m15).ext m16).ext md1).ext mD).rng rfl rfl rfl) ?_
  refine DR.det (i := 1) rfl rfl (by kernel_rfl) (.free rfl) rfl rfl (fun wD mD => op_loadA (i := 0) (cs := [.slice ATr nTr cTr, vI ((i : Nat) : Int), .slice ABr nBr cBr, vI ((h : Nat) : Int), vI Lk, vF Lc0, vF Lc1, vF Lc2, vF Ls0, vF Ls1, vI Dk, vF Dc0, vF Dc1, vF Dc2, vF Ds0, vF Ds1, vF ne, vF fa]) rfl Try.isAgg58 Try.sizeOf58 (((((((((((((((((r1.ext m2).ext m3).ext m4).ext m5).mod m6 (nC (lE (lL (lL r1.lt (lT (lT m2.size m3.size) m4.size)) lR)) nN)).ext m7).ext m8).mod m9 (nC (lE (lL (lL r1.lt (lT (lT (lT (lT (lT m2.size m3.size) m4.size) m5.size) m6.size) m7.size)) lR)) nN)).ext m10).ext m11).mod m12 (nC (lE (lL (lL r1.lt (lT (lT (lT (lT (lT (lT (lT (lT m2.size m3.size) m4.size) m5.size) m6.size) m7.size) m8.size) m9.size) m10.size)) lR)) nN)).ext m13).ext m14).ext m15).ext m16).ext md1).ext mD).rng rfl rfl rfl) ?_
  refine DR.one (i := 2) rfl rfl (by kernel_rfl) (.free rfl) rfl (ltb rfl) (vs := [.func (.func 32) #[] #[], .agg #[.slice ATr nTr cTr, vI ((i : Nat) : Int), .slice ABr nBr cBr, vI ((h : Nat) : Int), vI Lk, vF Lc0, vF Lc1, vF Lc2, vF Ls0, vF Ls1, vI Dk, vF Dc0, vF Dc1, vF Dc2, vF Ds0, vF Ds1, vF ne, vF fa]]) rfl ?_
  intro w18 m17
  refine ⟨oc_call (vs := [.agg #[.slice ATr nTr cTr, vI ((i : Nat) : Int), .slice ABr nBr cBr, vI ((h : Nat) : Int), vI Lk, vF Lc0, vF Lc1, vF Lc2, vF Ls0, vF Ls1, vI Dk, vF Dc0, vF Dc1, vF Dc2, vF Ds0, vF Ds1, vF ne, vF fa]]) (cap := []) rfl rfl rfl Try.call32 (c_toJet nTr cTr ATr bTr oTr xTr ((i : Nat) : Int) nBr cBr ABr bBr oBr xBr ((h : Nat) : Int) Lk Lc0 Lc1 Lc2 Ls0 Ls1 Dk Dc0 Dc1 Dc2 Ds0 Ds1 ne fa lnTr hATr lnBr hABr (by omega) (by omega) w18 (((((((Rng.youngS rTr (((Rng.youngS rTr (((Rng.youngS rTr (((((rTr.ext m1).ext m2).ext m3).ext m4).ext m5) m6 (allge_cons (lT (lT (lT (lT m1.size m2.size) m3.size) m4.size) lR) allge_nil)).ext m7).ext m8) m9 (allge_cons (lT (lT (lT (lT (lT (lT (lT m1.size m2.size) m3.size) m4.size) m5.size) m6.size) m7.size) lR) allge_nil)).ext m10).ext m11) m12 (allge_cons (lT (lT (lT (lT (lT (lT (lT (lT (lT (lT m1.size m2.size) m3.size) m4.size) m5.size) m6.size) m7.size) m8.size) m9.size) m10.size) lR) allge_nil)).ext m13).ext m14).ext m15).ext m16).ext md1).ext m17) (((((((Rng.youngS rBr (((Rng.youngS rBr (((Rng.youngS rBr (((((rBr.ext m1).ext m2).ext m3).ext m4).ext m5) m6 (allge_cons (lT (lT (lT (lT m1.size m2.size) m3.size) m4.size) lR) allge_nil)).ext m7).ext m8) m9 (allge_cons (lT (lT (lT (lT (lT (lT (lT m1.size m2.size) m3.size) m4.size) m5.size) m6.size) m7.size) lR) allge_nil)).ext m10).ext m11) m12 (allge_cons (lT (lT (lT (lT (lT (lT (lT (lT (lT (lT m1.size m2.size) m3.size) m4.size) m5.size) m6.size) m7.size) m8.size) m9.size) m10.size) lR) allge_nil)).ext m13).ext m14).ext m15).ext m16).ext md1).ext m17)), ?_⟩
  rintro _ w19 ⟨bTr'3, bBr'3, rfl, r19, r20, ge9, ge10, ne5, m18⟩
  refine ⟨(((Mod.refl [] w17).nt m17).nt m18), ?_⟩
  refine DR.done rfl ?_
  intro w20 m19
  refine WO.call rfl (.free rfl) rfl (ltb rfl) (oc_call (vs := [.agg #[vS bTr'2 0 nTr nTr, vI ((i : Nat) : Int), vS bBr'2 0 nBr nBr, vI ((h : Nat) : Int), vI Lk, vF Lc0, vF Lc1, vF Lc2, vF Ls0, vF Ls1, vI Dk, vF Dc0, vF Dc1, vF Dc2, vF Ds0, vF Ds1, vF ne, vF fa], .agg #[vS bTr'3 0 nTr nTr, vI ((i : Nat) : Int), vS bBr'3 0 nBr nBr, vI ((h : Nat) : Int), vI Lk, vF Lc0, vF Lc1, vF Lc2, vF Ls0, vF Ls1, vI Dk, vF Dc0, vF Dc1, vF Dc2, vF Ds0, vF Ds1, vF ne, vF fa]]) (cap := []) rfl rfl rfl Try.call34 (c_eqJet nTr nTr (some ⟨bTr'2, 0, none⟩) bTr'2 0 xTr ((i : Nat) : Int) nBr nBr (some ⟨bBr'2, 0, none⟩) bBr'2 0 xBr ((h : Nat) : Int) Lk Lc0 Lc0 Lc1 Lc1 Lc2 Lc2 Ls0 Ls0 Ls1 Ls1 Dk Dc0 Dc0 Dc1 Dc1 Dc2 Dc2 Ds0 Ds0 Ds1 Ds1 ne ne fa fa nTr (some ⟨bTr'3, 0, none⟩) bTr'3 0 nBr (some ⟨bBr'3, 0, none⟩) bBr'3 0 Lc0 Lc1 Lc2 Ls0 Ls1 Dc0 Dc1 Dc2 Ds0 Ds1 ne fa lnTr (fun _ => rfl) lnBr (fun _ => rfl) (fun _ => rfl) (fun _ => rfl) rfl rfl rfl rfl rfl rfl rfl rfl rfl rfl rfl rfl rfl rfl rfl rfl rfl rfl rfl rfl rfl rfl rfl rfl (by omega) (by omega) w20 (((((((((((((r9.ext m8).mod m9 (nC (lE (lL r9.lt lR)) nN)).ext m10).ext m11).mod m12 (nC (lE (lL (lL r9.lt (lT (lT m8.size m9.size) m10.size)) lR)) nN)).ext m13).ext m14).ext m15).ext m16).ext md1).ext m17).ext m18).ext m19).rng (((((((((((((r10.ext m8).mod m9 (nC (lE (lL r10.lt lR)) nN)).ext m10).ext m11).mod m12 (nC (lE (lL (lL r10.lt (lT (lT m8.size m9.size) m10.size)) lR)) nN)).ext m13).ext m14).ext m15).ext m16).ext md1).ext m17).ext m18).ext m19).rng (r19.ext m19).rng (r20.ext m19).rng)) ?_
  rintro _ w21 ⟨rfl, m20⟩
  refine WO.det (op_not rfl) rfl (.free rfl) rfl rfl ?_
  refine WO.end ?_
  refine NE.code ?_
  refine CE.cond_f rfl rfl ?_
  refine CE.skip' ?_
  refine NE.code ?_
  refine CE.seq ?_
  refine CE.region ?_
  refine WL.det (op_assign rfl) rfl rfl rfl ?_
  refine WL.end ?_
  refine NE.code ?_
  refine CE.seq ?_
  refine CE.region ?_
  refine WL.det (op_loadA (i := 0) (cs := [vS bTr'2 0 nTr nTr, vI ((i : Nat) : Int), vS bBr'2 0 nBr nBr, vI ((h : Nat) : Int), vI Lk, vF Lc0, vF Lc1, vF Lc2, vF Ls0, vF Ls1, vI Dk, vF Dc0, vF Dc1, vF Dc2, vF Ds0, vF Ds1, vF ne, vF fa]) rfl Try.isAgg61 Try.sizeOf61 ((((((((((((r13.ext m10).ext m11).mod m12 (nC (lE (lL (lL r11.lt (lT m9.size m10.size)) lR)) nN)).ext m13).ext m14).ext m15).ext m16).ext md1).ext m17).ext m18).ext m19).ext m20).rng rfl rfl rfl) rfl rfl rfl ?_
  refine WL.det (op_move rfl) rfl rfl rfl ?_
  refine WL.call (oc_call (vs := [.agg #[vS bTr'2 0 nTr nTr, vI ((i : Nat) : Int), vS bBr'2 0 nBr nBr, vI ((h : Nat) : Int), vI Lk, vF Lc0, vF Lc1, vF Lc2, vF Ls0, vF Ls1, vI Dk, vF Dc0, vF Dc1, vF Dc2, vF Ds0, vF Ds1, vF ne, vF fa], vI 1]) (cap := []) rfl rfl rfl Try.call36 (c_markJet nTr nTr bTr'2 xTr ((i : Nat) : Int) nBr nBr bBr'2 xBr ((h : Nat) : Int) Lk Lc0 Lc1 Lc2 Ls0 Ls1 Dk Dc0 Dc1 Dc2 Ds0 Ds1 ne fa 1 lnTr lnBr (by omega) (by omega) (by omega) w21 ((((((((((((((r9.ext m8).mod m9 (nC (lE (lL r9.lt lR)) nN)).ext m10).ext m11).mod m12 (nC (lE (lL (lL r9.lt (lT (lT m8.size m9.size) m10.size)) lR)) nN)).ext m13).ext m14).ext m15).ext m16).ext md1).ext m17).ext m18).ext m19).ext m20) ((((((((((((((r10.ext m8).mod m9 (nC (lE (lL r10.lt lR)) nN)).ext m10).ext m11).mod m12 (nC (lE (lL (lL r10.lt (lT (lT m8.size m9.size) m10.size)) lR)) nN)).ext m13).ext m14).ext m15).ext m16).ext md1).ext m17).ext m18).ext m19).ext m20) ne3)) rfl rfl (ltb rfl) ?_
  rintro _ w22 ⟨rfl, r21, r22, m21⟩
  refine WL.det (op_assign rfl) rfl rfl rfl ?_
  refine WL.end ?_
  refine NE.code ?_
  refine CE.seq ?_
  refine CE.seq ?_
  refine CE.region ?_
  refine WL.det (op_move rfl) rfl rfl rfl ?_
  refine WL.det (op_lti_f rfl rfl (by omega)) rfl rfl rfl ?_
  refine WL.det (op_move rfl) rfl rfl rfl ?_
  refine WL.yes rfl rfl rfl (ltb rfl) rfl rfl ?_
  refine WL.det (op_loadA (i := 0) (cs := [vS b'2 0 nTr c'2, vI (((i + 1) % nTr : Nat) : Int), vS d'2 0 nBr c2'2, vI (((h + 1) % nBr : Nat) : Int), vI Lk, vF Lc0, vF Lc1, vF Lc2, vF (stepS Lk Lc0 Lc1 Lc2 Ls0 Ls1 (xBr.getD h 0)), vF (stepT Lk Lc0 Lc1 Lc2 Ls0 Ls1 (xBr.getD h 0)), vI Dk, vF Dc0, vF Dc1, vF Dc2, vF (stepS Dk Dc0 Dc1 Dc2 Ds0 Ds1 (stepY Lk Lc0 Lc1 Lc2 Ls0 Ls1 (xBr.getD h 0))), vF (stepT Dk Dc0 Dc1 Dc2 Ds0 Ds1 (stepY Lk Lc0 Lc1 Lc2 Ls0 Ls1 (xBr.getD h 0))), vF ne, vF fa]) rfl Try.isAgg61 Try.sizeOf61 ((((((((((r18.ext m13).ext m14).ext m15).ext m16).ext md1).ext m17).ext m18).ext m19).ext m20).mod m21 (nC (lG (lL (lL r9.lt (lT (lT m8.size m9.size) m10.size)) lR)) (nC (lG (lL (lL r10.lt (lT (lT m8.size m9.size) m10.size)) lR)) nN))).rng rfl rfl rfl) rfl rfl rfl ?_
  refine WL.yes rfl rfl rfl (ltb rfl) rfl rfl ?_
  refine WL.det (op_loadA (i := 0) (cs := [vS b'1 0 nTr c'1, vI (((i + 1) % nTr : Nat) : Int), vS d'1 0 nBr c2'1, vI (((h + 1) % nBr : Nat) : Int), vI Lk, vF Lc0, vF Lc1, vF Lc2, vF (stepS Lk Lc0 Lc1 Lc2 Ls0 Ls1 (xBr.getD h 0)), vF (stepT Lk Lc0 Lc1 Lc2 Ls0 Ls1 (xBr.getD h 0)), vI Dk, vF Dc0, vF Dc1, vF Dc2, vF (stepS Dk Dc0 Dc1 Dc2 Ds0 Ds1 (stepY Lk Lc0 Lc1 Lc2 Ls0 Ls1 (xBr.getD h 0))), vF (stepT Dk Dc0 Dc1 Dc2 Ds0 Ds1 (stepY Lk Lc0 Lc1 Lc2 Ls0 Ls1 (xBr.getD h 0))), vF ne, vF fa]) rfl Try.isAgg61 Try.sizeOf61 ((((((((((((((((r8.ext m7).ext m8).mod m9 (nC (lE (lL (lL r6.lt (lT m6.size m7.size)) lR)) nN)).ext m10).ext m11).mod m12 (nC (lE (lL (lL r6.lt (lT (lT (lT (lT m6.size m7.size) m8.size) m9.size) m10.size)) lR)) nN)).ext m13).ext m14).ext m15).ext m16).ext md1).ext m17).ext m18).ext m19).ext m20).mod m21 (nC (lE (lL (lL r6.lt m6.size) ge5)) (nC (lE (lL (lL r6.lt m6.size) ge6)) nN))).rng rfl rfl rfl) rfl rfl rfl ?_
  refine WL.yes rfl rfl rfl (ltb rfl) rfl rfl ?_
  refine WL.call (oc_call (vs := [.agg #[vS b'2 0 nTr c'2, vI (((i + 1) % nTr : Nat) : Int), vS d'2 0 nBr c2'2, vI (((h + 1) % nBr : Nat) : Int), vI Lk, vF Lc0, vF Lc1, vF Lc2, vF (stepS Lk Lc0 Lc1 Lc2 Ls0 Ls1 (xBr.getD h 0)), vF (stepT Lk Lc0 Lc1 Lc2 Ls0 Ls1 (xBr.getD h 0)), vI Dk, vF Dc0, vF Dc1, vF Dc2, vF (stepS Dk Dc0 Dc1 Dc2 Ds0 Ds1 (stepY Lk Lc0 Lc1 Lc2 Ls0 Ls1 (xBr.getD h 0))), vF (stepT Dk Dc0 Dc1 Dc2 Ds0 Ds1 (stepY Lk Lc0 Lc1 Lc2 Ls0 Ls1 (xBr.getD h 0))), vF ne, vF fa], .agg #[vS b'1 0 nTr c'1, vI (((i + 1) % nTr : Nat) : Int), vS d'1 0 nBr c2'1, vI (((h + 1) % nBr : Nat) : Int), vI Lk, vF Lc0, vF Lc1, vF Lc2, vF (stepS Lk Lc0 Lc1 Lc2 Ls0 Ls1 (xBr.getD h 0)), vF (stepT Lk Lc0 Lc1 Lc2 Ls0 Ls1 (xBr.getD h 0)), vI Dk, vF Dc0, vF Dc1, vF Dc2, vF (stepS Dk Dc0 Dc1 Dc2 Ds0 Ds1 (stepY Lk Lc0 Lc1 Lc2 Ls0 Ls1 (xBr.getD h 0))), vF (stepT Dk Dc0 Dc1 Dc2 Ds0 Ds1 (stepY Lk Lc0 Lc1 Lc2 Ls0 Ls1 (xBr.getD h 0))), vF ne, vF fa]]) (cap := []) rfl rfl rfl Try.call34 (c_eqJet nTr c'2 (some ⟨b'2, 0, none⟩) b'2 0 (xTr.set i (keptF (fop .sub .f32 a (fop .mul .f32 ne (stepY Dk Dc0 Dc1 Dc2 Ds0 Ds1 (stepY Lk Lc0 Lc1 Lc2 Ls0 Ls1 (xBr.getD h 0))))))) (((i + 1) % nTr : Nat) : Int) nBr c2'2 (some ⟨d'2, 0, none⟩) d'2 0 (xBr.set h (keptF (fop .add .f32 (jetF (xTr.getD i 0)) (fop .mul .f32 fa (stepY Dk Dc0 Dc1 Dc2 Ds0 Ds1 (stepY Lk Lc0 Lc1 Lc2 Ls0 Ls1 (xBr.getD h 0))))))) (((h + 1) % nBr : Nat) : Int) Lk Lc0 Lc0 Lc1 Lc1 Lc2 Lc2 (stepS Lk Lc0 Lc1 Lc2 Ls0 Ls1 (xBr.getD h 0)) (stepS Lk Lc0 Lc1 Lc2 Ls0 Ls1 (xBr.getD h 0)) (stepT Lk Lc0 Lc1 Lc2 Ls0 Ls1 (xBr.getD h 0)) (stepT Lk Lc0 Lc1 Lc2 Ls0 Ls1 (xBr.getD h 0)) Dk Dc0 Dc0 Dc1 Dc1 Dc2 Dc2 (stepS Dk Dc0 Dc1 Dc2 Ds0 Ds1 (stepY Lk Lc0 Lc1 Lc2 Ls0 Ls1 (xBr.getD h 0))) (stepS Dk Dc0 Dc1 Dc2 Ds0 Ds1 (stepY Lk Lc0 Lc1 Lc2 Ls0 Ls1 (xBr.getD h 0))) (stepT Dk Dc0 Dc1 Dc2 Ds0 Ds1 (stepY Lk Lc0 Lc1 Lc2 Ls0 Ls1 (xBr.getD h 0))) (stepT Dk Dc0 Dc1 Dc2 Ds0 Ds1 (stepY Lk Lc0 Lc1 Lc2 Ls0 Ls1 (xBr.getD h 0))) ne ne fa fa c'1 (some ⟨b'1, 0, none⟩) b'1 0 c2'1 (some ⟨d'1, 0, none⟩) d'1 0 Lc0 Lc1 Lc2 (stepS Lk Lc0 Lc1 Lc2 Ls0 Ls1 (xBr.getD h 0)) (stepT Lk Lc0 Lc1 Lc2 Ls0 Ls1 (xBr.getD h 0)) Dc0 Dc1 Dc2 (stepS Dk Dc0 Dc1 Dc2 Ds0 Ds1 (stepY Lk Lc0 Lc1 Lc2 Ls0 Ls1 (xBr.getD h 0))) (stepT Dk Dc0 Dc1 Dc2 Ds0 Ds1 (stepY Lk Lc0 Lc1 Lc2 Ls0 Ls1 (xBr.getD h 0))) ne fa ((List.length_set).trans lnTr) (fun _ => rfl) ((List.length_set).trans lnBr) (fun _ => rfl) (fun _ => rfl) (fun _ => rfl) rfl rfl rfl rfl rfl rfl rfl rfl rfl rfl rfl rfl rfl rfl rfl rfl rfl rfl rfl rfl rfl rfl rfl rfl (by omega) (by omega) w22 ((((((((((((r14.ext m11).mod m12 (nC (lE (lL r14.lt lR)) nN)).ext m13).ext m14).ext m15).ext m16).ext md1).ext m17).ext m18).ext m19).ext m20).mod m21 (nC (lG (lL (lL r9.lt (lT m8.size m9.size)) ge7)) (nC (lG (lL (lL r10.lt (lT m8.size m9.size)) ge7)) nN))).rng ((((((((((((r15.ext m11).mod m12 (nC (lE (lL r15.lt lR)) nN)).ext m13).ext m14).ext m15).ext m16).ext md1).ext m17).ext m18).ext m19).ext m20).mod m21 (nC (lG (lL (lL r9.lt (lT m8.size m9.size)) ge8)) (nC (lG (lL (lL r10.lt (lT m8.size m9.size)) ge8)) nN))).rng ((((((((((((((((((r4.ext m5).mod m6 (nC (lE (lL r4.lt lR)) nN)).ext m7).ext m8).mod m9 (nC (lE (lL (lL r4.lt (lT (lT m5.size m6.size) m7.size)) lR)) nN)).ext m10).ext m11).mod m12 (nC (lE (lL (lL r4.lt (lT (lT (lT (lT (lT m5.size m6.size) m7.size) m8.size) m9.size) m10.size)) lR)) nN)).ext m13).ext m14).ext m15).ext m16).ext md1).ext m17).ext m18).ext m19).ext m20).mod m21 (nC (lE (lL (lL r4.lt (lT m5.size m6.size)) ge5)) (nC (lE (lL (lL r4.lt (lT m5.size m6.size)) ge6)) nN))).rng ((((((((((((((((((r5.ext m5).mod m6 (nC (lE (lL r5.lt lR)) nN)).ext m7).ext m8).mod m9 (nC (lE (lL (lL r5.lt (lT (lT m5.size m6.size) m7.size)) lR)) nN)).ext m10).ext m11).mod m12 (nC (lE (lL (lL r5.lt (lT (lT (lT (lT (lT m5.size m6.size) m7.size) m8.size) m9.size) m10.size)) lR)) nN)).ext m13).ext m14).ext m15).ext m16).ext md1).ext m17).ext m18).ext m19).ext m20).mod m21 (nC (lE (lL (lL r5.lt (lT m5.size m6.size)) ge5)) (nC (lE (lL (lL r5.lt (lT m5.size m6.size)) ge6)) nN))).rng)) rfl rfl (ltb rfl) ?_
  rintro _ w23 ⟨rfl, m22⟩
  refine WL.yes rfl rfl rfl (ltb rfl) rfl rfl ?_
  refine WL.det (op_not rfl) rfl rfl rfl ?_
  refine WL.det (op_pick_f rfl rfl rfl) rfl rfl rfl ?_
  refine WL.det (op_move rfl) rfl rfl rfl ?_
  refine WL.yes rfl rfl rfl (ltb rfl) rfl rfl ?_
  refine WL.det (op_move rfl) rfl rfl rfl ?_
  refine WL.yes rfl rfl rfl (ltb rfl) rfl rfl ?_
  refine WL.op (op_widen (e := (wide (xBr.getD h 0))) rfl rfl Try.runUnderlying25 Try.runUnderlying67 rfl) rfl rfl (ltb rfl) ?_
  rintro _ w24 ⟨⟨f3, rfl, hf3, lf3⟩, m23⟩
  refine WL.yes rfl rfl rfl (ltb rfl) rfl rfl ?_
  refine WL.det (op_move rfl) rfl rfl rfl ?_
  refine WL.yes rfl rfl rfl (ltb rfl) rfl rfl ?_
  refine WL.op (op_widen (e := (wide (xBr.getD h 0))) rfl rfl Try.runUnderlying25 Try.runUnderlying67 rfl) rfl rfl (ltb rfl) ?_
  rintro _ w25 ⟨⟨f4, rfl, hf4, lf4⟩, m24⟩
  refine WL.yes rfl rfl rfl (ltb rfl) rfl rfl ?_
  refine WL.call (oc_call (vs := [.float .f64 f3, .float .f64 f4]) (cap := []) rfl rfl rfl Try.call35 (c_sameFloat f3 (wide (xBr.getD h 0)) f4 (wide (xBr.getD h 0)) hf3 hf4 w25)) rfl rfl (ltb rfl) ?_
  rintro _ w26 ⟨rfl, m25⟩
  refine WL.yes rfl rfl rfl (ltb rfl) rfl rfl ?_
  refine WL.det (op_not rfl) rfl rfl rfl ?_
  refine WL.det (op_pick_f rfl rfl rfl) rfl rfl rfl ?_
  refine WL.det (op_move rfl) rfl rfl rfl ?_
  refine WL.yes rfl rfl rfl (ltb rfl) rfl (bnot_t (sameF_self _)) ?_
  refine WL.det (op_move rfl) rfl rfl rfl ?_
  refine WL.yes rfl rfl rfl (ltb rfl) rfl (bnot_t (sameF_self _)) ?_
  refine WL.det (op_move rfl) rfl rfl rfl ?_
  refine WL.yes rfl rfl rfl (ltb rfl) rfl (bnot_t (sameF_self _)) ?_
  refine WL.det (op_nei rfl rfl) rfl rfl rfl ?_
  refine WL.det (op_pick_f rfl (bnot_t (sameF_self _)) rfl) rfl rfl rfl ?_
  refine WL.end ?_
  refine NE.code ?_
  refine CE.cond_f rfl rfl ?_
  refine CE.skip' ?_
  refine NE.code ?_
  refine CE.seq ?_
  refine CE.region ?_
  refine WL.det (op_assign rfl) rfl rfl rfl ?_
  refine WL.end ?_
  refine NE.code ?_
  refine CE.seq ?_
  refine CE.region ?_
  refine WL.det (op_loadA (i := 0) (cs := [vS b'2 0 nTr c'2, vI (((i + 1) % nTr : Nat) : Int), vS d'2 0 nBr c2'2, vI (((h + 1) % nBr : Nat) : Int), vI Lk, vF Lc0, vF Lc1, vF Lc2, vF (stepS Lk Lc0 Lc1 Lc2 Ls0 Ls1 (xBr.getD h 0)), vF (stepT Lk Lc0 Lc1 Lc2 Ls0 Ls1 (xBr.getD h 0)), vI Dk, vF Dc0, vF Dc1, vF Dc2, vF (stepS Dk Dc0 Dc1 Dc2 Ds0 Ds1 (stepY Lk Lc0 Lc1 Lc2 Ls0 Ls1 (xBr.getD h 0))), vF (stepT Dk Dc0 Dc1 Dc2 Ds0 Ds1 (stepY Lk Lc0 Lc1 Lc2 Ls0 Ls1 (xBr.getD h 0))), vF ne, vF fa]) rfl Try.isAgg61 Try.sizeOf61 ((((((((((((((r18.ext m13).ext m14).ext m15).ext m16).ext md1).ext m17).ext m18).ext m19).ext m20).mod m21 (nC (lG (lL (lL r9.lt (lT (lT m8.size m9.size) m10.size)) lR)) (nC (lG (lL (lL r10.lt (lT (lT m8.size m9.size) m10.size)) lR)) nN))).ext m22).ext m23).ext m24).ext m25).rng rfl rfl rfl) rfl rfl rfl ?_
  refine WL.det (op_move rfl) rfl rfl rfl ?_
  refine WL.call (oc_call (vs := [.agg #[vS b'2 0 nTr c'2, vI (((i + 1) % nTr : Nat) : Int), vS d'2 0 nBr c2'2, vI (((h + 1) % nBr : Nat) : Int), vI Lk, vF Lc0, vF Lc1, vF Lc2, vF (stepS Lk Lc0 Lc1 Lc2 Ls0 Ls1 (xBr.getD h 0)), vF (stepT Lk Lc0 Lc1 Lc2 Ls0 Ls1 (xBr.getD h 0)), vI Dk, vF Dc0, vF Dc1, vF Dc2, vF (stepS Dk Dc0 Dc1 Dc2 Ds0 Ds1 (stepY Lk Lc0 Lc1 Lc2 Ls0 Ls1 (xBr.getD h 0))), vF (stepT Dk Dc0 Dc1 Dc2 Ds0 Ds1 (stepY Lk Lc0 Lc1 Lc2 Ls0 Ls1 (xBr.getD h 0))), vF ne, vF fa], vI 1]) (cap := []) rfl rfl rfl Try.call36 (c_markJet nTr c'2 b'2 (xTr.set i (keptF (fop .sub .f32 a (fop .mul .f32 ne (stepY Dk Dc0 Dc1 Dc2 Ds0 Ds1 (stepY Lk Lc0 Lc1 Lc2 Ls0 Ls1 (xBr.getD h 0))))))) (((i + 1) % nTr : Nat) : Int) nBr c2'2 d'2 (xBr.set h (keptF (fop .add .f32 (jetF (xTr.getD i 0)) (fop .mul .f32 fa (stepY Dk Dc0 Dc1 Dc2 Ds0 Ds1 (stepY Lk Lc0 Lc1 Lc2 Ls0 Ls1 (xBr.getD h 0))))))) (((h + 1) % nBr : Nat) : Int) Lk Lc0 Lc1 Lc2 (stepS Lk Lc0 Lc1 Lc2 Ls0 Ls1 (xBr.getD h 0)) (stepT Lk Lc0 Lc1 Lc2 Ls0 Ls1 (xBr.getD h 0)) Dk Dc0 Dc1 Dc2 (stepS Dk Dc0 Dc1 Dc2 Ds0 Ds1 (stepY Lk Lc0 Lc1 Lc2 Ls0 Ls1 (xBr.getD h 0))) (stepT Dk Dc0 Dc1 Dc2 Ds0 Ds1 (stepY Lk Lc0 Lc1 Lc2 Ls0 Ls1 (xBr.getD h 0))) ne fa 1 ((List.length_set).trans lnTr) ((List.length_set).trans lnBr) (by omega) (by omega) (by omega) w26 ((((((((((((((((r14.ext m11).mod m12 (nC (lE (lL r14.lt lR)) nN)).ext m13).ext m14).ext m15).ext m16).ext md1).ext m17).ext m18).ext m19).ext m20).mod m21 (nC (lG (lL (lL r9.lt (lT m8.size m9.size)) ge7)) (nC (lG (lL (lL r10.lt (lT m8.size m9.size)) ge7)) nN))).ext m22).ext m23).ext m24).ext m25) ((((((((((((((((r15.ext m11).mod m12 (nC (lE (lL r15.lt lR)) nN)).ext m13).ext m14).ext m15).ext m16).ext md1).ext m17).ext m18).ext m19).ext m20).mod m21 (nC (lG (lL (lL r9.lt (lT m8.size m9.size)) ge8)) (nC (lG (lL (lL r10.lt (lT m8.size m9.size)) ge8)) nN))).ext m22).ext m23).ext m24).ext m25) ne4)) rfl rfl (ltb rfl) ?_
  rintro _ w27 ⟨rfl, r23, r24, m26⟩
  refine WL.det (op_assign rfl) rfl rfl rfl ?_
  refine WL.end ?_
  refine NE.code ?_
  refine CE.seq ?_
  refine CE.region ?_
  refine WL.det (op_assign rfl) rfl rfl rfl ?_
  refine WL.end ?_
  refine NE.code ?_
  refine CE.seq ?_
  refine CE.region ?_
  refine WL.det (op_loadA (i := 0) (cs := [vS b'2 0 nTr c'2, vI (((i + 1) % nTr : Nat) : Int), vS d'2 0 nBr c2'2, vI (((h + 1) % nBr : Nat) : Int), vI Lk, vF Lc0, vF Lc1, vF Lc2, vF (stepS Lk Lc0 Lc1 Lc2 Ls0 Ls1 (xBr.getD h 0)), vF (stepT Lk Lc0 Lc1 Lc2 Ls0 Ls1 (xBr.getD h 0)), vI Dk, vF Dc0, vF Dc1, vF Dc2, vF (stepS Dk Dc0 Dc1 Dc2 Ds0 Ds1 (stepY Lk Lc0 Lc1 Lc2 Ls0 Ls1 (xBr.getD h 0))), vF (stepT Dk Dc0 Dc1 Dc2 Ds0 Ds1 (stepY Lk Lc0 Lc1 Lc2 Ls0 Ls1 (xBr.getD h 0))), vF ne, vF fa]) rfl Try.isAgg61 Try.sizeOf61 (((((((((((((((r18.ext m13).ext m14).ext m15).ext m16).ext md1).ext m17).ext m18).ext m19).ext m20).mod m21 (nC (lG (lL (lL r9.lt (lT (lT m8.size m9.size) m10.size)) lR)) (nC (lG (lL (lL r10.lt (lT (lT m8.size m9.size) m10.size)) lR)) nN))).ext m22).ext m23).ext m24).ext m25).mod m26 (nC (lG (lL r14.lt lR)) (nC (lG (lL r15.lt lR)) nN))).rng rfl rfl rfl) rfl rfl rfl ?_
  refine WL.det (op_move rfl) rfl rfl rfl ?_
  refine WL.call (oc_call (vs := [.agg #[vS b'2 0 nTr c'2, vI (((i + 1) % nTr : Nat) : Int), vS d'2 0 nBr c2'2, vI (((h + 1) % nBr : Nat) : Int), vI Lk, vF Lc0, vF Lc1, vF Lc2, vF (stepS Lk Lc0 Lc1 Lc2 Ls0 Ls1 (xBr.getD h 0)), vF (stepT Lk Lc0 Lc1 Lc2 Ls0 Ls1 (xBr.getD h 0)), vI Dk, vF Dc0, vF Dc1, vF Dc2, vF (stepS Dk Dc0 Dc1 Dc2 Ds0 Ds1 (stepY Lk Lc0 Lc1 Lc2 Ls0 Ls1 (xBr.getD h 0))), vF (stepT Dk Dc0 Dc1 Dc2 Ds0 Ds1 (stepY Lk Lc0 Lc1 Lc2 Ls0 Ls1 (xBr.getD h 0))), vF ne, vF fa], vI 1]) (cap := []) rfl rfl rfl Try.call37 (c_heldJet nTr c'2 b'2 (marks (xTr.set i (keptF (fop .sub .f32 a (fop .mul .f32 ne (stepY Dk Dc0 Dc1 Dc2 Ds0 Ds1 (stepY Lk Lc0 Lc1 Lc2 Ls0 Ls1 (xBr.getD h 0))))))) 1 nTr) (((i + 1) % nTr : Nat) : Int) nBr c2'2 d'2 (marks (xBr.set h (keptF (fop .add .f32 (jetF (xTr.getD i 0)) (fop .mul .f32 fa (stepY Dk Dc0 Dc1 Dc2 Ds0 Ds1 (stepY Lk Lc0 Lc1 Lc2 Ls0 Ls1 (xBr.getD h 0))))))) (1 + nTr) nBr) (((h + 1) % nBr : Nat) : Int) Lk Lc0 Lc1 Lc2 (stepS Lk Lc0 Lc1 Lc2 Ls0 Ls1 (xBr.getD h 0)) (stepT Lk Lc0 Lc1 Lc2 Ls0 Ls1 (xBr.getD h 0)) Dk Dc0 Dc1 Dc2 (stepS Dk Dc0 Dc1 Dc2 Ds0 Ds1 (stepY Lk Lc0 Lc1 Lc2 Ls0 Ls1 (xBr.getD h 0))) (stepT Dk Dc0 Dc1 Dc2 Ds0 Ds1 (stepY Lk Lc0 Lc1 Lc2 Ls0 Ls1 (xBr.getD h 0))) ne fa 1 (marks_len ((List.length_set).trans lnTr) (Nat.le_refl _)) (marks_len ((List.length_set).trans lnBr) (Nat.le_refl _)) (by omega) (by omega) (by omega) (by first | assumption | exact marks_held _ _ _) (by first | assumption | exact marks_held _ _ _) w27 r23.rng r24.rng)) rfl rfl (ltb rfl) ?_
  rintro _ w28 ⟨rfl, m27⟩
  refine WL.det (op_assign rfl) rfl rfl rfl ?_
  refine WL.end ?_
  refine NE.code ?_
  refine CE.seq ?_
  refine CE.seq ?_
  refine CE.region ?_
  refine WL.det (op_move rfl) rfl rfl rfl ?_
  refine WL.det (op_lti_f rfl rfl (by omega)) rfl rfl rfl ?_
  refine WL.end ?_
  refine NE.code ?_
  refine CE.cond_f rfl rfl ?_
  refine CE.skip' ?_
  refine NE.code ?_
  refine CE.seq ?_
  refine CE.seq ?_
  refine CE.region ?_
  refine WL.det (op_move rfl) rfl rfl rfl ?_
  refine WL.det (op_move rfl) rfl rfl rfl ?_
  refine WL.det (op_nei_f rfl rfl rfl) rfl rfl rfl ?_
  refine WL.end ?_
  refine NE.code ?_
  refine CE.cond_f rfl rfl ?_
  refine CE.skip' ?_
  refine NE.code ?_
  refine CE.seq ?_
  refine CE.region ?_
  refine WL.det (op_loadA (i := 0) (cs := [.slice ATr nTr cTr, vI ((i : Nat) : Int), .slice ABr nBr cBr, vI ((h : Nat) : Int), vI Lk, vF Lc0, vF Lc1, vF Lc2, vF Ls0, vF Ls1, vI Dk, vF Dc0, vF Dc1, vF Dc2, vF Ds0, vF Ds1, vF ne, vF fa]) rfl Try.isAgg58 Try.sizeOf58 (((((((((((((((((((((((((((r1.ext m2).ext m3).ext m4).ext m5).mod m6 (nC (lE (lL (lL r1.lt (lT (lT m2.size m3.size) m4.size)) lR)) nN)).ext m7).ext m8).mod m9 (nC (lE (lL (lL r1.lt (lT (lT (lT (lT (lT m2.size m3.size) m4.size) m5.size) m6.size) m7.size)) lR)) nN)).ext m10).ext m11).mod m12 (nC (lE (lL (lL r1.lt (lT (lT (lT (lT (lT (lT (lT (lT m2.size m3.size) m4.size) m5.size) m6.size) m7.size) m8.size) m9.size) m10.size)) lR)) nN)).ext m13).ext m14).ext m15).ext m16).ext md1).ext m17).ext m18).ext m19).ext m20).mod m21 (nC (lE (lL (lL r1.lt (lT (lT (lT (lT m2.size m3.size) m4.size) m5.size) m6.size)) ge5)) (nC (lE (lL (lL r1.lt (lT (lT (lT (lT m2.size m3.size) m4.size) m5.size) m6.size)) ge6)) nN))).ext m22).ext m23).ext m24).ext m25).mod m26 (nC (lE (lL (lL r1.lt (lT (lT (lT (lT (lT (lT (lT m2.size m3.size) m4.size) m5.size) m6.size) m7.size) m8.size) m9.size)) ge7)) (nC (lE (lL (lL r1.lt (lT (lT (lT (lT (lT (lT (lT m2.size m3.size) m4.size) m5.size) m6.size) m7.size) m8.size) m9.size)) ge8)) nN))).ext m27).rng rfl rfl rfl) rfl rfl rfl ?_
  refine WL.call (oc_call (vs := [.agg #[.slice ATr nTr cTr, vI ((i : Nat) : Int), .slice ABr nBr cBr, vI ((h : Nat) : Int), vI Lk, vF Lc0, vF Lc1, vF Lc2, vF Ls0, vF Ls1, vI Dk, vF Dc0, vF Dc1, vF Dc2, vF Ds0, vF Ds1, vF ne, vF fa]]) (cap := []) rfl rfl rfl Try.call32 (c_toJet nTr cTr ATr bTr oTr xTr ((i : Nat) : Int) nBr cBr ABr bBr oBr xBr ((h : Nat) : Int) Lk Lc0 Lc1 Lc2 Ls0 Ls1 Dk Dc0 Dc1 Dc2 Ds0 Ds1 ne fa lnTr hATr lnBr hABr (by omega) (by omega) w28 ((Rng.youngS rTr (((((Rng.youngS rTr ((((((((((Rng.youngS rTr (((Rng.youngS rTr (((Rng.youngS rTr (((((rTr.ext m1).ext m2).ext m3).ext m4).ext m5) m6 (allge_cons (lT (lT (lT (lT m1.size m2.size) m3.size) m4.size) lR) allge_nil)).ext m7).ext m8) m9 (allge_cons (lT (lT (lT (lT (lT (lT (lT m1.size m2.size) m3.size) m4.size) m5.size) m6.size) m7.size) lR) allge_nil)).ext m10).ext m11) m12 (allge_cons (lT (lT (lT (lT (lT (lT (lT (lT (lT (lT m1.size m2.size) m3.size) m4.size) m5.size) m6.size) m7.size) m8.size) m9.size) m10.size) lR) allge_nil)).ext m13).ext m14).ext m15).ext m16).ext md1).ext m17).ext m18).ext m19).ext m20) m21 (allge_cons (lT (lT (lT (lT (lT (lT m1.size m2.size) m3.size) m4.size) m5.size) m6.size) ge5) (allge_cons (lT (lT (lT (lT (lT (lT m1.size m2.size) m3.size) m4.size) m5.size) m6.size) ge6) allge_nil))).ext m22).ext m23).ext m24).ext m25) m26 (allge_cons (lT (lT (lT (lT (lT (lT (lT (lT (lT m1.size m2.size) m3.size) m4.size) m5.size) m6.size) m7.size) m8.size) m9.size) ge7) (allge_cons (lT (lT (lT (lT (lT (lT (lT (lT (lT m1.size m2.size) m3.size) m4.size) m5.size) m6.size) m7.size) m8.size) m9.size) ge8) allge_nil))).ext m27) ((Rng.youngS rBr (((((Rng.youngS rBr ((((((((((Rng.youngS rBr (((Rng.youngS rBr (((Rng.youngS rBr (((((rBr.ext m1).ext m2).ext m3).ext m4).ext m5) m6 (allge_cons (lT (lT (lT (lT m1.size m2.size) m3.size) m4.size) lR) allge_nil)).ext m7).ext m8) m9 (allge_cons (lT (lT (lT (lT (lT (lT (lT m1.size m2.size) m3.size) m4.size) m5.size) m6.size) m7.size) lR) allge_nil)).ext m10).ext m11) m12 (allge_cons (lT (lT (lT (lT (lT (lT (lT (lT (lT (lT m1.size m2.size) m3.size) m4.size) m5.size) m6.size) m7.size) m8.size) m9.size) m10.size) lR) allge_nil)).ext m13).ext m14).ext m15).ext m16).ext md1).ext m17).ext m18).ext m19).ext m20) m21 (allge_cons (lT (lT (lT (lT (lT (lT m1.size m2.size) m3.size) m4.size) m5.size) m6.size) ge5) (allge_cons (lT (lT (lT (lT (lT (lT m1.size m2.size) m3.size) m4.size) m5.size) m6.size) ge6) allge_nil))).ext m22).ext m23).ext m24).ext m25) m26 (allge_cons (lT (lT (lT (lT (lT (lT (lT (lT (lT m1.size m2.size) m3.size) m4.size) m5.size) m6.size) m7.size) m8.size) m9.size) ge7) (allge_cons (lT (lT (lT (lT (lT (lT (lT (lT (lT m1.size m2.size) m3.size) m4.size) m5.size) m6.size) m7.size) m8.size) m9.size) ge8) allge_nil))).ext m27))) rfl rfl (ltb rfl) ?_
  rintro _ w29 ⟨bTr'4, bBr'4, rfl, r25, r26, ge11, ge12, ne6, m28⟩
  refine WL.det (op_move rfl) rfl rfl rfl ?_
  refine WL.call (oc_call (vs := [.agg #[vS bTr'4 0 nTr nTr, vI ((i : Nat) : Int), vS bBr'4 0 nBr nBr, vI ((h : Nat) : Int), vI Lk, vF Lc0, vF Lc1, vF Lc2, vF Ls0, vF Ls1, vI Dk, vF Dc0, vF Dc1, vF Dc2, vF Ds0, vF Ds1, vF ne, vF fa], vF a]) (cap := []) rfl rfl rfl Try.call33 (c_iStepJet nTr nTr bTr'4 xTr nBr nBr bBr'4 xBr i h Lk Lc0 Lc1 Lc2 Ls0 Ls1 Dk Dc0 Dc1 Dc2 Ds0 Ds1 ne fa a lnTr lnBr (by omega) (by omega) (by omega) (by omega) (by first | assumption | exact W32.get (by assumption) _ | decide +kernel) (by first | assumption | exact W32.get (by assumption) _ | decide +kernel) (by first | assumption | exact W32.get (by assumption) _ | decide +kernel) (by first | assumption | exact W32.get (by assumption) _ | decide +kernel) (by first | assumption | exact W32.set (by assumption) (by first | assumption | exact wid_lt (by assumption)) | exact W32.zeros _ | exact W32.nil) (by first | assumption | exact W32.set (by assumption) (by first | assumption | exact wid_lt (by assumption)) | exact W32.zeros _ | exact W32.nil) la (by assumption) w29 r25.rng r26.rng)) rfl rfl (ltb rfl) ?_
  rintro _ w30 ⟨b'3, c'3, d'3, c2'3, rfl, r27, r28, ge13, ge14, ne7, m29⟩
  refine WL.det (op_move rfl) rfl rfl rfl ?_
  refine WL.det (op_extract rfl rfl) rfl rfl rfl ?_
  refine WL.det (op_extract rfl rfl) rfl rfl rfl ?_
  refine WL.det (op_extract rfl rfl) rfl rfl rfl ?_
  refine WL.op (op_alloc (cs := [.slice none 0 0, vI 0, .slice none 0 0, vI 0, vI 0, vF 0, vF 0, vF 0, vF 0, vF 0, vI 0, vF 0, vF 0, vF 0, vF 0, vF 0, vF 0, vF 0]) Try.zeroValue61 rfl) rfl rfl (ltb rfl) ?_
  rintro _ w31 ⟨rfl, r29, m30, z8⟩
  refine WL.op0 (op_store (i := 0) (cs := [vS b'3 0 nTr c'3, vI (((i + 1) % nTr : Nat) : Int), vS d'3 0 nBr c2'3, vI (((h + 1) % nBr : Nat) : Int), vI Lk, vF Lc0, vF Lc1, vF Lc2, vF (stepS Lk Lc0 Lc1 Lc2 Ls0 Ls1 (xBr.getD h 0)), vF (stepT Lk Lc0 Lc1 Lc2 Ls0 Ls1 (xBr.getD h 0)), vI Dk, vF Dc0, vF Dc1, vF Dc2, vF (stepS Dk Dc0 Dc1 Dc2 Ds0 Ds1 (stepY Lk Lc0 Lc1 Lc2 Ls0 Ls1 (xBr.getD h 0))), vF (stepT Dk Dc0 Dc1 Dc2 Ds0 Ds1 (stepY Lk Lc0 Lc1 Lc2 Ls0 Ls1 (xBr.getD h 0))), vF ne, vF fa]) rfl rfl rfl Try.sizeOf61 rfl r29 rfl (lB rfl) rfl) rfl rfl ?_
  rintro _ w32 ⟨r30, m31, z9⟩
  have r31 : Row w32 w30.heap.size 0 [vS b'3 0 nTr c'3, vI (((i + 1) % nTr : Nat) : Int), vS d'3 0 nBr c2'3, vI (((h + 1) % nBr : Nat) : Int), vI Lk, vF Lc0, vF Lc1, vF Lc2, vF (stepS Lk Lc0 Lc1 Lc2 Ls0 Ls1 (xBr.getD h 0)), vF (stepT Lk Lc0 Lc1 Lc2 Ls0 Ls1 (xBr.getD h 0)), vI Dk, vF Dc0, vF Dc1, vF Dc2, vF (stepS Dk Dc0 Dc1 Dc2 Ds0 Ds1 (stepY Lk Lc0 Lc1 Lc2 Ls0 Ls1 (xBr.getD h 0))), vF (stepT Dk Dc0 Dc1 Dc2 Ds0 Ds1 (stepY Lk Lc0 Lc1 Lc2 Ls0 Ls1 (xBr.getD h 0))), vF ne, vF fa] := Row.congr r30 rfl
  refine WL.det (op_assign rfl) rfl rfl rfl ?_
  refine WL.det (op_assign rfl) rfl rfl rfl ?_
  refine WL.end ?_
  refine NE.code ?_
  refine CE.seq ?_
  refine CE.seq ?_
  refine CE.region ?_
  refine WL.det (op_loadA (i := 0) (cs := [vS b'3 0 nTr c'3, vI (((i + 1) % nTr : Nat) : Int), vS d'3 0 nBr c2'3, vI (((h + 1) % nBr : Nat) : Int), vI Lk, vF Lc0, vF Lc1, vF Lc2, vF (stepS Lk Lc0 Lc1 Lc2 Ls0 Ls1 (xBr.getD h 0)), vF (stepT Lk Lc0 Lc1 Lc2 Ls0 Ls1 (xBr.getD h 0)), vI Dk, vF Dc0, vF Dc1, vF Dc2, vF (stepS Dk Dc0 Dc1 Dc2 Ds0 Ds1 (stepY Lk Lc0 Lc1 Lc2 Ls0 Ls1 (xBr.getD h 0))), vF (stepT Dk Dc0 Dc1 Dc2 Ds0 Ds1 (stepY Lk Lc0 Lc1 Lc2 Ls0 Ls1 (xBr.getD h 0))), vF ne, vF fa]) rfl Try.isAgg61 Try.sizeOf61 r31.rng rfl rfl rfl) rfl rfl rfl ?_
  refine WL.det (op_loadA (i := 0) (cs := [vS b'1 0 nTr c'1, vI (((i + 1) % nTr : Nat) : Int), vS d'1 0 nBr c2'1, vI (((h + 1) % nBr : Nat) : Int), vI Lk, vF Lc0, vF Lc1, vF Lc2, vF (stepS Lk Lc0 Lc1 Lc2 Ls0 Ls1 (xBr.getD h 0)), vF (stepT Lk Lc0 Lc1 Lc2 Ls0 Ls1 (xBr.getD h 0)), vI Dk, vF Dc0, vF Dc1, vF Dc2, vF (stepS Dk Dc0 Dc1 Dc2 Ds0 Ds1 (stepY Lk Lc0 Lc1 Lc2 Ls0 Ls1 (xBr.getD h 0))), vF (stepT Dk Dc0 Dc1 Dc2 Ds0 Ds1 (stepY Lk Lc0 Lc1 Lc2 Ls0 Ls1 (xBr.getD h 0))), vF ne, vF fa]) rfl Try.isAgg61 Try.sizeOf61 ((((((((((((((((((((((((((r8.ext m7).ext m8).mod m9 (nC (lE (lL (lL r6.lt (lT m6.size m7.size)) lR)) nN)).ext m10).ext m11).mod m12 (nC (lE (lL (lL r6.lt (lT (lT (lT (lT m6.size m7.size) m8.size) m9.size) m10.size)) lR)) nN)).ext m13).ext m14).ext m15).ext m16).ext md1).ext m17).ext m18).ext m19).ext m20).mod m21 (nC (lE (lL (lL r6.lt m6.size) ge5)) (nC (lE (lL (lL r6.lt m6.size) ge6)) nN))).ext m22).ext m23).ext m24).ext m25).mod m26 (nC (lE (lL (lL r6.lt (lT (lT (lT m6.size m7.size) m8.size) m9.size)) ge7)) (nC (lE (lL (lL r6.lt (lT (lT (lT m6.size m7.size) m8.size) m9.size)) ge8)) nN))).ext m27).ext m28).ext m29).ext m30).mod m31 (nC (lE (lL (lL r6.lt (lT (lT (lT (lT (lT (lT (lT (lT (lT (lT (lT (lT (lT (lT (lT (lT (lT (lT (lT (lT (lT (lT (lT (lT m6.size m7.size) m8.size) m9.size) m10.size) m11.size) m12.size) m13.size) m14.size) m15.size) m16.size) md1.size) m17.size) m18.size) m19.size) m20.size) m21.size) m22.size) m23.size) m24.size) m25.size) m26.size) m27.size) m28.size) m29.size)) lR)) nN)).rng rfl rfl rfl) rfl rfl rfl ?_
  refine WL.call (oc_call (vs := [.agg #[vS b'3 0 nTr c'3, vI (((i + 1) % nTr : Nat) : Int), vS d'3 0 nBr c2'3, vI (((h + 1) % nBr : Nat) : Int), vI Lk, vF Lc0, vF Lc1, vF Lc2, vF (stepS Lk Lc0 Lc1 Lc2 Ls0 Ls1 (xBr.getD h 0)), vF (stepT Lk Lc0 Lc1 Lc2 Ls0 Ls1 (xBr.getD h 0)), vI Dk, vF Dc0, vF Dc1, vF Dc2, vF (stepS Dk Dc0 Dc1 Dc2 Ds0 Ds1 (stepY Lk Lc0 Lc1 Lc2 Ls0 Ls1 (xBr.getD h 0))), vF (stepT Dk Dc0 Dc1 Dc2 Ds0 Ds1 (stepY Lk Lc0 Lc1 Lc2 Ls0 Ls1 (xBr.getD h 0))), vF ne, vF fa], .agg #[vS b'1 0 nTr c'1, vI (((i + 1) % nTr : Nat) : Int), vS d'1 0 nBr c2'1, vI (((h + 1) % nBr : Nat) : Int), vI Lk, vF Lc0, vF Lc1, vF Lc2, vF (stepS Lk Lc0 Lc1 Lc2 Ls0 Ls1 (xBr.getD h 0)), vF (stepT Lk Lc0 Lc1 Lc2 Ls0 Ls1 (xBr.getD h 0)), vI Dk, vF Dc0, vF Dc1, vF Dc2, vF (stepS Dk Dc0 Dc1 Dc2 Ds0 Ds1 (stepY Lk Lc0 Lc1 Lc2 Ls0 Ls1 (xBr.getD h 0))), vF (stepT Dk Dc0 Dc1 Dc2 Ds0 Ds1 (stepY Lk Lc0 Lc1 Lc2 Ls0 Ls1 (xBr.getD h 0))), vF ne, vF fa]]) (cap := []) rfl rfl rfl Try.call34 (c_eqJet nTr c'3 (some ⟨b'3, 0, none⟩) b'3 0 (xTr.set i (keptF (fop .sub .f32 a (fop .mul .f32 ne (stepY Dk Dc0 Dc1 Dc2 Ds0 Ds1 (stepY Lk Lc0 Lc1 Lc2 Ls0 Ls1 (xBr.getD h 0))))))) (((i + 1) % nTr : Nat) : Int) nBr c2'3 (some ⟨d'3, 0, none⟩) d'3 0 (xBr.set h (keptF (fop .add .f32 (jetF (xTr.getD i 0)) (fop .mul .f32 fa (stepY Dk Dc0 Dc1 Dc2 Ds0 Ds1 (stepY Lk Lc0 Lc1 Lc2 Ls0 Ls1 (xBr.getD h 0))))))) (((h + 1) % nBr : Nat) : Int) Lk Lc0 Lc0 Lc1 Lc1 Lc2 Lc2 (stepS Lk Lc0 Lc1 Lc2 Ls0 Ls1 (xBr.getD h 0)) (stepS Lk Lc0 Lc1 Lc2 Ls0 Ls1 (xBr.getD h 0)) (stepT Lk Lc0 Lc1 Lc2 Ls0 Ls1 (xBr.getD h 0)) (stepT Lk Lc0 Lc1 Lc2 Ls0 Ls1 (xBr.getD h 0)) Dk Dc0 Dc0 Dc1 Dc1 Dc2 Dc2 (stepS Dk Dc0 Dc1 Dc2 Ds0 Ds1 (stepY Lk Lc0 Lc1 Lc2 Ls0 Ls1 (xBr.getD h 0))) (stepS Dk Dc0 Dc1 Dc2 Ds0 Ds1 (stepY Lk Lc0 Lc1 Lc2 Ls0 Ls1 (xBr.getD h 0))) (stepT Dk Dc0 Dc1 Dc2 Ds0 Ds1 (stepY Lk Lc0 Lc1 Lc2 Ls0 Ls1 (xBr.getD h 0))) (stepT Dk Dc0 Dc1 Dc2 Ds0 Ds1 (stepY Lk Lc0 Lc1 Lc2 Ls0 Ls1 (xBr.getD h 0))) ne ne fa fa c'1 (some ⟨b'1, 0, none⟩) b'1 0 c2'1 (some ⟨d'1, 0, none⟩) d'1 0 Lc0 Lc1 Lc2 (stepS Lk Lc0 Lc1 Lc2 Ls0 Ls1 (xBr.getD h 0)) (stepT Lk Lc0 Lc1 Lc2 Ls0 Ls1 (xBr.getD h 0)) Dc0 Dc1 Dc2 (stepS Dk Dc0 Dc1 Dc2 Ds0 Ds1 (stepY Lk Lc0 Lc1 Lc2 Ls0 Ls1 (xBr.getD h 0))) (stepT Dk Dc0 Dc1 Dc2 Ds0 Ds1 (stepY Lk Lc0 Lc1 Lc2 Ls0 Ls1 (xBr.getD h 0))) ne fa ((List.length_set).trans lnTr) (fun _ => rfl) ((List.length_set).trans lnBr) (fun _ => rfl) (fun _ => rfl) (fun _ => rfl) rfl rfl rfl rfl rfl rfl rfl rfl rfl rfl rfl rfl rfl rfl rfl rfl rfl rfl rfl rfl rfl rfl rfl rfl (by omega) (by omega) w32 ((r27.ext m30).mod m31 (nC (lE (lL r27.lt lR)) nN)).rng ((r28.ext m30).mod m31 (nC (lE (lL r28.lt lR)) nN)).rng ((((((((((((((((((((((((((((r4.ext m5).mod m6 (nC (lE (lL r4.lt lR)) nN)).ext m7).ext m8).mod m9 (nC (lE (lL (lL r4.lt (lT (lT m5.size m6.size) m7.size)) lR)) nN)).ext m10).ext m11).mod m12 (nC (lE (lL (lL r4.lt (lT (lT (lT (lT (lT m5.size m6.size) m7.size) m8.size) m9.size) m10.size)) lR)) nN)).ext m13).ext m14).ext m15).ext m16).ext md1).ext m17).ext m18).ext m19).ext m20).mod m21 (nC (lE (lL (lL r4.lt (lT m5.size m6.size)) ge5)) (nC (lE (lL (lL r4.lt (lT m5.size m6.size)) ge6)) nN))).ext m22).ext m23).ext m24).ext m25).mod m26 (nC (lE (lL (lL r4.lt (lT (lT (lT (lT m5.size m6.size) m7.size) m8.size) m9.size)) ge7)) (nC (lE (lL (lL r4.lt (lT (lT (lT (lT m5.size m6.size) m7.size) m8.size) m9.size)) ge8)) nN))).ext m27).ext m28).ext m29).ext m30).mod m31 (nC (lE (lL (lL r4.lt (lT (lT (lT (lT (lT (lT (lT (lT (lT (lT (lT (lT (lT (lT (lT (lT (lT (lT (lT (lT (lT (lT (lT (lT (lT m5.size m6.size) m7.size) m8.size) m9.size) m10.size) m11.size) m12.size) m13.size) m14.size) m15.size) m16.size) md1.size) m17.size) m18.size) m19.size) m20.size) m21.size) m22.size) m23.size) m24.size) m25.size) m26.size) m27.size) m28.size) m29.size)) lR)) nN)).rng ((((((((((((((((((((((((((((r5.ext m5).mod m6 (nC (lE (lL r5.lt lR)) nN)).ext m7).ext m8).mod m9 (nC (lE (lL (lL r5.lt (lT (lT m5.size m6.size) m7.size)) lR)) nN)).ext m10).ext m11).mod m12 (nC (lE (lL (lL r5.lt (lT (lT (lT (lT (lT m5.size m6.size) m7.size) m8.size) m9.size) m10.size)) lR)) nN)).ext m13).ext m14).ext m15).ext m16).ext md1).ext m17).ext m18).ext m19).ext m20).mod m21 (nC (lE (lL (lL r5.lt (lT m5.size m6.size)) ge5)) (nC (lE (lL (lL r5.lt (lT m5.size m6.size)) ge6)) nN))).ext m22).ext m23).ext m24).ext m25).mod m26 (nC (lE (lL (lL r5.lt (lT (lT (lT (lT m5.size m6.size) m7.size) m8.size) m9.size)) ge7)) (nC (lE (lL (lL r5.lt (lT (lT (lT (lT m5.size m6.size) m7.size) m8.size) m9.size)) ge8)) nN))).ext m27).ext m28).ext m29).ext m30).mod m31 (nC (lE (lL (lL r5.lt (lT (lT (lT (lT (lT (lT (lT (lT (lT (lT (lT (lT (lT (lT (lT (lT (lT (lT (lT (lT (lT (lT (lT (lT (lT m5.size m6.size) m7.size) m8.size) m9.size) m10.size) m11.size) m12.size) m13.size) m14.size) m15.size) m16.size) md1.size) m17.size) m18.size) m19.size) m20.size) m21.size) m22.size) m23.size) m24.size) m25.size) m26.size) m27.size) m28.size) m29.size)) lR)) nN)).rng)) rfl rfl (ltb rfl) ?_
  rintro _ w33 ⟨rfl, m32⟩
  refine WL.det (op_not rfl) rfl rfl rfl ?_
  refine WL.det (op_move rfl) rfl rfl rfl ?_
  refine WL.yes rfl rfl rfl (ltb rfl) rfl rfl ?_
  refine WL.det (op_move rfl) rfl rfl rfl ?_
  refine WL.yes rfl rfl rfl (ltb rfl) rfl rfl ?_
  refine WL.op (op_widen (e := (wide (xBr.getD h 0))) rfl rfl Try.runUnderlying25 Try.runUnderlying67 rfl) rfl rfl (ltb rfl) ?_
  rintro _ w34 ⟨⟨f5, rfl, hf5, lf5⟩, m33⟩
  refine WL.yes rfl rfl rfl (ltb rfl) rfl rfl ?_
  refine WL.det (op_move rfl) rfl rfl rfl ?_
  refine WL.yes rfl rfl rfl (ltb rfl) rfl rfl ?_
  refine WL.op (op_widen (e := (wide (xBr.getD h 0))) rfl rfl Try.runUnderlying25 Try.runUnderlying67 rfl) rfl rfl (ltb rfl) ?_
  rintro _ w35 ⟨⟨f6, rfl, hf6, lf6⟩, m34⟩
  refine WL.yes rfl rfl rfl (ltb rfl) rfl rfl ?_
  refine WL.call (oc_call (vs := [.float .f64 f5, .float .f64 f6]) (cap := []) rfl rfl rfl Try.call35 (c_sameFloat f5 (wide (xBr.getD h 0)) f6 (wide (xBr.getD h 0)) hf5 hf6 w35)) rfl rfl (ltb rfl) ?_
  rintro _ w36 ⟨rfl, m35⟩
  refine WL.yes rfl rfl rfl (ltb rfl) rfl rfl ?_
  refine WL.det (op_not rfl) rfl rfl rfl ?_
  refine WL.det (op_pick_f rfl rfl rfl) rfl rfl rfl ?_
  refine WL.det (op_move rfl) rfl rfl rfl ?_
  refine WL.yes rfl rfl rfl (ltb rfl) rfl (bnot_t (sameF_self _)) ?_
  refine WL.det (op_move rfl) rfl rfl rfl ?_
  refine WL.yes rfl rfl rfl (ltb rfl) rfl (bnot_t (sameF_self _)) ?_
  refine WL.det (op_move rfl) rfl rfl rfl ?_
  refine WL.yes rfl rfl rfl (ltb rfl) rfl (bnot_t (sameF_self _)) ?_
  refine WL.det (op_nei rfl rfl) rfl rfl rfl ?_
  refine WL.det (op_pick_f rfl (bnot_t (sameF_self _)) rfl) rfl rfl rfl ?_
  refine WL.end ?_
  refine NE.code ?_
  refine CE.cond_f rfl rfl ?_
  refine CE.skip' ?_
  refine NE.code ?_
  refine CE.seq ?_
  refine CE.region ?_
  refine WL.det (op_assign rfl) rfl rfl rfl ?_
  refine WL.end ?_
  refine NE.code ?_
  refine CE.seq ?_
  refine CE.region ?_
  refine WL.det (op_loadA (i := 0) (cs := [vS b'2 0 nTr c'2, vI (((i + 1) % nTr : Nat) : Int), vS d'2 0 nBr c2'2, vI (((h + 1) % nBr : Nat) : Int), vI Lk, vF Lc0, vF Lc1, vF Lc2, vF (stepS Lk Lc0 Lc1 Lc2 Ls0 Ls1 (xBr.getD h 0)), vF (stepT Lk Lc0 Lc1 Lc2 Ls0 Ls1 (xBr.getD h 0)), vI Dk, vF Dc0, vF Dc1, vF Dc2, vF (stepS Dk Dc0 Dc1 Dc2 Ds0 Ds1 (stepY Lk Lc0 Lc1 Lc2 Ls0 Ls1 (xBr.getD h 0))), vF (stepT Dk Dc0 Dc1 Dc2 Ds0 Ds1 (stepY Lk Lc0 Lc1 Lc2 Ls0 Ls1 (xBr.getD h 0))), vF ne, vF fa]) rfl Try.isAgg61 Try.sizeOf61 ((((((((((((((((((((((((r18.ext m13).ext m14).ext m15).ext m16).ext md1).ext m17).ext m18).ext m19).ext m20).mod m21 (nC (lG (lL (lL r9.lt (lT (lT m8.size m9.size) m10.size)) lR)) (nC (lG (lL (lL r10.lt (lT (lT m8.size m9.size) m10.size)) lR)) nN))).ext m22).ext m23).ext m24).ext m25).mod m26 (nC (lG (lL r14.lt lR)) (nC (lG (lL r15.lt lR)) nN))).ext m27).ext m28).ext m29).ext m30).mod m31 (nC (lE (lL (lL r16.lt (lT (lT (lT (lT (lT (lT (lT (lT (lT (lT (lT (lT (lT (lT (lT (lT (lT (lT m12.size m13.size) m14.size) m15.size) m16.size) md1.size) m17.size) m18.size) m19.size) m20.size) m21.size) m22.size) m23.size) m24.size) m25.size) m26.size) m27.size) m28.size) m29.size)) lR)) nN)).ext m32).ext m33).ext m34).ext m35).rng rfl rfl rfl) rfl rfl rfl ?_
  refine WL.det (op_move rfl) rfl rfl rfl ?_
  refine WL.call (oc_call (vs := [.agg #[vS b'2 0 nTr c'2, vI (((i + 1) % nTr : Nat) : Int), vS d'2 0 nBr c2'2, vI (((h + 1) % nBr : Nat) : Int), vI Lk, vF Lc0, vF Lc1, vF Lc2, vF (stepS Lk Lc0 Lc1 Lc2 Ls0 Ls1 (xBr.getD h 0)), vF (stepT Lk Lc0 Lc1 Lc2 Ls0 Ls1 (xBr.getD h 0)), vI Dk, vF Dc0, vF Dc1, vF Dc2, vF (stepS Dk Dc0 Dc1 Dc2 Ds0 Ds1 (stepY Lk Lc0 Lc1 Lc2 Ls0 Ls1 (xBr.getD h 0))), vF (stepT Dk Dc0 Dc1 Dc2 Ds0 Ds1 (stepY Lk Lc0 Lc1 Lc2 Ls0 Ls1 (xBr.getD h 0))), vF ne, vF fa], vI 1]) (cap := []) rfl rfl rfl Try.call37 (c_heldJet nTr c'2 b'2 (marks (xTr.set i (keptF (fop .sub .f32 a (fop .mul .f32 ne (stepY Dk Dc0 Dc1 Dc2 Ds0 Ds1 (stepY Lk Lc0 Lc1 Lc2 Ls0 Ls1 (xBr.getD h 0))))))) 1 nTr) (((i + 1) % nTr : Nat) : Int) nBr c2'2 d'2 (marks (xBr.set h (keptF (fop .add .f32 (jetF (xTr.getD i 0)) (fop .mul .f32 fa (stepY Dk Dc0 Dc1 Dc2 Ds0 Ds1 (stepY Lk Lc0 Lc1 Lc2 Ls0 Ls1 (xBr.getD h 0))))))) (1 + nTr) nBr) (((h + 1) % nBr : Nat) : Int) Lk Lc0 Lc1 Lc2 (stepS Lk Lc0 Lc1 Lc2 Ls0 Ls1 (xBr.getD h 0)) (stepT Lk Lc0 Lc1 Lc2 Ls0 Ls1 (xBr.getD h 0)) Dk Dc0 Dc1 Dc2 (stepS Dk Dc0 Dc1 Dc2 Ds0 Ds1 (stepY Lk Lc0 Lc1 Lc2 Ls0 Ls1 (xBr.getD h 0))) (stepT Dk Dc0 Dc1 Dc2 Ds0 Ds1 (stepY Lk Lc0 Lc1 Lc2 Ls0 Ls1 (xBr.getD h 0))) ne fa 1 (marks_len ((List.length_set).trans lnTr) (Nat.le_refl _)) (marks_len ((List.length_set).trans lnBr) (Nat.le_refl _)) (by omega) (by omega) (by omega) (by first | assumption | exact marks_held _ _ _) (by first | assumption | exact marks_held _ _ _) w36 (((((((((r23.ext m27).ext m28).ext m29).ext m30).mod m31 (nC (lE (lL (lL r14.lt (lT (lT (lT (lT (lT (lT (lT (lT (lT (lT (lT (lT (lT (lT (lT (lT (lT (lT (lT m11.size m12.size) m13.size) m14.size) m15.size) m16.size) md1.size) m17.size) m18.size) m19.size) m20.size) m21.size) m22.size) m23.size) m24.size) m25.size) m26.size) m27.size) m28.size) m29.size)) lR)) nN)).ext m32).ext m33).ext m34).ext m35).rng (((((((((r24.ext m27).ext m28).ext m29).ext m30).mod m31 (nC (lE (lL (lL r15.lt (lT (lT (lT (lT (lT (lT (lT (lT (lT (lT (lT (lT (lT (lT (lT (lT (lT (lT (lT m11.size m12.size) m13.size) m14.size) m15.size) m16.size) md1.size) m17.size) m18.size) m19.size) m20.size) m21.size) m22.size) m23.size) m24.size) m25.size) m26.size) m27.size) m28.size) m29.size)) lR)) nN)).ext m32).ext m33).ext m34).ext m35).rng)) rfl rfl (ltb rfl) ?_
  rintro _ w37 ⟨rfl, m36⟩
  refine WL.det (op_assign rfl) rfl rfl rfl ?_
  refine WL.end ?_
  refine NE.code ?_
  refine CE.seq ?_
  refine CE.seq ?_
  refine CE.region ?_
  refine WL.det (op_move rfl) rfl rfl rfl ?_
  refine WL.det (op_lti_f rfl rfl (by omega)) rfl rfl rfl ?_
  refine WL.end ?_
  refine NE.code ?_
  refine CE.cond_f rfl rfl ?_
  refine CE.skip' ?_
  refine NE.code ?_
  refine CE.seq ?_
  refine CE.seq ?_
  refine CE.region ?_
  refine WL.det (op_move rfl) rfl rfl rfl ?_
  refine WL.det (op_move rfl) rfl rfl rfl ?_
  refine WL.det (op_nei_f rfl rfl rfl) rfl rfl rfl ?_
  refine WL.end ?_
  refine NE.code ?_
  refine CE.cond_f rfl rfl ?_
  refine CE.skip' ?_
  refine NE.code ?_
  refine CE.seq ?_
  refine CE.region ?_
  refine WL.det (op_assign rfl) rfl rfl rfl ?_
  refine WL.end ?_
  refine NE.code ?_
  refine CE.ret' ?_
  refine XE.leave1 Try.results6 rfl ?_
  refine ⟨rfl, ((((((((((((((((((((((((((((((((((((((Mod.refl [] w).nt m1).nt m2).nt m3).nt m4).nt m5).then m6 ((aC (.inr (lT (lT (lT (lT m1.size m2.size) m3.size) m4.size) lR)) aN))).nt m7).nt m8).then m9 ((aC (.inr (lT (lT (lT (lT (lT (lT (lT m1.size m2.size) m3.size) m4.size) m5.size) m6.size) m7.size) lR)) aN))).nt m10).nt m11).then m12 ((aC (.inr (lT (lT (lT (lT (lT (lT (lT (lT (lT (lT m1.size m2.size) m3.size) m4.size) m5.size) m6.size) m7.size) m8.size) m9.size) m10.size) lR)) aN))).nt m13).nt m14).nt m15).nt m16).nt md1).nt m17).nt m18).nt m19).nt m20).then m21 ((aC (.inr (lT (lT (lT (lT (lT (lT m1.size m2.size) m3.size) m4.size) m5.size) m6.size) ge5)) (aC (.inr (lT (lT (lT (lT (lT (lT m1.size m2.size) m3.size) m4.size) m5.size) m6.size) ge6)) aN)))).nt m22).nt m23).nt m24).nt m25).then m26 ((aC (.inr (lT (lT (lT (lT (lT (lT (lT (lT (lT m1.size m2.size) m3.size) m4.size) m5.size) m6.size) m7.size) m8.size) m9.size) ge7)) (aC (.inr (lT (lT (lT (lT (lT (lT (lT (lT (lT m1.size m2.size) m3.size) m4.size) m5.size) m6.size) m7.size) m8.size) m9.size) ge8)) aN)))).nt m27).nt m28).nt m29).nt m30).then m31 ((aC (.inr (lT (lT (lT (lT (lT (lT (lT (lT (lT (lT (lT (lT (lT (lT (lT (lT (lT (lT (lT (lT (lT (lT (lT (lT (lT (lT (lT (lT (lT (lT m1.size m2.size) m3.size) m4.size) m5.size) m6.size) m7.size) m8.size) m9.size) m10.size) m11.size) m12.size) m13.size) m14.size) m15.size) m16.size) md1.size) m17.size) m18.size) m19.size) m20.size) m21.size) m22.size) m23.size) m24.size) m25.size) m26.size) m27.size) m28.size) m29.size) lR)) aN))).nt m32).nt m33).nt m34).nt m35).nt m36)⟩

set_option maxRecDepth 100000 in
set_option maxHeartbeats 2000000 in
theorem law_stepjet_bad (nTr : Nat) (cTr : Nat) (ATr : Option Addr) (bTr : Nat) (oTr : Nat) (xTr : List Nat) (Tj : Int) (nBr : Nat) (cBr : Nat) (ABr : Option Addr) (bBr : Nat) (oBr : Nat) (xBr : List Nat) (Bj : Int) (Lk : Int) (Lc0 : Nat) (Lc1 : Nat) (Lc2 : Nat) (Ls0 : Nat) (Ls1 : Nat) (Dk : Int) (Dc0 : Nat) (Dc1 : Nat) (Dc2 : Nat) (Ds0 : Nat) (Ds1 : Nat) (ne : Nat) (fa : Nat) (a : Nat) (lnTr : xTr.length = nTr) (hATr : 0 < nTr → ATr = some ⟨bTr, oTr, none⟩) (lnBr : xBr.length = nBr) (hABr : 0 < nBr → ABr = some ⟨bBr, oBr, none⟩) (wTr : W32 xTr) (wBr : W32 xBr) (lLs0 : Ls0 < wid .f32) (lLs1 : Ls1 < wid .f32) (lDs0 : Ds0 < wid .f32) (lDs1 : Ds1 < wid .f32) (hv : vJet nTr Tj nBr Bj xTr xBr Lk Lc0 Lc1 Lc2 Ls0 Ls1 Dk Dc0 Dc1 Dc2 Ds0 Ds1 ne fa = false) (hn : nTr ≤ 9223372036854775807) (hm : nBr ≤ 9223372036854775807) (la : a < wid .f32) (w : World) (rTr : Rng w bTr oTr (fl xTr)) (rBr : Rng w bBr oBr (fl xBr)) : Cl Try.prog 6 #[.agg #[.slice ATr nTr cTr, vI Tj, .slice ABr nBr cBr, vI Bj, vI Lk, vF Lc0, vF Lc1, vF Lc2, vF Ls0, vF Ls1, vI Dk, vF Dc0, vF Dc1, vF Dc2, vF Ds0, vF Ds1, vF ne, vF fa], vF a] w fun v w' => v = .bool true ∧ Mod [] w w' := by
  refine Cl.of Try.func6 Try.ntmps6 rfl rfl (ρ := [(0, .agg #[.slice ATr nTr cTr, vI Tj, .slice ABr nBr cBr, vI Bj, vI Lk, vF Lc0, vF Lc1, vF Lc2, vF Ls0, vF Ls1, vI Dk, vF Dc0, vF Dc1, vF Dc2, vF Ds0, vF Ds1, vF ne, vF fa]), (1, vF a)]) rfl ?_
  refine CE.seq ?_
  refine CE.region ?_
  refine WL.op (op_box (cs := [.slice ATr nTr cTr, vI Tj, .slice ABr nBr cBr, vI Bj, vI Lk, vF Lc0, vF Lc1, vF Lc2, vF Ls0, vF Ls1, vI Dk, vF Dc0, vF Dc1, vF Dc2, vF Ds0, vF Ds1, vF ne, vF fa]) rfl rfl) rfl rfl (ltb rfl) ?_
  rintro _ w1 ⟨rfl, r1, m1, z1⟩
  refine WL.det (op_assign rfl) rfl rfl rfl ?_
  refine WL.end ?_
  refine NE.code ?_
  refine CE.seq ?_
  refine CE.region ?_
  refine WL.det (op_assign rfl) rfl rfl rfl ?_
  refine WL.end ?_
  refine NE.code ?_
  refine CE.seq ?_
  refine CE.region ?_
  refine WL.det (op_loadA (i := 0) (cs := [.slice ATr nTr cTr, vI Tj, .slice ABr nBr cBr, vI Bj, vI Lk, vF Lc0, vF Lc1, vF Lc2, vF Ls0, vF Ls1, vI Dk, vF Dc0, vF Dc1, vF Dc2, vF Ds0, vF Ds1, vF ne, vF fa]) rfl Try.isAgg58 Try.sizeOf58 r1.rng rfl rfl rfl) rfl rfl rfl ?_
  refine WL.det (op_move rfl) rfl rfl rfl ?_
  rcases Bool.eq_false_or_eq_true (decide (1048576 < nTr + nBr)) with hb1 | hb1
  · have hp1 := hb1; try simp only [Bool.and_eq_true, Bool.or_eq_true, Bool.not_eq_true', Bool.not_eq_false', Bool.and_eq_false_iff, Bool.or_eq_false_iff, decide_eq_true_eq, decide_eq_false_iff_not, beq_iff_eq, bne_iff_ne, beq_eq_false_iff_ne, bne_eq_false_iff_eq, ne_eq, Bool.false_eq_true, not_false_eq_true, not_true_eq_false, vIn_t, vIn_f] at hp1
    refine WL.call (oc_call (vs := [.agg #[.slice ATr nTr cTr, vI Tj, .slice ABr nBr cBr, vI Bj, vI Lk, vF Lc0, vF Lc1, vF Lc2, vF Ls0, vF Ls1, vI Dk, vF Dc0, vF Dc1, vF Dc2, vF Ds0, vF Ds1, vF ne, vF fa], vI 1048576]) (cap := []) rfl rfl rfl Try.call30 (c_szJet_over 1048576 nTr cTr ATr Tj nBr cBr ABr Bj Lk Lc0 Lc1 Lc2 Ls0 Ls1 Dk Dc0 Dc1 Dc2 Ds0 Ds1 ne fa (by omega) (by omega) (by omega) (by omega) w1)) rfl rfl (ltb rfl) ?_
    rintro _ w2 ⟨rfl, m2⟩
    refine WL.det (op_assign rfl) rfl rfl rfl ?_
    refine WL.end ?_
    refine NE.code ?_
    refine CE.seq ?_
    refine CE.seq ?_
    refine CE.region ?_
    refine WL.det (op_move rfl) rfl rfl rfl ?_
    refine WL.det (op_lti rfl rfl) rfl rfl rfl ?_
    refine WL.end ?_
    refine NE.code ?_
    refine CE.cond_t rfl rfl ?_
    refine CE.seq ?_
    refine CE.region ?_
    refine WL.det (op_assign rfl) rfl rfl rfl ?_
    refine WL.end ?_
    refine NE.code ?_
    refine CE.ret' ?_
    refine XE.ret_then ?_
    refine XE.leave1 Try.results6 rfl ?_
    refine ⟨rfl, (((Mod.refl [] w).nt m1).nt m2)⟩
  · have hp1 := hb1; try simp only [Bool.and_eq_true, Bool.or_eq_true, Bool.not_eq_true', Bool.not_eq_false', Bool.and_eq_false_iff, Bool.or_eq_false_iff, decide_eq_true_eq, decide_eq_false_iff_not, beq_iff_eq, bne_iff_ne, beq_eq_false_iff_ne, bne_eq_false_iff_eq, ne_eq, Bool.false_eq_true, not_false_eq_true, not_true_eq_false, vIn_t, vIn_f] at hp1
    refine WL.call (oc_call (vs := [.agg #[.slice ATr nTr cTr, vI Tj, .slice ABr nBr cBr, vI Bj, vI Lk, vF Lc0, vF Lc1, vF Lc2, vF Ls0, vF Ls1, vI Dk, vF Dc0, vF Dc1, vF Dc2, vF Ds0, vF Ds1, vF ne, vF fa], vI 1048576]) (cap := []) rfl rfl rfl Try.call30 (c_szJet 1048576 nTr cTr ATr Tj nBr cBr ABr Bj Lk Lc0 Lc1 Lc2 Ls0 Ls1 Dk Dc0 Dc1 Dc2 Ds0 Ds1 ne fa (by omega) (by omega) w1)) rfl rfl (ltb rfl) ?_
    rintro _ w3 ⟨rfl, m3⟩
    refine WL.det (op_assign rfl) rfl rfl rfl ?_
    refine WL.end ?_
    refine NE.code ?_
    refine CE.seq ?_
    refine CE.seq ?_
    refine CE.region ?_
    refine WL.det (op_move rfl) rfl rfl rfl ?_
    refine WL.det (op_lti_f rfl rfl (by omega)) rfl rfl rfl ?_
    refine WL.end ?_
    refine NE.code ?_
    refine CE.cond_f rfl rfl ?_
    refine CE.skip' ?_
    refine NE.code ?_
    refine CE.seq ?_
    refine CE.region ?_
    refine WL.det (op_loadA (i := 0) (cs := [.slice ATr nTr cTr, vI Tj, .slice ABr nBr cBr, vI Bj, vI Lk, vF Lc0, vF Lc1, vF Lc2, vF Ls0, vF Ls1, vI Dk, vF Dc0, vF Dc1, vF Dc2, vF Ds0, vF Ds1, vF ne, vF fa]) rfl Try.isAgg58 Try.sizeOf58 (r1.ext m3).rng rfl rfl rfl) rfl rfl rfl ?_
    refine WL.call (oc_call (vs := [.agg #[.slice ATr nTr cTr, vI Tj, .slice ABr nBr cBr, vI Bj, vI Lk, vF Lc0, vF Lc1, vF Lc2, vF Ls0, vF Ls1, vI Dk, vF Dc0, vF Dc1, vF Dc2, vF Ds0, vF Ds1, vF ne, vF fa]]) (cap := []) rfl rfl rfl Try.call32 (c_toJet nTr cTr ATr bTr oTr xTr Tj nBr cBr ABr bBr oBr xBr Bj Lk Lc0 Lc1 Lc2 Ls0 Ls1 Dk Dc0 Dc1 Dc2 Ds0 Ds1 ne fa lnTr hATr lnBr hABr (by omega) (by omega) w3 ((rTr.ext m1).ext m3) ((rBr.ext m1).ext m3))) rfl rfl (ltb rfl) ?_
    rintro _ w4 ⟨bTr'1, bBr'1, rfl, r2, r3, ge1, ge2, ne1, m4⟩
    refine WL.det (op_move rfl) rfl rfl rfl ?_
    refine WL.call (oc_call (vs := [.agg #[vS bTr'1 0 nTr nTr, vI Tj, vS bBr'1 0 nBr nBr, vI Bj, vI Lk, vF Lc0, vF Lc1, vF Lc2, vF Ls0, vF Ls1, vI Dk, vF Dc0, vF Dc1, vF Dc2, vF Ds0, vF Ds1, vF ne, vF fa], vF a]) (cap := []) rfl rfl rfl Try.call31 (c_sStepJet_bad nTr nTr bTr'1 xTr nBr nBr bBr'1 xBr Tj Bj Lk Lc0 Lc1 Lc2 Ls0 Ls1 Dk Dc0 Dc1 Dc2 Ds0 Ds1 ne fa a lnTr lnBr (by omega) (by omega) (by first | assumption | exact W32.get (by assumption) _ | decide +kernel) (by first | assumption | exact W32.get (by assumption) _ | decide +kernel) (by first | assumption | exact W32.get (by assumption) _ | decide +kernel) (by first | assumption | exact W32.get (by assumption) _ | decide +kernel) la (by assumption) w4 r2.rng r3.rng)) rfl rfl (ltb rfl) ?_
    rintro _ w5 ⟨rfl, m5⟩
    refine WL.det (op_move rfl) rfl rfl rfl ?_
    refine WL.det (op_extract rfl rfl) rfl rfl rfl ?_
    refine WL.det (op_extract rfl rfl) rfl rfl rfl ?_
    refine WL.det (op_extract rfl rfl) rfl rfl rfl ?_
    refine WL.op (op_alloc (cs := [.slice none 0 0, vI 0, .slice none 0 0, vI 0, vI 0, vF 0, vF 0, vF 0, vF 0, vF 0, vI 0, vF 0, vF 0, vF 0, vF 0, vF 0, vF 0, vF 0]) Try.zeroValue61 rfl) rfl rfl (ltb rfl) ?_
    rintro _ w6 ⟨rfl, r4, m6, z2⟩
    refine WL.op0 (op_store (i := 0) (cs := [.slice none 0 0, vI 0, .slice none 0 0, vI 0, vI 0, vF 0, vF 0, vF 0, vF 0, vF 0, vI 0, vF 0, vF 0, vF 0, vF 0, vF 0, vF 0, vF 0]) rfl rfl rfl Try.sizeOf61 rfl r4 rfl (lB rfl) rfl) rfl rfl ?_
    rintro _ w7 ⟨r5, m7, z3⟩
    have r6 : Row w7 w5.heap.size 0 [.slice none 0 0, vI 0, .slice none 0 0, vI 0, vI 0, vF 0, vF 0, vF 0, vF 0, vF 0, vI 0, vF 0, vF 0, vF 0, vF 0, vF 0, vF 0, vF 0] := Row.congr r5 rfl
    refine WL.det (op_assign rfl) rfl rfl rfl ?_
    refine WL.det (op_assign rfl) rfl rfl rfl ?_
    refine WL.end ?_
    refine NE.code ?_
    refine CE.seq ?_
    refine CE.region ?_
    refine WL.det (op_loadA (i := 0) (cs := [.slice ATr nTr cTr, vI Tj, .slice ABr nBr cBr, vI Bj, vI Lk, vF Lc0, vF Lc1, vF Lc2, vF Ls0, vF Ls1, vI Dk, vF Dc0, vF Dc1, vF Dc2, vF Ds0, vF Ds1, vF ne, vF fa]) rfl Try.isAgg58 Try.sizeOf58 (((((r1.ext m3).ext m4).ext m5).ext m6).mod m7 (nC (lE (lL (lL r1.lt (lT (lT m3.size m4.size) m5.size)) lR)) nN)).rng rfl rfl rfl) rfl rfl rfl ?_
    refine WL.call (oc_call (vs := [.agg #[.slice ATr nTr cTr, vI Tj, .slice ABr nBr cBr, vI Bj, vI Lk, vF Lc0, vF Lc1, vF Lc2, vF Ls0, vF Ls1, vI Dk, vF Dc0, vF Dc1, vF Dc2, vF Ds0, vF Ds1, vF ne, vF fa]]) (cap := []) rfl rfl rfl Try.call32 (c_toJet nTr cTr ATr bTr oTr xTr Tj nBr cBr ABr bBr oBr xBr Bj Lk Lc0 Lc1 Lc2 Ls0 Ls1 Dk Dc0 Dc1 Dc2 Ds0 Ds1 ne fa lnTr hATr lnBr hABr (by omega) (by omega) w7 (Rng.youngS rTr (((((rTr.ext m1).ext m3).ext m4).ext m5).ext m6) m7 (allge_cons (lT (lT (lT (lT m1.size m3.size) m4.size) m5.size) lR) allge_nil)) (Rng.youngS rBr (((((rBr.ext m1).ext m3).ext m4).ext m5).ext m6) m7 (allge_cons (lT (lT (lT (lT m1.size m3.size) m4.size) m5.size) lR) allge_nil)))) rfl rfl (ltb rfl) ?_
    rintro _ w8 ⟨bTr'2, bBr'2, rfl, r7, r8, ge3, ge4, ne2, m8⟩
    refine WL.op (op_alloc (cs := [.slice none 0 0, vI 0, .slice none 0 0, vI 0, vI 0, vF 0, vF 0, vF 0, vF 0, vF 0, vI 0, vF 0, vF 0, vF 0, vF 0, vF 0, vF 0, vF 0]) Try.zeroValue61 rfl) rfl rfl (ltb rfl) ?_
    rintro _ w9 ⟨rfl, r9, m9, z4⟩
    refine WL.op0 (op_store (i := 0) (cs := [vS bTr'2 0 nTr nTr, vI Tj, vS bBr'2 0 nBr nBr, vI Bj, vI Lk, vF Lc0, vF Lc1, vF Lc2, vF Ls0, vF Ls1, vI Dk, vF Dc0, vF Dc1, vF Dc2, vF Ds0, vF Ds1, vF ne, vF fa]) rfl rfl rfl Try.sizeOf61 rfl r9 rfl (lB rfl) rfl) rfl rfl ?_
    rintro _ w10 ⟨r10, m10, z5⟩
    have r11 : Row w10 w8.heap.size 0 [vS bTr'2 0 nTr nTr, vI Tj, vS bBr'2 0 nBr nBr, vI Bj, vI Lk, vF Lc0, vF Lc1, vF Lc2, vF Ls0, vF Ls1, vI Dk, vF Dc0, vF Dc1, vF Dc2, vF Ds0, vF Ds1, vF ne, vF fa] := Row.congr r10 rfl
    refine WL.end ?_
    refine NE.code ?_
    refine CE.seq ?_
    refine CE.region ?_
    refine WL.det (op_loadA (i := 0) (cs := [vS bTr'2 0 nTr nTr, vI Tj, vS bBr'2 0 nBr nBr, vI Bj, vI Lk, vF Lc0, vF Lc1, vF Lc2, vF Ls0, vF Ls1, vI Dk, vF Dc0, vF Dc1, vF Dc2, vF Ds0, vF Ds1, vF ne, vF fa]) rfl Try.isAgg61 Try.sizeOf61 r11.rng rfl rfl rfl) rfl rfl rfl ?_
    refine WL.det (op_move rfl) rfl rfl rfl ?_
    refine WL.call (oc_call (vs := [.agg #[vS bTr'2 0 nTr nTr, vI Tj, vS bBr'2 0 nBr nBr, vI Bj, vI Lk, vF Lc0, vF Lc1, vF Lc2, vF Ls0, vF Ls1, vI Dk, vF Dc0, vF Dc1, vF Dc2, vF Ds0, vF Ds1, vF ne, vF fa], vF a]) (cap := []) rfl rfl rfl Try.call33 (c_iStepJet_bad nTr nTr bTr'2 xTr nBr nBr bBr'2 xBr Tj Bj Lk Lc0 Lc1 Lc2 Ls0 Ls1 Dk Dc0 Dc1 Dc2 Ds0 Ds1 ne fa a lnTr lnBr (by omega) (by omega) (by first | assumption | exact W32.get (by assumption) _ | decide +kernel) (by first | assumption | exact W32.get (by assumption) _ | decide +kernel) (by first | assumption | exact W32.get (by assumption) _ | decide +kernel) (by first | assumption | exact W32.get (by assumption) _ | decide +kernel) la (by assumption) w10 ((r7.ext m9).mod m10 (nC (lE (lL r7.lt lR)) nN)).rng ((r8.ext m9).mod m10 (nC (lE (lL r8.lt lR)) nN)).rng)) rfl rfl (ltb rfl) ?_
    rintro _ w11 ⟨rfl, m11⟩
    refine WL.det (op_move rfl) rfl rfl rfl ?_
    refine WL.det (op_extract rfl rfl) rfl rfl rfl ?_
    refine WL.det (op_extract rfl rfl) rfl rfl rfl ?_
    refine WL.det (op_extract rfl rfl) rfl rfl rfl ?_
    refine WL.op (op_alloc (cs := [.slice none 0 0, vI 0, .slice none 0 0, vI 0, vI 0, vF 0, vF 0, vF 0, vF 0, vF 0, vI 0, vF 0, vF 0, vF 0, vF 0, vF 0, vF 0, vF 0]) Try.zeroValue61 rfl) rfl rfl (ltb rfl) ?_
    rintro _ w12 ⟨rfl, r12, m12, z6⟩
    refine WL.op0 (op_store (i := 0) (cs := [.slice none 0 0, vI 0, .slice none 0 0, vI 0, vI 0, vF 0, vF 0, vF 0, vF 0, vF 0, vI 0, vF 0, vF 0, vF 0, vF 0, vF 0, vF 0, vF 0]) rfl rfl rfl Try.sizeOf61 rfl r12 rfl (lB rfl) rfl) rfl rfl ?_
    rintro _ w13 ⟨r13, m13, z7⟩
    have r14 : Row w13 w11.heap.size 0 [.slice none 0 0, vI 0, .slice none 0 0, vI 0, vI 0, vF 0, vF 0, vF 0, vF 0, vF 0, vI 0, vF 0, vF 0, vF 0, vF 0, vF 0, vF 0, vF 0] := Row.congr r13 rfl
    refine WL.det (op_assign rfl) rfl rfl rfl ?_
    refine WL.det (op_assign rfl) rfl rfl rfl ?_
    refine WL.end ?_
    refine NE.code ?_
    refine CE.seq ?_
    refine CE.seq ?_
    refine CE.region ?_
    refine WL.det (op_loadA (i := 0) (cs := [.slice none 0 0, vI 0, .slice none 0 0, vI 0, vI 0, vF 0, vF 0, vF 0, vF 0, vF 0, vI 0, vF 0, vF 0, vF 0, vF 0, vF 0, vF 0, vF 0]) rfl Try.isAgg61 Try.sizeOf61 r14.rng rfl rfl rfl) rfl rfl rfl ?_
    refine WL.det (op_loadA (i := 0) (cs := [.slice none 0 0, vI 0, .slice none 0 0, vI 0, vI 0, vF 0, vF 0, vF 0, vF 0, vF 0, vI 0, vF 0, vF 0, vF 0, vF 0, vF 0, vF 0, vF 0]) rfl Try.isAgg61 Try.sizeOf61 ((((((r6.ext m8).ext m9).mod m10 (nC (lE (lL (lL r4.lt (lT m7.size m8.size)) lR)) nN)).ext m11).ext m12).mod m13 (nC (lE (lL (lL r4.lt (lT (lT (lT (lT m7.size m8.size) m9.size) m10.size) m11.size)) lR)) nN)).rng rfl rfl rfl) rfl rfl rfl ?_
    refine WL.call (oc_call (vs := [.agg #[.slice none 0 0, vI 0, .slice none 0 0, vI 0, vI 0, vF 0, vF 0, vF 0, vF 0, vF 0, vI 0, vF 0, vF 0, vF 0, vF 0, vF 0, vF 0, vF 0], .agg #[.slice none 0 0, vI 0, .slice none 0 0, vI 0, vI 0, vF 0, vF 0, vF 0, vF 0, vF 0, vI 0, vF 0, vF 0, vF 0, vF 0, vF 0, vF 0, vF 0]]) (cap := []) rfl rfl rfl Try.call34 (c_eqJet 0 0 none 0 0 [] (0 : Int) 0 0 none 0 0 [] (0 : Int) (0 : Int) 0 0 0 0 0 0 0 0 0 0 (0 : Int) 0 0 0 0 0 0 0 0 0 0 0 0 0 0 0 none 0 0 0 none 0 0 0 0 0 0 0 0 0 0 0 0 0 0 rfl (fun h => absurd h (Nat.lt_irrefl _)) rfl (fun h => absurd h (Nat.lt_irrefl _)) (fun h => absurd h (Nat.lt_irrefl _)) (fun h => absurd h (Nat.lt_irrefl _)) rfl rfl rfl rfl rfl rfl rfl rfl rfl rfl rfl rfl rfl rfl rfl rfl rfl rfl rfl rfl rfl rfl rfl rfl (by omega) (by omega) w13 (Rng.nil _ _ _) (Rng.nil _ _ _) (Rng.nil _ _ _) (Rng.nil _ _ _))) rfl rfl (ltb rfl) ?_
    rintro _ w14 ⟨rfl, m14⟩
    refine WL.det (op_not rfl) rfl rfl rfl ?_
    refine WL.det (op_move rfl) rfl rfl rfl ?_
    refine WL.yes rfl rfl rfl (ltb rfl) rfl rfl ?_
    refine WL.det (op_move rfl) rfl rfl rfl ?_
    refine WL.yes rfl rfl rfl (ltb rfl) rfl rfl ?_
    refine WL.op (op_widen (e := (wide 0)) rfl rfl Try.runUnderlying25 Try.runUnderlying67 rfl) rfl rfl (ltb rfl) ?_
    rintro _ w15 ⟨⟨f1, rfl, hf1, lf1⟩, m15⟩
    refine WL.yes rfl rfl rfl (ltb rfl) rfl rfl ?_
    refine WL.det (op_move rfl) rfl rfl rfl ?_
    refine WL.yes rfl rfl rfl (ltb rfl) rfl rfl ?_
    refine WL.op (op_widen (e := (wide 0)) rfl rfl Try.runUnderlying25 Try.runUnderlying67 rfl) rfl rfl (ltb rfl) ?_
    rintro _ w16 ⟨⟨f2, rfl, hf2, lf2⟩, m16⟩
    refine WL.yes rfl rfl rfl (ltb rfl) rfl rfl ?_
    refine WL.call (oc_call (vs := [.float .f64 f1, .float .f64 f2]) (cap := []) rfl rfl rfl Try.call35 (c_sameFloat f1 (wide 0) f2 (wide 0) hf1 hf2 w16)) rfl rfl (ltb rfl) ?_
    rintro _ w17 ⟨rfl, m17⟩
    refine WL.yes rfl rfl rfl (ltb rfl) rfl rfl ?_
    refine WL.det (op_not rfl) rfl rfl rfl ?_
    refine WL.det (op_pick_f rfl rfl rfl) rfl rfl rfl ?_
    refine WL.det (op_move rfl) rfl rfl rfl ?_
    refine WL.yes rfl rfl rfl (ltb rfl) rfl (bnot_t (sameF_self _)) ?_
    refine WL.det (op_move rfl) rfl rfl rfl ?_
    refine WL.yes rfl rfl rfl (ltb rfl) rfl (bnot_t (sameF_self _)) ?_
    refine WL.det (op_move rfl) rfl rfl rfl ?_
    refine WL.yes rfl rfl rfl (ltb rfl) rfl (bnot_t (sameF_self _)) ?_
    refine WL.det (op_nei rfl rfl) rfl rfl rfl ?_
    refine WL.det (op_pick_f rfl (bnot_t (sameF_self _)) rfl) rfl rfl rfl ?_
    refine WL.end ?_
    refine NE.code ?_
    refine CE.cond_f rfl rfl ?_
    refine CE.skip' ?_
    refine NE.code ?_
    refine CE.seq ?_
    refine CE.seq ?_
    refine CE.draw (fun | 2 => some (fun _ wA uA wB => ∃ (bTr' : Nat) (bBr' : Nat), uA = .agg #[vS bTr' 0 nTr nTr, vI Tj, vS bBr' 0 nBr nBr, vI Bj, vI Lk, vF Lc0, vF Lc1, vF Lc2, vF Ls0, vF Ls1, vI Dk, vF Dc0, vF Dc1, vF Dc2, vF Ds0, vF Ds1, vF ne, vF fa] ∧ Row wB bTr' 0 (fl xTr) ∧ Row wB bBr' 0 (fl xBr) ∧ wA.heap.size ≤ bTr' ∧ wA.heap.size ≤ bBr' ∧ bTr' ≠ bBr' ∧ Mod [] wA wB) | _ => none) [0, 1, 2] [3, 4] [] (by kernel_rfl) (by kernel_rfl) ?_
    have md1 : Mod [] w17 w17.drew := (Mod.refl _ _).drew
    generalize w17.drew = w18 at md1 ⊢
    refine DR.det (i := 0) rfl rfl (by kernel_rfl) (.free rfl) rfl rfl (fun wD mD => op_loadA (i := 0) (cs := [vS bTr'2 0 nTr nTr, vI Tj, vS bBr'2 0 nBr nBr, vI Bj, vI Lk, vF Lc0, vF Lc1, vF Lc2, vF Ls0, vF Ls1, vI Dk, vF Dc0, vF Dc1, vF Dc2, vF Ds0, vF Ds1, vF ne, vF fa]) rfl Try.isAgg61 Try.sizeOf61 (((((((((r11.ext m11).ext m12).mod m13 (nC (lE (lL (lL r9.lt (lT m10.size m11.size)) lR)) nN)).ext m14).ext m15).ext m16).ext m17).ext md1).ext mD).rng rfl rfl rfl) ?_
    refine DR.det (i := 1) rfl rfl (by kernel_rfl) (.free rfl) rfl rfl (fun wD mD => op_loadA (i := 0) (cs := [.slice ATr nTr cTr, vI Tj, .slice ABr nBr cBr, vI Bj, vI Lk, vF Lc0, vF Lc1, vF Lc2, vF Ls0, vF Ls1, vI Dk, vF Dc0, vF Dc1, vF Dc2, vF Ds0, vF Ds1, vF ne, vF fa]) rfl Try.isAgg58 Try.sizeOf58 (((((((((((((((((r1.ext m3).ext m4).ext m5).ext m6).mod m7 (nC (lE (lL (lL r1.lt (lT (lT m3.size m4.size) m5.size)) lR)) nN)).ext m8).ext m9).mod m10 (nC (lE (lL (lL r1.lt (lT (lT (lT (lT (lT m3.size m4.size) m5.size) m6.size) m7.size) m8.size)) lR)) nN)).ext m11).ext m12).mod m13 (nC (lE (lL (lL r1.lt (lT (lT (lT (lT (lT (lT (lT (lT m3.size m4.size) m5.size) m6.size) m7.size) m8.size) m9.size) m10.size) m11.size)) lR)) nN)).ext m14).ext m15).ext m16).ext m17).ext md1).ext mD).rng rfl rfl rfl) ?_
    refine DR.one (i := 2) rfl rfl (by kernel_rfl) (.free rfl) rfl (ltb rfl) (vs := [.func (.func 32) #[] #[], .agg #[.slice ATr nTr cTr, vI Tj, .slice ABr nBr cBr, vI Bj, vI Lk, vF Lc0, vF Lc1, vF Lc2, vF Ls0, vF Ls1, vI Dk, vF Dc0, vF Dc1, vF Dc2, vF Ds0, vF Ds1, vF ne, vF fa]]) rfl ?_
    intro w19 m18
    refine ⟨oc_call (vs := [.agg #[.slice ATr nTr cTr, vI Tj, .slice ABr nBr cBr, vI Bj, vI Lk, vF Lc0, vF Lc1, vF Lc2, vF Ls0, vF Ls1, vI Dk, vF Dc0, vF Dc1, vF Dc2, vF Ds0, vF Ds1, vF ne, vF fa]]) (cap := []) rfl rfl rfl Try.call32 (c_toJet nTr cTr ATr bTr oTr xTr Tj nBr cBr ABr bBr oBr xBr Bj Lk Lc0 Lc1 Lc2 Ls0 Ls1 Dk Dc0 Dc1 Dc2 Ds0 Ds1 ne fa lnTr hATr lnBr hABr (by omega) (by omega) w19 (((((((Rng.youngS rTr (((Rng.youngS rTr (((Rng.youngS rTr (((((rTr.ext m1).ext m3).ext m4).ext m5).ext m6) m7 (allge_cons (lT (lT (lT (lT m1.size m3.size) m4.size) m5.size) lR) allge_nil)).ext m8).ext m9) m10 (allge_cons (lT (lT (lT (lT (lT (lT (lT m1.size m3.size) m4.size) m5.size) m6.size) m7.size) m8.size) lR) allge_nil)).ext m11).ext m12) m13 (allge_cons (lT (lT (lT (lT (lT (lT (lT (lT (lT (lT m1.size m3.size) m4.size) m5.size) m6.size) m7.size) m8.size) m9.size) m10.size) m11.size) lR) allge_nil)).ext m14).ext m15).ext m16).ext m17).ext md1).ext m18) (((((((Rng.youngS rBr (((Rng.youngS rBr (((Rng.youngS rBr (((((rBr.ext m1).ext m3).ext m4).ext m5).ext m6) m7 (allge_cons (lT (lT (lT (lT m1.size m3.size) m4.size) m5.size) lR) allge_nil)).ext m8).ext m9) m10 (allge_cons (lT (lT (lT (lT (lT (lT (lT m1.size m3.size) m4.size) m5.size) m6.size) m7.size) m8.size) lR) allge_nil)).ext m11).ext m12) m13 (allge_cons (lT (lT (lT (lT (lT (lT (lT (lT (lT (lT m1.size m3.size) m4.size) m5.size) m6.size) m7.size) m8.size) m9.size) m10.size) m11.size) lR) allge_nil)).ext m14).ext m15).ext m16).ext m17).ext md1).ext m18)), ?_⟩
    rintro _ w20 ⟨bTr'3, bBr'3, rfl, r15, r16, ge5, ge6, ne3, m19⟩
    refine ⟨(((Mod.refl [] w18).nt m18).nt m19), ?_⟩
    refine DR.done rfl ?_
    intro w21 m20
    refine WO.call rfl (.free rfl) rfl (ltb rfl) (oc_call (vs := [.agg #[vS bTr'2 0 nTr nTr, vI Tj, vS bBr'2 0 nBr nBr, vI Bj, vI Lk, vF Lc0, vF Lc1, vF Lc2, vF Ls0, vF Ls1, vI Dk, vF Dc0, vF Dc1, vF Dc2, vF Ds0, vF Ds1, vF ne, vF fa], .agg #[vS bTr'3 0 nTr nTr, vI Tj, vS bBr'3 0 nBr nBr, vI Bj, vI Lk, vF Lc0, vF Lc1, vF Lc2, vF Ls0, vF Ls1, vI Dk, vF Dc0, vF Dc1, vF Dc2, vF Ds0, vF Ds1, vF ne, vF fa]]) (cap := []) rfl rfl rfl Try.call34 (c_eqJet nTr nTr (some ⟨bTr'2, 0, none⟩) bTr'2 0 xTr Tj nBr nBr (some ⟨bBr'2, 0, none⟩) bBr'2 0 xBr Bj Lk Lc0 Lc0 Lc1 Lc1 Lc2 Lc2 Ls0 Ls0 Ls1 Ls1 Dk Dc0 Dc0 Dc1 Dc1 Dc2 Dc2 Ds0 Ds0 Ds1 Ds1 ne ne fa fa nTr (some ⟨bTr'3, 0, none⟩) bTr'3 0 nBr (some ⟨bBr'3, 0, none⟩) bBr'3 0 Lc0 Lc1 Lc2 Ls0 Ls1 Dc0 Dc1 Dc2 Ds0 Ds1 ne fa lnTr (fun _ => rfl) lnBr (fun _ => rfl) (fun _ => rfl) (fun _ => rfl) rfl rfl rfl rfl rfl rfl rfl rfl rfl rfl rfl rfl rfl rfl rfl rfl rfl rfl rfl rfl rfl rfl rfl rfl (by omega) (by omega) w21 (((((((((((((r7.ext m9).mod m10 (nC (lE (lL r7.lt lR)) nN)).ext m11).ext m12).mod m13 (nC (lE (lL (lL r7.lt (lT (lT m9.size m10.size) m11.size)) lR)) nN)).ext m14).ext m15).ext m16).ext m17).ext md1).ext m18).ext m19).ext m20).rng (((((((((((((r8.ext m9).mod m10 (nC (lE (lL r8.lt lR)) nN)).ext m11).ext m12).mod m13 (nC (lE (lL (lL r8.lt (lT (lT m9.size m10.size) m11.size)) lR)) nN)).ext m14).ext m15).ext m16).ext m17).ext md1).ext m18).ext m19).ext m20).rng (r15.ext m20).rng (r16.ext m20).rng)) ?_
    rintro _ w22 ⟨rfl, m21⟩
    refine WO.det (op_not rfl) rfl (.free rfl) rfl rfl ?_
    refine WO.end ?_
    refine NE.code ?_
    refine CE.cond_f rfl rfl ?_
    refine CE.skip' ?_
    refine NE.code ?_
    refine CE.seq ?_
    refine CE.region ?_
    refine WL.det (op_assign rfl) rfl rfl rfl ?_
    refine WL.end ?_
    refine NE.code ?_
    refine CE.seq ?_
    refine CE.region ?_
    refine WL.det (op_loadA (i := 0) (cs := [vS bTr'2 0 nTr nTr, vI Tj, vS bBr'2 0 nBr nBr, vI Bj, vI Lk, vF Lc0, vF Lc1, vF Lc2, vF Ls0, vF Ls1, vI Dk, vF Dc0, vF Dc1, vF Dc2, vF Ds0, vF Ds1, vF ne, vF fa]) rfl Try.isAgg61 Try.sizeOf61 ((((((((((((r11.ext m11).ext m12).mod m13 (nC (lE (lL (lL r9.lt (lT m10.size m11.size)) lR)) nN)).ext m14).ext m15).ext m16).ext m17).ext md1).ext m18).ext m19).ext m20).ext m21).rng rfl rfl rfl) rfl rfl rfl ?_
    refine WL.det (op_move rfl) rfl rfl rfl ?_
    refine WL.call (oc_call (vs := [.agg #[vS bTr'2 0 nTr nTr, vI Tj, vS bBr'2 0 nBr nBr, vI Bj, vI Lk, vF Lc0, vF Lc1, vF Lc2, vF Ls0, vF Ls1, vI Dk, vF Dc0, vF Dc1, vF Dc2, vF Ds0, vF Ds1, vF ne, vF fa], vI 1]) (cap := []) rfl rfl rfl Try.call36 (c_markJet nTr nTr bTr'2 xTr Tj nBr nBr bBr'2 xBr Bj Lk Lc0 Lc1 Lc2 Ls0 Ls1 Dk Dc0 Dc1 Dc2 Ds0 Ds1 ne fa 1 lnTr lnBr (by omega) (by omega) (by omega) w22 ((((((((((((((r7.ext m9).mod m10 (nC (lE (lL r7.lt lR)) nN)).ext m11).ext m12).mod m13 (nC (lE (lL (lL r7.lt (lT (lT m9.size m10.size) m11.size)) lR)) nN)).ext m14).ext m15).ext m16).ext m17).ext md1).ext m18).ext m19).ext m20).ext m21) ((((((((((((((r8.ext m9).mod m10 (nC (lE (lL r8.lt lR)) nN)).ext m11).ext m12).mod m13 (nC (lE (lL (lL r8.lt (lT (lT m9.size m10.size) m11.size)) lR)) nN)).ext m14).ext m15).ext m16).ext m17).ext md1).ext m18).ext m19).ext m20).ext m21) ne2)) rfl rfl (ltb rfl) ?_
    rintro _ w23 ⟨rfl, r17, r18, m22⟩
    refine WL.det (op_assign rfl) rfl rfl rfl ?_
    refine WL.end ?_
    refine NE.code ?_
    refine CE.seq ?_
    refine CE.seq ?_
    refine CE.region ?_
    refine WL.det (op_move rfl) rfl rfl rfl ?_
    refine WL.det (op_lti_f rfl rfl (by omega)) rfl rfl rfl ?_
    refine WL.det (op_move rfl) rfl rfl rfl ?_
    refine WL.yes rfl rfl rfl (ltb rfl) rfl rfl ?_
    refine WL.det (op_loadA (i := 0) (cs := [.slice none 0 0, vI 0, .slice none 0 0, vI 0, vI 0, vF 0, vF 0, vF 0, vF 0, vF 0, vI 0, vF 0, vF 0, vF 0, vF 0, vF 0, vF 0, vF 0]) rfl Try.isAgg61 Try.sizeOf61 ((((((((((r14.ext m14).ext m15).ext m16).ext m17).ext md1).ext m18).ext m19).ext m20).ext m21).mod m22 (nC (lG (lL (lL r7.lt (lT (lT m9.size m10.size) m11.size)) lR)) (nC (lG (lL (lL r8.lt (lT (lT m9.size m10.size) m11.size)) lR)) nN))).rng rfl rfl rfl) rfl rfl rfl ?_
    refine WL.yes rfl rfl rfl (ltb rfl) rfl rfl ?_
    refine WL.det (op_loadA (i := 0) (cs := [.slice none 0 0, vI 0, .slice none 0 0, vI 0, vI 0, vF 0, vF 0, vF 0, vF 0, vF 0, vI 0, vF 0, vF 0, vF 0, vF 0, vF 0, vF 0, vF 0]) rfl Try.isAgg61 Try.sizeOf61 ((((((((((((((((r6.ext m8).ext m9).mod m10 (nC (lE (lL (lL r4.lt (lT m7.size m8.size)) lR)) nN)).ext m11).ext m12).mod m13 (nC (lE (lL (lL r4.lt (lT (lT (lT (lT m7.size m8.size) m9.size) m10.size) m11.size)) lR)) nN)).ext m14).ext m15).ext m16).ext m17).ext md1).ext m18).ext m19).ext m20).ext m21).mod m22 (nC (lE (lL (lL r4.lt m7.size) ge3)) (nC (lE (lL (lL r4.lt m7.size) ge4)) nN))).rng rfl rfl rfl) rfl rfl rfl ?_
    refine WL.yes rfl rfl rfl (ltb rfl) rfl rfl ?_
    refine WL.call (oc_call (vs := [.agg #[.slice none 0 0, vI 0, .slice none 0 0, vI 0, vI 0, vF 0, vF 0, vF 0, vF 0, vF 0, vI 0, vF 0, vF 0, vF 0, vF 0, vF 0, vF 0, vF 0], .agg #[.slice none 0 0, vI 0, .slice none 0 0, vI 0, vI 0, vF 0, vF 0, vF 0, vF 0, vF 0, vI 0, vF 0, vF 0, vF 0, vF 0, vF 0, vF 0, vF 0]]) (cap := []) rfl rfl rfl Try.call34 (c_eqJet 0 0 none 0 0 [] (0 : Int) 0 0 none 0 0 [] (0 : Int) (0 : Int) 0 0 0 0 0 0 0 0 0 0 (0 : Int) 0 0 0 0 0 0 0 0 0 0 0 0 0 0 0 none 0 0 0 none 0 0 0 0 0 0 0 0 0 0 0 0 0 0 rfl (fun h => absurd h (Nat.lt_irrefl _)) rfl (fun h => absurd h (Nat.lt_irrefl _)) (fun h => absurd h (Nat.lt_irrefl _)) (fun h => absurd h (Nat.lt_irrefl _)) rfl rfl rfl rfl rfl rfl rfl rfl rfl rfl rfl rfl rfl rfl rfl rfl rfl rfl rfl rfl rfl rfl rfl rfl (by omega) (by omega) w23 (Rng.nil _ _ _) (Rng.nil _ _ _) (Rng.nil _ _ _) (Rng.nil _ _ _))) rfl rfl (ltb rfl) ?_
    rintro _ w24 ⟨rfl, m23⟩
    refine WL.yes rfl rfl rfl (ltb rfl) rfl rfl ?_
    refine WL.det (op_not rfl) rfl rfl rfl ?_
    refine WL.det (op_pick_f rfl rfl rfl) rfl rfl rfl ?_
    refine WL.det (op_move rfl) rfl rfl rfl ?_
    refine WL.yes rfl rfl rfl (ltb rfl) rfl rfl ?_
    refine WL.det (op_move rfl) rfl rfl rfl ?_
    refine WL.yes rfl rfl rfl (ltb rfl) rfl rfl ?_
    refine WL.op (op_widen (e := (wide 0)) rfl rfl Try.runUnderlying25 Try.runUnderlying67 rfl) rfl rfl (ltb rfl) ?_
    rintro _ w25 ⟨⟨f3, rfl, hf3, lf3⟩, m24⟩
    refine WL.yes rfl rfl rfl (ltb rfl) rfl rfl ?_
    refine WL.det (op_move rfl) rfl rfl rfl ?_
    refine WL.yes rfl rfl rfl (ltb rfl) rfl rfl ?_
    refine WL.op (op_widen (e := (wide 0)) rfl rfl Try.runUnderlying25 Try.runUnderlying67 rfl) rfl rfl (ltb rfl) ?_
    rintro _ w26 ⟨⟨f4, rfl, hf4, lf4⟩, m25⟩
    refine WL.yes rfl rfl rfl (ltb rfl) rfl rfl ?_
    refine WL.call (oc_call (vs := [.float .f64 f3, .float .f64 f4]) (cap := []) rfl rfl rfl Try.call35 (c_sameFloat f3 (wide 0) f4 (wide 0) hf3 hf4 w26)) rfl rfl (ltb rfl) ?_
    rintro _ w27 ⟨rfl, m26⟩
    refine WL.yes rfl rfl rfl (ltb rfl) rfl rfl ?_
    refine WL.det (op_not rfl) rfl rfl rfl ?_
    refine WL.det (op_pick_f rfl rfl rfl) rfl rfl rfl ?_
    refine WL.det (op_move rfl) rfl rfl rfl ?_
    refine WL.yes rfl rfl rfl (ltb rfl) rfl (bnot_t (sameF_self _)) ?_
    refine WL.det (op_move rfl) rfl rfl rfl ?_
    refine WL.yes rfl rfl rfl (ltb rfl) rfl (bnot_t (sameF_self _)) ?_
    refine WL.det (op_move rfl) rfl rfl rfl ?_
    refine WL.yes rfl rfl rfl (ltb rfl) rfl (bnot_t (sameF_self _)) ?_
    refine WL.det (op_nei rfl rfl) rfl rfl rfl ?_
    refine WL.det (op_pick_f rfl (bnot_t (sameF_self _)) rfl) rfl rfl rfl ?_
    refine WL.end ?_
    refine NE.code ?_
    refine CE.cond_f rfl rfl ?_
    refine CE.skip' ?_
    refine NE.code ?_
    refine CE.seq ?_
    refine CE.region ?_
    refine WL.det (op_assign rfl) rfl rfl rfl ?_
    refine WL.end ?_
    refine NE.code ?_
    refine CE.seq ?_
    refine CE.region ?_
    refine WL.det (op_loadA (i := 0) (cs := [.slice none 0 0, vI 0, .slice none 0 0, vI 0, vI 0, vF 0, vF 0, vF 0, vF 0, vF 0, vI 0, vF 0, vF 0, vF 0, vF 0, vF 0, vF 0, vF 0]) rfl Try.isAgg61 Try.sizeOf61 ((((((((((((((r14.ext m14).ext m15).ext m16).ext m17).ext md1).ext m18).ext m19).ext m20).ext m21).mod m22 (nC (lG (lL (lL r7.lt (lT (lT m9.size m10.size) m11.size)) lR)) (nC (lG (lL (lL r8.lt (lT (lT m9.size m10.size) m11.size)) lR)) nN))).ext m23).ext m24).ext m25).ext m26).rng rfl rfl rfl) rfl rfl rfl ?_
    refine WL.det (op_move rfl) rfl rfl rfl ?_
    refine WL.call (oc_call (vs := [.agg #[.slice none 0 0, vI 0, .slice none 0 0, vI 0, vI 0, vF 0, vF 0, vF 0, vF 0, vF 0, vI 0, vF 0, vF 0, vF 0, vF 0, vF 0, vF 0, vF 0], vI 1]) (cap := []) rfl rfl rfl Try.call36 (c_markJet_nil (0 : Int) (0 : Int) (0 : Int) 0 0 0 0 0 (0 : Int) 0 0 0 0 0 0 0 1 (by omega) w27)) rfl rfl (ltb rfl) ?_
    rintro _ w28 ⟨rfl, m27⟩
    refine WL.det (op_assign rfl) rfl rfl rfl ?_
    refine WL.end ?_
    refine NE.code ?_
    refine CE.seq ?_
    refine CE.region ?_
    refine WL.det (op_assign rfl) rfl rfl rfl ?_
    refine WL.end ?_
    refine NE.code ?_
    refine CE.seq ?_
    refine CE.region ?_
    refine WL.det (op_loadA (i := 0) (cs := [.slice none 0 0, vI 0, .slice none 0 0, vI 0, vI 0, vF 0, vF 0, vF 0, vF 0, vF 0, vI 0, vF 0, vF 0, vF 0, vF 0, vF 0, vF 0, vF 0]) rfl Try.isAgg61 Try.sizeOf61 (((((((((((((((r14.ext m14).ext m15).ext m16).ext m17).ext md1).ext m18).ext m19).ext m20).ext m21).mod m22 (nC (lG (lL (lL r7.lt (lT (lT m9.size m10.size) m11.size)) lR)) (nC (lG (lL (lL r8.lt (lT (lT m9.size m10.size) m11.size)) lR)) nN))).ext m23).ext m24).ext m25).ext m26).ext m27).rng rfl rfl rfl) rfl rfl rfl ?_
    refine WL.det (op_move rfl) rfl rfl rfl ?_
    refine WL.call (oc_call (vs := [.agg #[.slice none 0 0, vI 0, .slice none 0 0, vI 0, vI 0, vF 0, vF 0, vF 0, vF 0, vF 0, vI 0, vF 0, vF 0, vF 0, vF 0, vF 0, vF 0, vF 0], vI 1]) (cap := []) rfl rfl rfl Try.call37 (c_heldJet_nil (0 : Int) (0 : Int) (0 : Int) 0 0 0 0 0 (0 : Int) 0 0 0 0 0 0 0 1 (by omega) w28)) rfl rfl (ltb rfl) ?_
    rintro _ w29 ⟨rfl, m28⟩
    refine WL.det (op_assign rfl) rfl rfl rfl ?_
    refine WL.end ?_
    refine NE.code ?_
    refine CE.seq ?_
    refine CE.seq ?_
    refine CE.region ?_
    refine WL.det (op_move rfl) rfl rfl rfl ?_
    refine WL.det (op_lti rfl rfl) rfl rfl rfl ?_
    refine WL.end ?_
    refine NE.code ?_
    refine CE.cond_f rfl rfl ?_
    refine CE.skip' ?_
    refine NE.code ?_
    refine CE.seq ?_
    refine CE.seq ?_
    refine CE.region ?_
    refine WL.det (op_move rfl) rfl rfl rfl ?_
    refine WL.det (op_move rfl) rfl rfl rfl ?_
    refine WL.det (op_nei rfl rfl) rfl rfl rfl ?_
    refine WL.end ?_
    refine NE.code ?_
    refine CE.cond_f rfl rfl ?_
    refine CE.skip' ?_
    refine NE.code ?_
    refine CE.seq ?_
    refine CE.region ?_
    refine WL.det (op_loadA (i := 0) (cs := [.slice ATr nTr cTr, vI Tj, .slice ABr nBr cBr, vI Bj, vI Lk, vF Lc0, vF Lc1, vF Lc2, vF Ls0, vF Ls1, vI Dk, vF Dc0, vF Dc1, vF Dc2, vF Ds0, vF Ds1, vF ne, vF fa]) rfl Try.isAgg58 Try.sizeOf58 (((((((((((((((((((((((((((r1.ext m3).ext m4).ext m5).ext m6).mod m7 (nC (lE (lL (lL r1.lt (lT (lT m3.size m4.size) m5.size)) lR)) nN)).ext m8).ext m9).mod m10 (nC (lE (lL (lL r1.lt (lT (lT (lT (lT (lT m3.size m4.size) m5.size) m6.size) m7.size) m8.size)) lR)) nN)).ext m11).ext m12).mod m13 (nC (lE (lL (lL r1.lt (lT (lT (lT (lT (lT (lT (lT (lT m3.size m4.size) m5.size) m6.size) m7.size) m8.size) m9.size) m10.size) m11.size)) lR)) nN)).ext m14).ext m15).ext m16).ext m17).ext md1).ext m18).ext m19).ext m20).ext m21).mod m22 (nC (lE (lL (lL r1.lt (lT (lT (lT (lT m3.size m4.size) m5.size) m6.size) m7.size)) ge3)) (nC (lE (lL (lL r1.lt (lT (lT (lT (lT m3.size m4.size) m5.size) m6.size) m7.size)) ge4)) nN))).ext m23).ext m24).ext m25).ext m26).ext m27).ext m28).rng rfl rfl rfl) rfl rfl rfl ?_
    refine WL.call (oc_call (vs := [.agg #[.slice ATr nTr cTr, vI Tj, .slice ABr nBr cBr, vI Bj, vI Lk, vF Lc0, vF Lc1, vF Lc2, vF Ls0, vF Ls1, vI Dk, vF Dc0, vF Dc1, vF Dc2, vF Ds0, vF Ds1, vF ne, vF fa]]) (cap := []) rfl rfl rfl Try.call32 (c_toJet nTr cTr ATr bTr oTr xTr Tj nBr cBr ABr bBr oBr xBr Bj Lk Lc0 Lc1 Lc2 Ls0 Ls1 Dk Dc0 Dc1 Dc2 Ds0 Ds1 ne fa lnTr hATr lnBr hABr (by omega) (by omega) w29 (((((((Rng.youngS rTr ((((((((((Rng.youngS rTr (((Rng.youngS rTr (((Rng.youngS rTr (((((rTr.ext m1).ext m3).ext m4).ext m5).ext m6) m7 (allge_cons (lT (lT (lT (lT m1.size m3.size) m4.size) m5.size) lR) allge_nil)).ext m8).ext m9) m10 (allge_cons (lT (lT (lT (lT (lT (lT (lT m1.size m3.size) m4.size) m5.size) m6.size) m7.size) m8.size) lR) allge_nil)).ext m11).ext m12) m13 (allge_cons (lT (lT (lT (lT (lT (lT (lT (lT (lT (lT m1.size m3.size) m4.size) m5.size) m6.size) m7.size) m8.size) m9.size) m10.size) m11.size) lR) allge_nil)).ext m14).ext m15).ext m16).ext m17).ext md1).ext m18).ext m19).ext m20).ext m21) m22 (allge_cons (lT (lT (lT (lT (lT (lT m1.size m3.size) m4.size) m5.size) m6.size) m7.size) ge3) (allge_cons (lT (lT (lT (lT (lT (lT m1.size m3.size) m4.size) m5.size) m6.size) m7.size) ge4) allge_nil))).ext m23).ext m24).ext m25).ext m26).ext m27).ext m28) (((((((Rng.youngS rBr ((((((((((Rng.youngS rBr (((Rng.youngS rBr (((Rng.youngS rBr (((((rBr.ext m1).ext m3).ext m4).ext m5).ext m6) m7 (allge_cons (lT (lT (lT (lT m1.size m3.size) m4.size) m5.size) lR) allge_nil)).ext m8).ext m9) m10 (allge_cons (lT (lT (lT (lT (lT (lT (lT m1.size m3.size) m4.size) m5.size) m6.size) m7.size) m8.size) lR) allge_nil)).ext m11).ext m12) m13 (allge_cons (lT (lT (lT (lT (lT (lT (lT (lT (lT (lT m1.size m3.size) m4.size) m5.size) m6.size) m7.size) m8.size) m9.size) m10.size) m11.size) lR) allge_nil)).ext m14).ext m15).ext m16).ext m17).ext md1).ext m18).ext m19).ext m20).ext m21) m22 (allge_cons (lT (lT (lT (lT (lT (lT m1.size m3.size) m4.size) m5.size) m6.size) m7.size) ge3) (allge_cons (lT (lT (lT (lT (lT (lT m1.size m3.size) m4.size) m5.size) m6.size) m7.size) ge4) allge_nil))).ext m23).ext m24).ext m25).ext m26).ext m27).ext m28))) rfl rfl (ltb rfl) ?_
    rintro _ w30 ⟨bTr'4, bBr'4, rfl, r19, r20, ge7, ge8, ne4, m29⟩
    refine WL.det (op_move rfl) rfl rfl rfl ?_
    refine WL.call (oc_call (vs := [.agg #[vS bTr'4 0 nTr nTr, vI Tj, vS bBr'4 0 nBr nBr, vI Bj, vI Lk, vF Lc0, vF Lc1, vF Lc2, vF Ls0, vF Ls1, vI Dk, vF Dc0, vF Dc1, vF Dc2, vF Ds0, vF Ds1, vF ne, vF fa], vF a]) (cap := []) rfl rfl rfl Try.call33 (c_iStepJet_bad nTr nTr bTr'4 xTr nBr nBr bBr'4 xBr Tj Bj Lk Lc0 Lc1 Lc2 Ls0 Ls1 Dk Dc0 Dc1 Dc2 Ds0 Ds1 ne fa a lnTr lnBr (by omega) (by omega) (by first | assumption | exact W32.get (by assumption) _ | decide +kernel) (by first | assumption | exact W32.get (by assumption) _ | decide +kernel) (by first | assumption | exact W32.get (by assumption) _ | decide +kernel) (by first | assumption | exact W32.get (by assumption) _ | decide +kernel) la (by assumption) w30 r19.rng r20.rng)) rfl rfl (ltb rfl) ?_
    rintro _ w31 ⟨rfl, m30⟩
    refine WL.det (op_move rfl) rfl rfl rfl ?_
    refine WL.det (op_extract rfl rfl) rfl rfl rfl ?_
    refine WL.det (op_extract rfl rfl) rfl rfl rfl ?_
    refine WL.det (op_extract rfl rfl) rfl rfl rfl ?_
    refine WL.op (op_alloc (cs := [.slice none 0 0, vI 0, .slice none 0 0, vI 0, vI 0, vF 0, vF 0, vF 0, vF 0, vF 0, vI 0, vF 0, vF 0, vF 0, vF 0, vF 0, vF 0, vF 0]) Try.zeroValue61 rfl) rfl rfl (ltb rfl) ?_
    rintro _ w32 ⟨rfl, r21, m31, z8⟩
    refine WL.op0 (op_store (i := 0) (cs := [.slice none 0 0, vI 0, .slice none 0 0, vI 0, vI 0, vF 0, vF 0, vF 0, vF 0, vF 0, vI 0, vF 0, vF 0, vF 0, vF 0, vF 0, vF 0, vF 0]) rfl rfl rfl Try.sizeOf61 rfl r21 rfl (lB rfl) rfl) rfl rfl ?_
    rintro _ w33 ⟨r22, m32, z9⟩
    have r23 : Row w33 w31.heap.size 0 [.slice none 0 0, vI 0, .slice none 0 0, vI 0, vI 0, vF 0, vF 0, vF 0, vF 0, vF 0, vI 0, vF 0, vF 0, vF 0, vF 0, vF 0, vF 0, vF 0] := Row.congr r22 rfl
    refine WL.det (op_assign rfl) rfl rfl rfl ?_
    refine WL.det (op_assign rfl) rfl rfl rfl ?_
    refine WL.end ?_
    refine NE.code ?_
    refine CE.seq ?_
    refine CE.seq ?_
    refine CE.region ?_
    refine WL.det (op_loadA (i := 0) (cs := [.slice none 0 0, vI 0, .slice none 0 0, vI 0, vI 0, vF 0, vF 0, vF 0, vF 0, vF 0, vI 0, vF 0, vF 0, vF 0, vF 0, vF 0, vF 0, vF 0]) rfl Try.isAgg61 Try.sizeOf61 r23.rng rfl rfl rfl) rfl rfl rfl ?_
    refine WL.det (op_loadA (i := 0) (cs := [.slice none 0 0, vI 0, .slice none 0 0, vI 0, vI 0, vF 0, vF 0, vF 0, vF 0, vF 0, vI 0, vF 0, vF 0, vF 0, vF 0, vF 0, vF 0, vF 0]) rfl Try.isAgg61 Try.sizeOf61 ((((((((((((((((((((((((((r6.ext m8).ext m9).mod m10 (nC (lE (lL (lL r4.lt (lT m7.size m8.size)) lR)) nN)).ext m11).ext m12).mod m13 (nC (lE (lL (lL r4.lt (lT (lT (lT (lT m7.size m8.size) m9.size) m10.size) m11.size)) lR)) nN)).ext m14).ext m15).ext m16).ext m17).ext md1).ext m18).ext m19).ext m20).ext m21).mod m22 (nC (lE (lL (lL r4.lt m7.size) ge3)) (nC (lE (lL (lL r4.lt m7.size) ge4)) nN))).ext m23).ext m24).ext m25).ext m26).ext m27).ext m28).ext m29).ext m30).ext m31).mod m32 (nC (lE (lL (lL r4.lt (lT (lT (lT (lT (lT (lT (lT (lT (lT (lT (lT (lT (lT (lT (lT (lT (lT (lT (lT (lT (lT (lT (lT (lT m7.size m8.size) m9.size) m10.size) m11.size) m12.size) m13.size) m14.size) m15.size) m16.size) m17.size) md1.size) m18.size) m19.size) m20.size) m21.size) m22.size) m23.size) m24.size) m25.size) m26.size) m27.size) m28.size) m29.size) m30.size)) lR)) nN)).rng rfl rfl rfl) rfl rfl rfl ?_
    refine WL.call (oc_call (vs := [.agg #[.slice none 0 0, vI 0, .slice none 0 0, vI 0, vI 0, vF 0, vF 0, vF 0, vF 0, vF 0, vI 0, vF 0, vF 0, vF 0, vF 0, vF 0, vF 0, vF 0], .agg #[.slice none 0 0, vI 0, .slice none 0 0, vI 0, vI 0, vF 0, vF 0, vF 0, vF 0, vF 0, vI 0, vF 0, vF 0, vF 0, vF 0, vF 0, vF 0, vF 0]]) (cap := []) rfl rfl rfl Try.call34 (c_eqJet 0 0 none 0 0 [] (0 : Int) 0 0 none 0 0 [] (0 : Int) (0 : Int) 0 0 0 0 0 0 0 0 0 0 (0 : Int) 0 0 0 0 0 0 0 0 0 0 0 0 0 0 0 none 0 0 0 none 0 0 0 0 0 0 0 0 0 0 0 0 0 0 rfl (fun h => absurd h (Nat.lt_irrefl _)) rfl (fun h => absurd h (Nat.lt_irrefl _)) (fun h => absurd h (Nat.lt_irrefl _)) (fun h => absurd h (Nat.lt_irrefl _)) rfl rfl rfl rfl rfl rfl rfl rfl rfl rfl rfl rfl rfl rfl rfl rfl rfl rfl rfl rfl rfl rfl rfl rfl (by omega) (by omega) w33 (Rng.nil _ _ _) (Rng.nil _ _ _) (Rng.nil _ _ _) (Rng.nil _ _ _))) rfl rfl (ltb rfl) ?_
    rintro _ w34 ⟨rfl, m33⟩
    refine WL.det (op_not rfl) rfl rfl rfl ?_
    refine WL.det (op_move rfl) rfl rfl rfl ?_
    refine WL.yes rfl rfl rfl (ltb rfl) rfl rfl ?_
    refine WL.det (op_move rfl) rfl rfl rfl ?_
    refine WL.yes rfl rfl rfl (ltb rfl) rfl rfl ?_
    refine WL.op (op_widen (e := (wide 0)) rfl rfl Try.runUnderlying25 Try.runUnderlying67 rfl) rfl rfl (ltb rfl) ?_
    rintro _ w35 ⟨⟨f5, rfl, hf5, lf5⟩, m34⟩
    refine WL.yes rfl rfl rfl (ltb rfl) rfl rfl ?_
    refine WL.det (op_move rfl) rfl rfl rfl ?_
    refine WL.yes rfl rfl rfl (ltb rfl) rfl rfl ?_
    refine WL.op (op_widen (e := (wide 0)) rfl rfl Try.runUnderlying25 Try.runUnderlying67 rfl) rfl rfl (ltb rfl) ?_
    rintro _ w36 ⟨⟨f6, rfl, hf6, lf6⟩, m35⟩
    refine WL.yes rfl rfl rfl (ltb rfl) rfl rfl ?_
    refine WL.call (oc_call (vs := [.float .f64 f5, .float .f64 f6]) (cap := []) rfl rfl rfl Try.call35 (c_sameFloat f5 (wide 0) f6 (wide 0) hf5 hf6 w36)) rfl rfl (ltb rfl) ?_
    rintro _ w37 ⟨rfl, m36⟩
    refine WL.yes rfl rfl rfl (ltb rfl) rfl rfl ?_
    refine WL.det (op_not rfl) rfl rfl rfl ?_
    refine WL.det (op_pick_f rfl rfl rfl) rfl rfl rfl ?_
    refine WL.det (op_move rfl) rfl rfl rfl ?_
    refine WL.yes rfl rfl rfl (ltb rfl) rfl (bnot_t (sameF_self _)) ?_
    refine WL.det (op_move rfl) rfl rfl rfl ?_
    refine WL.yes rfl rfl rfl (ltb rfl) rfl (bnot_t (sameF_self _)) ?_
    refine WL.det (op_move rfl) rfl rfl rfl ?_
    refine WL.yes rfl rfl rfl (ltb rfl) rfl (bnot_t (sameF_self _)) ?_
    refine WL.det (op_nei rfl rfl) rfl rfl rfl ?_
    refine WL.det (op_pick_f rfl (bnot_t (sameF_self _)) rfl) rfl rfl rfl ?_
    refine WL.end ?_
    refine NE.code ?_
    refine CE.cond_f rfl rfl ?_
    refine CE.skip' ?_
    refine NE.code ?_
    refine CE.seq ?_
    refine CE.region ?_
    refine WL.det (op_assign rfl) rfl rfl rfl ?_
    refine WL.end ?_
    refine NE.code ?_
    refine CE.seq ?_
    refine CE.region ?_
    refine WL.det (op_loadA (i := 0) (cs := [.slice none 0 0, vI 0, .slice none 0 0, vI 0, vI 0, vF 0, vF 0, vF 0, vF 0, vF 0, vI 0, vF 0, vF 0, vF 0, vF 0, vF 0, vF 0, vF 0]) rfl Try.isAgg61 Try.sizeOf61 ((((((((((((((((((((((((r14.ext m14).ext m15).ext m16).ext m17).ext md1).ext m18).ext m19).ext m20).ext m21).mod m22 (nC (lG (lL (lL r7.lt (lT (lT m9.size m10.size) m11.size)) lR)) (nC (lG (lL (lL r8.lt (lT (lT m9.size m10.size) m11.size)) lR)) nN))).ext m23).ext m24).ext m25).ext m26).ext m27).ext m28).ext m29).ext m30).ext m31).mod m32 (nC (lE (lL (lL r12.lt (lT (lT (lT (lT (lT (lT (lT (lT (lT (lT (lT (lT (lT (lT (lT (lT (lT (lT m13.size m14.size) m15.size) m16.size) m17.size) md1.size) m18.size) m19.size) m20.size) m21.size) m22.size) m23.size) m24.size) m25.size) m26.size) m27.size) m28.size) m29.size) m30.size)) lR)) nN)).ext m33).ext m34).ext m35).ext m36).rng rfl rfl rfl) rfl rfl rfl ?_
    refine WL.det (op_move rfl) rfl rfl rfl ?_
    refine WL.call (oc_call (vs := [.agg #[.slice none 0 0, vI 0, .slice none 0 0, vI 0, vI 0, vF 0, vF 0, vF 0, vF 0, vF 0, vI 0, vF 0, vF 0, vF 0, vF 0, vF 0, vF 0, vF 0], vI 1]) (cap := []) rfl rfl rfl Try.call37 (c_heldJet_nil (0 : Int) (0 : Int) (0 : Int) 0 0 0 0 0 (0 : Int) 0 0 0 0 0 0 0 1 (by omega) w37)) rfl rfl (ltb rfl) ?_
    rintro _ w38 ⟨rfl, m37⟩
    refine WL.det (op_assign rfl) rfl rfl rfl ?_
    refine WL.end ?_
    refine NE.code ?_
    refine CE.seq ?_
    refine CE.seq ?_
    refine CE.region ?_
    refine WL.det (op_move rfl) rfl rfl rfl ?_
    refine WL.det (op_lti rfl rfl) rfl rfl rfl ?_
    refine WL.end ?_
    refine NE.code ?_
    refine CE.cond_f rfl rfl ?_
    refine CE.skip' ?_
    refine NE.code ?_
    refine CE.seq ?_
    refine CE.seq ?_
    refine CE.region ?_
    refine WL.det (op_move rfl) rfl rfl rfl ?_
    refine WL.det (op_move rfl) rfl rfl rfl ?_
    refine WL.det (op_nei rfl rfl) rfl rfl rfl ?_
    refine WL.end ?_
    refine NE.code ?_
    refine CE.cond_f rfl rfl ?_
    refine CE.skip' ?_
    refine NE.code ?_
    refine CE.seq ?_
    refine CE.region ?_
    refine WL.det (op_assign rfl) rfl rfl rfl ?_
    refine WL.end ?_
    refine NE.code ?_
    refine CE.ret' ?_
    refine XE.leave1 Try.results6 rfl ?_
    refine ⟨rfl, ((((((((((((((((((((((((((((((((((((((Mod.refl [] w).nt m1).nt m3).nt m4).nt m5).nt m6).then m7 ((aC (.inr (lT (lT (lT (lT m1.size m3.size) m4.size) m5.size) lR)) aN))).nt m8).nt m9).then m10 ((aC (.inr (lT (lT (lT (lT (lT (lT (lT m1.size m3.size) m4.size) m5.size) m6.size) m7.size) m8.size) lR)) aN))).nt m11).nt m12).then m13 ((aC (.inr (lT (lT (lT (lT (lT (lT (lT (lT (lT (lT m1.size m3.size) m4.size) m5.size) m6.size) m7.size) m8.size) m9.size) m10.size) m11.size) lR)) aN))).nt m14).nt m15).nt m16).nt m17).nt md1).nt m18).nt m19).nt m20).nt m21).then m22 ((aC (.inr (lT (lT (lT (lT (lT (lT m1.size m3.size) m4.size) m5.size) m6.size) m7.size) ge3)) (aC (.inr (lT (lT (lT (lT (lT (lT m1.size m3.size) m4.size) m5.size) m6.size) m7.size) ge4)) aN)))).nt m23).nt m24).nt m25).nt m26).nt m27).nt m28).nt m29).nt m30).nt m31).then m32 ((aC (.inr (lT (lT (lT (lT (lT (lT (lT (lT (lT (lT (lT (lT (lT (lT (lT (lT (lT (lT (lT (lT (lT (lT (lT (lT (lT (lT (lT (lT (lT (lT m1.size m3.size) m4.size) m5.size) m6.size) m7.size) m8.size) m9.size) m10.size) m11.size) m12.size) m13.size) m14.size) m15.size) m16.size) m17.size) md1.size) m18.size) m19.size) m20.size) m21.size) m22.size) m23.size) m24.size) m25.size) m26.size) m27.size) m28.size) m29.size) m30.size) lR)) aN))).nt m33).nt m34).nt m35).nt m36).nt m37)⟩

end Go.Proofs.Ytkgdhlhmckdcmaa
