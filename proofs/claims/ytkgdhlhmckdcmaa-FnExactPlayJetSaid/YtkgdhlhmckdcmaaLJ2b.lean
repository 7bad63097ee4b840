/- The law on playing a jet, walked. -/
import Derived.Test.YtkgdhlhmckdcmaaH4
import Derived.Test.YtkgdhlhmckdcmaaE8
set_option linter.unusedVariables false
set_option linter.unusedSimpArgs false
namespace Go.Proofs.Ytkgdhlhmckdcmaa

set_option maxRecDepth 100000 in
set_option maxHeartbeats 2000000 in
theorem law_playjet_lim (nTr : Nat) (cTr : Nat) (ATr : Option Addr) (bTr : Nat) (oTr : Nat) (xTr : List Nat) (nBr : Nat) (cBr : Nat) (ABr : Option Addr) (bBr : Nat) (oBr : Nat) (xBr : List Nat) (Lk : Int) (Lc0 : Nat) (Lc1 : Nat) (Lc2 : Nat) (Ls0 : Nat) (Ls1 : Nat) (Dk : Int) (Dc0 : Nat) (Dc1 : Nat) (Dc2 : Nat) (Ds0 : Nat) (Ds1 : Nat) (ne : Nat) (fa : Nat) (i : Nat) (h : Nat) (l : Nat) (cl : Nat) (Al : Option Addr) (bl : Nat) (ol : Nat) (ss : List Nat) (lnTr : xTr.length = nTr) (hATr : 0 < nTr → ATr = some ⟨bTr, oTr, none⟩) (lnBr : xBr.length = nBr) (hABr : 0 < nBr → ABr = some ⟨bBr, oBr, none⟩) (wTr : W32 xTr) (wBr : W32 xBr) (hi : i < nTr) (hh : h < nBr) (hn : nTr ≤ 1024) (hm : nBr ≤ 1024) (lLs0 : Ls0 < wid .f32) (lLs1 : Ls1 < wid .f32) (lDs0 : Ds0 < wid .f32) (lDs1 : Ds1 < wid .f32) (hv : vJet nTr ((i : Nat) : Int) nBr ((h : Nat) : Int) xTr xBr Lk Lc0 Lc1 Lc2 Ls0 Ls1 Dk Dc0 Dc1 Dc2 Ds0 Ds1 ne fa = true) (hll : 4096 < l) (hl2 : l ≤ 1048576) (ls : ss.length = l) (hAl : 0 < l → Al = some ⟨bl, ol, none⟩) (wl : W32 ss) (w : World) (rTr : Rng w bTr oTr (fl xTr)) (rBr : Rng w bBr oBr (fl xBr)) (rl : Rng w bl ol (fl ss)) : Cl Try.prog 8 #[.agg #[.slice ATr nTr cTr, vI ((i : Nat) : Int), .slice ABr nBr cBr, vI ((h : Nat) : Int), vI Lk, vF Lc0, vF Lc1, vF Lc2, vF Ls0, vF Ls1, vI Dk, vF Dc0, vF Dc1, vF Dc2, vF Ds0, vF Ds1, vF ne, vF fa], .slice Al l cl] w fun v w' => v = .bool true ∧ Mod [] w w' := by
  refine Cl.of Try.func8 Try.ntmps8 rfl rfl (ρ := [(0, .agg #[.slice ATr nTr cTr, vI ((i : Nat) : Int), .slice ABr nBr cBr, vI ((h : Nat) : Int), vI Lk, vF Lc0, vF Lc1, vF Lc2, vF Ls0, vF Ls1, vI Dk, vF Dc0, vF Dc1, vF Dc2, vF Ds0, vF Ds1, vF ne, vF fa]), (1, .slice Al l cl)]) rfl ?_
  refine CE.seq ?_
  refine CE.region ?_
  refine WL.op (op_box (cs := [.slice ATr nTr cTr, vI ((i : Nat) : Int), .slice ABr nBr cBr, vI ((h : Nat) : Int), vI Lk, vF Lc0, vF Lc1, vF Lc2, vF Ls0, vF Ls1, vI Dk, vF Dc0, vF Dc1, vF Dc2, vF Ds0, vF Ds1, vF ne, vF fa]) rfl rfl) rfl rfl (ltb rfl) ?_
  rintro _ w1 ⟨rfl, r1, m1, z1⟩
  refine WL.det (op_assign rfl) rfl rfl rfl ?_
  refine WL.end ?_
  refine NE.code ?_
  refine CE.seq ?_
  refine CE.seq ?_
  refine CE.region ?_
  refine WL.det (op_move rfl) rfl rfl rfl ?_
  refine WL.det (op_len rfl Try.runUnderlying22) rfl rfl rfl ?_
  refine WL.det (op_gti rfl rfl) rfl rfl rfl ?_
  refine WL.end ?_
  refine NE.code ?_
  refine CE.cond_f rfl (decide_eq_false (by omega)) ?_
  refine CE.skip' ?_
  refine NE.code ?_
  refine CE.seq ?_
  refine CE.region ?_
  refine WL.det (op_assign rfl) rfl rfl rfl ?_
  refine WL.end ?_
  refine NE.code ?_
  refine CE.seq ?_
  refine CE.region ?_
  refine WL.det (op_loadA (i := 0) (cs := [.slice ATr nTr cTr, vI ((i : Nat) : Int), .slice ABr nBr cBr, vI ((h : Nat) : Int), vI Lk, vF Lc0, vF Lc1, vF Lc2, vF Ls0, vF Ls1, vI Dk, vF Dc0, vF Dc1, vF Dc2, vF Ds0, vF Ds1, vF ne, vF fa]) rfl Try.isAgg58 Try.sizeOf58 r1.rng rfl rfl rfl) rfl rfl rfl ?_
  refine WL.det (op_move rfl) rfl rfl rfl ?_
  refine WL.call (oc_call (vs := [.agg #[.slice ATr nTr cTr, vI ((i : Nat) : Int), .slice ABr nBr cBr, vI ((h : Nat) : Int), vI Lk, vF Lc0, vF Lc1, vF Lc2, vF Ls0, vF Ls1, vI Dk, vF Dc0, vF Dc1, vF Dc2, vF Ds0, vF Ds1, vF ne, vF fa], vI 1048576]) (cap := []) rfl rfl rfl Try.call30 (c_szJet 1048576 nTr cTr ATr ((i : Nat) : Int) nBr cBr ABr ((h : Nat) : Int) Lk Lc0 Lc1 Lc2 Ls0 Ls1 Dk Dc0 Dc1 Dc2 Ds0 Ds1 ne fa (by omega) (by omega) w1)) rfl rfl (ltb rfl) ?_
  rintro _ w2 ⟨rfl, m2⟩
  refine WL.det (op_assign rfl) rfl rfl rfl ?_
  refine WL.end ?_
  refine NE.code ?_
  refine CE.seq ?_
  refine CE.seq ?_
  refine CE.region ?_
  refine WL.det (op_move rfl) rfl rfl rfl ?_
  refine WL.det (op_lti_f rfl rfl (by omega)) rfl rfl rfl ?_
  refine WL.end ?_
  refine NE.code ?_
  refine CE.cond_f rfl rfl ?_
  refine CE.skip' ?_
  refine NE.code ?_
  refine CE.seq ?_
  refine CE.region ?_
  refine WL.det (op_loadA (i := 0) (cs := [.slice ATr nTr cTr, vI ((i : Nat) : Int), .slice ABr nBr cBr, vI ((h : Nat) : Int), vI Lk, vF Lc0, vF Lc1, vF Lc2, vF Ls0, vF Ls1, vI Dk, vF Dc0, vF Dc1, vF Dc2, vF Ds0, vF Ds1, vF ne, vF fa]) rfl Try.isAgg58 Try.sizeOf58 (r1.ext m2).rng rfl rfl rfl) rfl rfl rfl ?_
  refine WL.call (oc_call (vs := [.agg #[.slice ATr nTr cTr, vI ((i : Nat) : Int), .slice ABr nBr cBr, vI ((h : Nat) : Int), vI Lk, vF Lc0, vF Lc1, vF Lc2, vF Ls0, vF Ls1, vI Dk, vF Dc0, vF Dc1, vF Dc2, vF Ds0, vF Ds1, vF ne, vF fa]]) (cap := []) rfl rfl rfl Try.call32 (c_toJet nTr cTr ATr bTr oTr xTr ((i : Nat) : Int) nBr cBr ABr bBr oBr xBr ((h : Nat) : Int) Lk Lc0 Lc1 Lc2 Ls0 Ls1 Dk Dc0 Dc1 Dc2 Ds0 Ds1 ne fa lnTr hATr lnBr hABr (by omega) (by omega) w2 ((rTr.ext m1).ext m2) ((rBr.ext m1).ext m2))) rfl rfl (ltb rfl) ?_
  rintro _ w3 ⟨bTr'1, bBr'1, rfl, r2, r3, ge1, ge2, ne1, m3⟩
  refine WL.det (op_move rfl) rfl rfl rfl ?_
  refine WL.call (oc_call (vs := [.slice Al l cl]) (cap := []) rfl rfl rfl Try.call41 (c_to32 l cl Al bl ol ss ls hAl (by omega) w3 (((rl.ext m1).ext m2).ext m3))) rfl rfl (ltb rfl) ?_
  rintro _ w4 ⟨b'1, rfl, r4, ge3, m4⟩
  refine WL.call (oc_call (vs := [.agg #[vS bTr'1 0 nTr nTr, vI ((i : Nat) : Int), vS bBr'1 0 nBr nBr, vI ((h : Nat) : Int), vI Lk, vF Lc0, vF Lc1, vF Lc2, vF Ls0, vF Ls1, vI Dk, vF Dc0, vF Dc1, vF Dc2, vF Ds0, vF Ds1, vF ne, vF fa], vS b'1 0 l l]) (cap := []) rfl rfl rfl Try.call40 (c_sPlayJet_lim nTr nTr bTr'1 xTr nBr nBr bBr'1 xBr i h Lk Lc0 Lc1 Lc2 Ls0 Ls1 Dk Dc0 Dc1 Dc2 Ds0 Ds1 ne fa l l (some ⟨b'1, 0, none⟩) b'1 0 ss lnTr lnBr (by omega) (by omega) (by omega) (by omega) (by omega) (by omega) (by first | assumption | exact W32.get (by assumption) _ | decide +kernel) (by first | assumption | exact W32.get (by assumption) _ | decide +kernel) (by first | assumption | exact W32.get (by assumption) _ | decide +kernel) (by first | assumption | exact W32.get (by assumption) _ | decide +kernel) ls (fun _ => rfl) (by first | assumption | exact W32.set (by assumption) (by first | assumption | exact wid_lt (by assumption)) | exact W32.zeros _ | exact W32.nil) (by omega) (by omega) (by assumption) w4 (r2.ext m4).rng (r3.ext m4).rng r4.rng)) rfl rfl (ltb rfl) ?_
  rintro _ w5 ⟨e'1, rfl, r5, ge4, m5⟩
  refine WL.det (op_move rfl) rfl rfl rfl ?_
  refine WL.det (op_extract rfl rfl) rfl rfl rfl ?_
  refine WL.det (op_extract rfl rfl) rfl rfl rfl ?_
  refine WL.det (op_extract rfl rfl) rfl rfl rfl ?_
  refine WL.op (op_alloc (cs := [.slice none 0 0, vI 0, .slice none 0 0, vI 0, vI 0, vF 0, vF 0, vF 0, vF 0, vF 0, vI 0, vF 0, vF 0, vF 0, vF 0, vF 0, vF 0, vF 0]) Try.zeroValue61 rfl) rfl rfl (ltb rfl) ?_
  rintro _ w6 ⟨rfl, r6, m6, z2⟩
  refine WL.op0 (op_store (i := 0) (cs := [.slice none 0 0, vI 0, .slice none 0 0, vI 0, vI 0, vF 0, vF 0, vF 0, vF 0, vF 0, vI 0, vF 0, vF 0, vF 0, vF 0, vF 0, vF 0, vF 0]) rfl rfl rfl Try.sizeOf61 rfl r6 rfl (lB rfl) rfl) rfl rfl ?_
  rintro _ w7 ⟨r7, m7, z3⟩
  have r8 : Row w7 w5.heap.size 0 [.slice none 0 0, vI 0, .slice none 0 0, vI 0, vI 0, vF 0, vF 0, vF 0, vF 0, vF 0, vI 0, vF 0, vF 0, vF 0, vF 0, vF 0, vF 0, vF 0] := Row.congr r7 rfl
  refine WL.det (op_assign rfl) rfl rfl rfl ?_
  refine WL.det (op_assign rfl) rfl rfl rfl ?_
  refine WL.end ?_
  refine NE.code ?_
  refine CE.seq ?_
  refine CE.region ?_
  refine WL.det (op_loadA (i := 0) (cs := [.slice ATr nTr cTr, vI ((i : Nat) : Int), .slice ABr nBr cBr, vI ((h : Nat) : Int), vI Lk, vF Lc0, vF Lc1, vF Lc2, vF Ls0, vF Ls1, vI Dk, vF Dc0, vF Dc1, vF Dc2, vF Ds0, vF Ds1, vF ne, vF fa]) rfl Try.isAgg58 Try.sizeOf58 ((((((r1.ext m2).ext m3).ext m4).ext m5).ext m6).mod m7 (nC (lE (lL (lL r1.lt (lT (lT (lT m2.size m3.size) m4.size) m5.size)) lR)) nN)).rng rfl rfl rfl) rfl rfl rfl ?_
  refine WL.call (oc_call (vs := [.agg #[.slice ATr nTr cTr, vI ((i : Nat) : Int), .slice ABr nBr cBr, vI ((h : Nat) : Int), vI Lk, vF Lc0, vF Lc1, vF Lc2, vF Ls0, vF Ls1, vI Dk, vF Dc0, vF Dc1, vF Dc2, vF Ds0, vF Ds1, vF ne, vF fa]]) (cap := []) rfl rfl rfl Try.call32 (c_toJet nTr cTr ATr bTr oTr xTr ((i : Nat) : Int) nBr cBr ABr bBr oBr xBr ((h : Nat) : Int) Lk Lc0 Lc1 Lc2 Ls0 Ls1 Dk Dc0 Dc1 Dc2 Ds0 Ds1 ne fa lnTr hATr lnBr hABr (by omega) (by omega) w7 (Rng.youngS rTr ((((((rTr.ext m1).ext m2).ext m3).ext m4).ext m5).ext m6) m7 (allge_cons (lT (lT (lT (lT (lT m1.size m2.size) m3.size) m4.size) m5.size) lR) allge_nil)) (Rng.youngS rBr ((((((rBr.ext m1).ext m2).ext m3).ext m4).ext m5).ext m6) m7 (allge_cons (lT (lT (lT (lT (lT m1.size m2.size) m3.size) m4.size) m5.size) lR) allge_nil)))) rfl rfl (ltb rfl) ?_
  rintro _ w8 ⟨bTr'2, bBr'2, rfl, r9, r10, ge5, ge6, ne2, m8⟩
  refine WL.op (op_alloc (cs := [.slice none 0 0, vI 0, .slice none 0 0, vI 0, vI 0, vF 0, vF 0, vF 0, vF 0, vF 0, vI 0, vF 0, vF 0, vF 0, vF 0, vF 0, vF 0, vF 0]) Try.zeroValue61 rfl) rfl rfl (ltb rfl) ?_
  rintro _ w9 ⟨rfl, r11, m9, z4⟩
  refine WL.op0 (op_store (i := 0) (cs := [vS bTr'2 0 nTr nTr, vI ((i : Nat) : Int), vS bBr'2 0 nBr nBr, vI ((h : Nat) : Int), vI Lk, vF Lc0, vF Lc1, vF Lc2, vF Ls0, vF Ls1, vI Dk, vF Dc0, vF Dc1, vF Dc2, vF Ds0, vF Ds1, vF ne, vF fa]) rfl rfl rfl Try.sizeOf61 rfl r11 rfl (lB rfl) rfl) rfl rfl ?_
  rintro _ w10 ⟨r12, m10, z5⟩
  have r13 : Row w10 w8.heap.size 0 [vS bTr'2 0 nTr nTr, vI ((i : Nat) : Int), vS bBr'2 0 nBr nBr, vI ((h : Nat) : Int), vI Lk, vF Lc0, vF Lc1, vF Lc2, vF Ls0, vF Ls1, vI Dk, vF Dc0, vF Dc1, vF Dc2, vF Ds0, vF Ds1, vF ne, vF fa] := Row.congr r12 rfl
  refine WL.end ?_
  refine NE.code ?_
  refine CE.seq ?_
  refine CE.region ?_
  refine WL.det (op_move rfl) rfl rfl rfl ?_
  refine WL.call (oc_call (vs := [.slice Al l cl]) (cap := []) rfl rfl rfl Try.call41 (c_to32 l cl Al bl ol ss ls hAl (by omega) w10 (Rng.youngS rl (((Rng.youngS rl ((((((rl.ext m1).ext m2).ext m3).ext m4).ext m5).ext m6) m7 (allge_cons (lT (lT (lT (lT (lT m1.size m2.size) m3.size) m4.size) m5.size) lR) allge_nil)).ext m8).ext m9) m10 (allge_cons (lT (lT (lT (lT (lT (lT (lT (lT m1.size m2.size) m3.size) m4.size) m5.size) m6.size) m7.size) m8.size) lR) allge_nil)))) rfl rfl (ltb rfl) ?_
  rintro _ w11 ⟨b'2, rfl, r14, ge7, m11⟩
  refine WL.det (op_assign rfl) rfl rfl rfl ?_
  refine WL.end ?_
  refine NE.code ?_
  refine CE.seq ?_
  refine CE.region ?_
  refine WL.det (op_loadA (i := 0) (cs := [vS bTr'2 0 nTr nTr, vI ((i : Nat) : Int), vS bBr'2 0 nBr nBr, vI ((h : Nat) : Int), vI Lk, vF Lc0, vF Lc1, vF Lc2, vF Ls0, vF Ls1, vI Dk, vF Dc0, vF Dc1, vF Dc2, vF Ds0, vF Ds1, vF ne, vF fa]) rfl Try.isAgg61 Try.sizeOf61 (r13.ext m11).rng rfl rfl rfl) rfl rfl rfl ?_
  refine WL.det (op_move rfl) rfl rfl rfl ?_
  refine WL.call (oc_call (vs := [.agg #[vS bTr'2 0 nTr nTr, vI ((i : Nat) : Int), vS bBr'2 0 nBr nBr, vI ((h : Nat) : Int), vI Lk, vF Lc0, vF Lc1, vF Lc2, vF Ls0, vF Ls1, vI Dk, vF Dc0, vF Dc1, vF Dc2, vF Ds0, vF Ds1, vF ne, vF fa], vS b'2 0 l l]) (cap := []) rfl rfl rfl Try.call42 (c_iPlayJet_lim nTr nTr bTr'2 xTr nBr nBr bBr'2 xBr i h Lk Lc0 Lc1 Lc2 Ls0 Ls1 Dk Dc0 Dc1 Dc2 Ds0 Ds1 ne fa l l (some ⟨b'2, 0, none⟩) b'2 0 ss lnTr lnBr (by omega) (by omega) (by omega) (by omega) (by omega) (by omega) (by first | assumption | exact W32.get (by assumption) _ | decide +kernel) (by first | assumption | exact W32.get (by assumption) _ | decide +kernel) (by first | assumption | exact W32.get (by assumption) _ | decide +kernel) (by first | assumption | exact W32.get (by assumption) _ | decide +kernel) ls (fun _ => rfl) (by first | assumption | exact W32.set (by assumption) (by first | assumption | exact wid_lt (by assumption)) | exact W32.zeros _ | exact W32.nil) (by omega) (by omega) (by assumption) w11 (((r9.ext m9).mod m10 (nC (lE (lL r9.lt lR)) nN)).ext m11).rng (((r10.ext m9).mod m10 (nC (lE (lL r10.lt lR)) nN)).ext m11).rng r14.rng)) rfl rfl (ltb rfl) ?_
  rintro _ w12 ⟨rfl, m12⟩
  refine WL.det (op_move rfl) rfl rfl rfl ?_
  refine WL.det (op_extract rfl rfl) rfl rfl rfl ?_
  refine WL.det (op_extract rfl rfl) rfl rfl rfl ?_
  refine WL.det (op_extract rfl rfl) rfl rfl rfl ?_
  refine WL.op (op_alloc (cs := [.slice none 0 0, vI 0, .slice none 0 0, vI 0, vI 0, vF 0, vF 0, vF 0, vF 0, vF 0, vI 0, vF 0, vF 0, vF 0, vF 0, vF 0, vF 0, vF 0]) Try.zeroValue61 rfl) rfl rfl (ltb rfl) ?_
  rintro _ w13 ⟨rfl, r15, m13, z6⟩
  refine WL.op0 (op_store (i := 0) (cs := [.slice none 0 0, vI 0, .slice none 0 0, vI 0, vI 0, vF 0, vF 0, vF 0, vF 0, vF 0, vI 0, vF 0, vF 0, vF 0, vF 0, vF 0, vF 0, vF 0]) rfl rfl rfl Try.sizeOf61 rfl r15 rfl (lB rfl) rfl) rfl rfl ?_
  rintro _ w14 ⟨r16, m14, z7⟩
  have r17 : Row w14 w12.heap.size 0 [.slice none 0 0, vI 0, .slice none 0 0, vI 0, vI 0, vF 0, vF 0, vF 0, vF 0, vF 0, vI 0, vF 0, vF 0, vF 0, vF 0, vF 0, vF 0, vF 0] := Row.congr r16 rfl
  refine WL.det (op_assign rfl) rfl rfl rfl ?_
  refine WL.det (op_assign rfl) rfl rfl rfl ?_
  refine WL.end ?_
  refine NE.code ?_
  refine CE.seq ?_
  refine CE.seq ?_
  refine CE.region ?_
  refine WL.det (op_loadA (i := 0) (cs := [.slice none 0 0, vI 0, .slice none 0 0, vI 0, vI 0, vF 0, vF 0, vF 0, vF 0, vF 0, vI 0, vF 0, vF 0, vF 0, vF 0, vF 0, vF 0, vF 0]) rfl Try.isAgg61 Try.sizeOf61 r17.rng rfl rfl rfl) rfl rfl rfl ?_
  refine WL.det (op_loadA (i := 0) (cs := [.slice none 0 0, vI 0, .slice none 0 0, vI 0, vI 0, vF 0, vF 0, vF 0, vF 0, vF 0, vI 0, vF 0, vF 0, vF 0, vF 0, vF 0, vF 0, vF 0]) rfl Try.isAgg61 Try.sizeOf61 (((((((r8.ext m8).ext m9).mod m10 (nC (lE (lL (lL r6.lt (lT m7.size m8.size)) lR)) nN)).ext m11).ext m12).ext m13).mod m14 (nC (lE (lL (lL r6.lt (lT (lT (lT (lT (lT m7.size m8.size) m9.size) m10.size) m11.size) m12.size)) lR)) nN)).rng rfl rfl rfl) rfl rfl rfl ?_
  refine WL.call (oc_call (vs := [.agg #[.slice none 0 0, vI 0, .slice none 0 0, vI 0, vI 0, vF 0, vF 0, vF 0, vF 0, vF 0, vI 0, vF 0, vF 0, vF 0, vF 0, vF 0, vF 0, vF 0], .agg #[.slice none 0 0, vI 0, .slice none 0 0, vI 0, vI 0, vF 0, vF 0, vF 0, vF 0, vF 0, vI 0, vF 0, vF 0, vF 0, vF 0, vF 0, vF 0, vF 0]]) (cap := []) rfl rfl rfl Try.call34 (c_eqJet 0 0 none 0 0 [] (0 : Int) 0 0 none 0 0 [] (0 : Int) (0 : Int) 0 0 0 0 0 0 0 0 0 0 (0 : Int) 0 0 0 0 0 0 0 0 0 0 0 0 0 0 0 none 0 0 0 none 0 0 0 0 0 0 0 0 0 0 0 0 0 0 rfl (fun h => absurd h (Nat.lt_irrefl _)) rfl (fun h => absurd h (Nat.lt_irrefl _)) (fun h => absurd h (Nat.lt_irrefl _)) (fun h => absurd h (Nat.lt_irrefl _)) rfl rfl rfl rfl rfl rfl rfl rfl rfl rfl rfl rfl rfl rfl rfl rfl rfl rfl rfl rfl rfl rfl rfl rfl (by omega) (by omega) w14 (Rng.nil _ _ _) (Rng.nil _ _ _) (Rng.nil _ _ _) (Rng.nil _ _ _))) rfl rfl (ltb rfl) ?_
  rintro _ w15 ⟨rfl, m15⟩
  refine WL.det (op_not rfl) rfl rfl rfl ?_
  refine WL.det (op_move rfl) rfl rfl rfl ?_
  refine WL.yes rfl rfl rfl (ltb rfl) rfl rfl ?_
  refine WL.det (op_move rfl) rfl rfl rfl ?_
  refine WL.yes rfl rfl rfl (ltb rfl) rfl rfl ?_
  refine WL.det (op_move rfl) rfl rfl rfl ?_
  refine WL.yes rfl rfl rfl (ltb rfl) rfl rfl ?_
  refine WL.call (oc_call (vs := [.slice none 0 0, vS e'1 0 0 0]) (cap := []) rfl rfl rfl Try.call43 (c_eq32_same 0 0 none 0 0 [] 0 (some ⟨e'1, 0, none⟩) e'1 0 rfl (fun h => absurd h (Nat.lt_irrefl _)) (fun _ => rfl) (by omega) w15 (Rng.nil _ _ _) ((((((((((r5.ext m6).mod m7 (nC (lE (lL r5.lt lR)) nN)).ext m8).ext m9).mod m10 (nC (lE (lL (lL r5.lt (lT (lT m6.size m7.size) m8.size)) lR)) nN)).ext m11).ext m12).ext m13).mod m14 (nC (lE (lL (lL r5.lt (lT (lT (lT (lT (lT (lT m6.size m7.size) m8.size) m9.size) m10.size) m11.size) m12.size)) lR)) nN)).ext m15).rng)) rfl rfl (ltb rfl) ?_
  rintro _ w16 ⟨rfl, m16⟩
  refine WL.yes rfl rfl rfl (ltb rfl) rfl rfl ?_
  refine WL.det (op_not rfl) rfl rfl rfl ?_
  refine WL.det (op_pick_f rfl rfl rfl) rfl rfl rfl ?_
  refine WL.det (op_move rfl) rfl rfl rfl ?_
  refine WL.yes rfl rfl rfl (ltb rfl) rfl rfl ?_
  refine WL.det (op_move rfl) rfl rfl rfl ?_
  refine WL.yes rfl rfl rfl (ltb rfl) rfl rfl ?_
  refine WL.det (op_move rfl) rfl rfl rfl ?_
  refine WL.yes rfl rfl rfl (ltb rfl) rfl rfl ?_
  refine WL.det (op_nei rfl rfl) rfl rfl rfl ?_
  refine WL.det (op_pick_f rfl rfl rfl) rfl rfl rfl ?_
  refine WL.end ?_
  refine NE.code ?_
  refine CE.cond_f rfl rfl ?_
  refine CE.skip' ?_
  refine NE.code ?_
  refine CE.seq ?_
  refine CE.seq ?_
  refine CE.draw (fun | 2 => some (fun _ wA uA wB => ∃ (bTr' : Nat) (bBr' : Nat), uA = .agg #[vS bTr' 0 nTr nTr, vI ((i : Nat) : Int), vS bBr' 0 nBr nBr, vI ((h : Nat) : Int), vI Lk, vF Lc0, vF Lc1, vF Lc2, vF Ls0, vF Ls1, vI Dk, vF Dc0, vF Dc1, vF Dc2, vF Ds0, vF Ds1, vF ne, vF fa] ∧ Row wB bTr' 0 (fl xTr) ∧ Row wB bBr' 0 (fl xBr) ∧ wA.heap.size ≤ bTr' ∧ wA.heap.size ≤ bBr' ∧ bTr' ≠ bBr' ∧ Mod [] wA wB) | _ => none) [0, 1, 2] [3, 4] [] (by kernel_rfl) (by kernel_rfl) ?_
  have md1 : Mod [] w16 w16.drew := (Mod.refl _ _).drew
  generalize w16.drew = w17 at md1 ⊢
  refine DR.det (i := 0) rfl rfl (by kernel_rfl) (.free rfl) rfl rfl (fun wD mD => op_loadA (i := 0) (cs := [vS bTr'2 0 nTr nTr, vI ((i : Nat) : Int), vS bBr'2 0 nBr nBr, vI ((h : Nat) : Int), vI Lk, vF Lc0, vF Lc1, vF Lc2, vF Ls0, vF Ls1, vI Dk, vF Dc0, vF Dc1, vF Dc2, vF Ds0, vF Ds1, vF ne, vF fa]) rfl Try.isAgg61 Try.sizeOf61 ((((((((r13.ext m11).ext m12).ext m13).mod m14 (nC (lE (lL (lL r11.lt (lT (lT m10.size m11.size) m12.size)) lR)) nN)).ext m15).ext m16).ext md1).ext mD).rng rfl rfl rfl) ?_
  refine DR.det (i := 1) rfl rfl (by kernel_rfl) (.free rfl) rfl rfl (fun wD mD => op_loadA (i := 0) (cs := [.slice ATr nTr cTr, vI ((i : Nat) : Int), .slice ABr nBr cBr, vI ((h : Nat) : Int), vI Lk, vF Lc0, vF Lc1, vF Lc2, vF Ls0, vF Ls1, vI Dk, vF Dc0, vF Dc1, vF Dc2, vF Ds0, vF Ds1, vF ne, vF fa]) rfl Try.isAgg58 Try.sizeOf58 (((((((((((((((((r1.ext m2).ext m3).ext m4).ext m5).ext m6).mod m7 (nC (lE (lL (lL r1.lt (lT (lT (lT m2.size m3.size) m4.size) m5.size)) lR)) nN)).ext m8).ext m9).mod m10 (nC (lE (lL (lL r1.lt (lT (lT (lT (lT (lT (lT m2.size m3.size) m4.size) m5.size) m6.size) m7.size) m8.size)) lR)) nN)).ext m11).ext m12).ext m13).mod m14 (nC (lE (lL (lL r1.lt (lT (lT (lT (lT (lT (lT (lT (lT (lT (lT m2.size m3.size) m4.size) m5.size) m6.size) m7.size) m8.size) m9.size) m10.size) m11.size) m12.size)) lR)) nN)).ext m15).ext m16).ext md1).ext mD).rng rfl rfl rfl) ?_
  refine DR.one (i := 2) rfl rfl (by kernel_rfl) (.free rfl) rfl (ltb rfl) (vs := [.func (.func 32) #[] #[], .agg #[.slice ATr nTr cTr, vI ((i : Nat) : Int), .slice ABr nBr cBr, vI ((h : Nat) : Int), vI Lk, vF Lc0, vF Lc1, vF Lc2, vF Ls0, vF Ls1, vI Dk, vF Dc0, vF Dc1, vF Dc2, vF Ds0, vF Ds1, vF ne, vF fa]]) rfl ?_
  intro w18 m17
  refine ⟨oc_call (vs := [.agg #[.slice ATr nTr cTr, vI ((i : Nat) : Int), .slice ABr nBr cBr, vI ((h : Nat) : Int), vI Lk, vF Lc0, vF Lc1, vF Lc2, vF Ls0, vF Ls1, vI Dk, vF Dc0, vF Dc1, vF Dc2, vF Ds0, vF Ds1, vF ne, vF fa]]) (cap := []) rfl rfl rfl Try.call32 (c_toJet nTr cTr ATr bTr oTr xTr ((i : Nat) : Int) nBr cBr ABr bBr oBr xBr ((h : Nat) : Int) Lk Lc0 Lc1 Lc2 Ls0 Ls1 Dk Dc0 Dc1 Dc2 Ds0 Ds1 ne fa lnTr hATr lnBr hABr (by omega) (by omega) w18 (((((Rng.youngS rTr ((((Rng.youngS rTr (((Rng.youngS rTr ((((((rTr.ext m1).ext m2).ext m3).ext m4).ext m5).ext m6) m7 (allge_cons (lT (lT (lT (lT (lT m1.size m2.size) m3.size) m4.size) m5.size) lR) allge_nil)).ext m8).ext m9) m10 (allge_cons (lT (lT (lT (lT (lT (lT (lT (lT m1.size m2.size) m3.size) m4.size) m5.size) m6.size) m7.size) m8.size) lR) allge_nil)).ext m11).ext m12).ext m13) m14 (allge_cons (lT (lT (lT (lT (lT (lT (lT (lT (lT (lT (lT (lT m1.size m2.size) m3.size) m4.size) m5.size) m6.size) m7.size) m8.size) m9.size) m10.size) m11.size) m12.size) lR) allge_nil)).ext m15).ext m16).ext md1).ext m17) (((((Rng.youngS rBr ((((Rng.youngS rBr (((Rng.youngS rBr ((((((rBr.ext m1).ext m2).ext m3).ext m4).ext m5).ext m6) m7 (allge_cons (lT (lT (lT (lT (lT m1.size m2.size) m3.size) m4.size) m5.size) lR) allge_nil)).ext m8).ext m9) m10 (allge_cons (lT (lT (lT (lT (lT (lT (lT (lT m1.size m2.size) m3.size) m4.size) m5.size) m6.size) m7.size) m8.size) lR) allge_nil)).ext m11).ext m12).ext m13) m14 (allge_cons (lT (lT (lT (lT (lT (lT (lT (lT (lT (lT (lT (lT m1.size m2.size) m3.size) m4.size) m5.size) m6.size) m7.size) m8.size) m9.size) m10.size) m11.size) m12.size) lR) allge_nil)).ext m15).ext m16).ext md1).ext m17)), ?_⟩
  rintro _ w19 ⟨bTr'3, bBr'3, rfl, r18, r19, ge8, ge9, ne3, m18⟩
  refine ⟨(((Mod.refl [] w17).nt m17).nt m18), ?_⟩
  refine DR.done rfl ?_
  intro w20 m19
  refine WO.call rfl (.free rfl) rfl (ltb rfl) (oc_call (vs := [.agg #[vS bTr'2 0 nTr nTr, vI ((i : Nat) : Int), vS bBr'2 0 nBr nBr, vI ((h : Nat) : Int), vI Lk, vF Lc0, vF Lc1, vF Lc2, vF Ls0, vF Ls1, vI Dk, vF Dc0, vF Dc1, vF Dc2, vF Ds0, vF Ds1, vF ne, vF fa], .agg #[vS bTr'3 0 nTr nTr, vI ((i : Nat) : Int), vS bBr'3 0 nBr nBr, vI ((h : Nat) : Int), vI Lk, vF Lc0, vF Lc1, vF Lc2, vF Ls0, vF Ls1, vI Dk, vF Dc0, vF Dc1, vF Dc2, vF Ds0, vF Ds1, vF ne, vF fa]]) (cap := []) rfl rfl rfl Try.call34 (c_eqJet nTr nTr (some ⟨bTr'2, 0, none⟩) bTr'2 0 xTr ((i : Nat) : Int) nBr nBr (some ⟨bBr'2, 0, none⟩) bBr'2 0 xBr ((h : Nat) : Int) Lk Lc0 Lc0 Lc1 Lc1 Lc2 Lc2 Ls0 Ls0 Ls1 Ls1 Dk Dc0 Dc0 Dc1 Dc1 Dc2 Dc2 Ds0 Ds0 Ds1 Ds1 ne ne fa fa nTr (some ⟨bTr'3, 0, none⟩) bTr'3 0 nBr (some ⟨bBr'3, 0, none⟩) bBr'3 0 Lc0 Lc1 Lc2 Ls0 Ls1 Dc0 Dc1 Dc2 Ds0 Ds1 ne fa lnTr (fun _ => rfl) lnBr (fun _ => rfl) (fun _ => rfl) (fun _ => rfl) rfl rfl rfl rfl rfl rfl rfl rfl rfl rfl rfl rfl rfl rfl rfl rfl rfl rfl rfl rfl rfl rfl rfl rfl (by omega) (by omega) w20 ((((((((((((r9.ext m9).mod m10 (nC (lE (lL r9.lt lR)) nN)).ext m11).ext m12).ext m13).mod m14 (nC (lE (lL (lL r9.lt (lT (lT (lT m9.size m10.size) m11.size) m12.size)) lR)) nN)).ext m15).ext m16).ext md1).ext m17).ext m18).ext m19).rng ((((((((((((r10.ext m9).mod m10 (nC (lE (lL r10.lt lR)) nN)).ext m11).ext m12).ext m13).mod m14 (nC (lE (lL (lL r10.lt (lT (lT (lT m9.size m10.size) m11.size) m12.size)) lR)) nN)).ext m15).ext m16).ext md1).ext m17).ext m18).ext m19).rng (r18.ext m19).rng (r19.ext m19).rng)) ?_
  rintro _ w21 ⟨rfl, m20⟩
  refine WO.det (op_not rfl) rfl (.free rfl) rfl rfl ?_
  refine WO.end ?_
  refine NE.code ?_
  refine CE.cond_f rfl rfl ?_
  refine CE.skip' ?_
  refine NE.code ?_
  refine CE.seq ?_
  refine CE.seq ?_
  refine CE.region ?_
  refine WL.det (op_move rfl) rfl rfl rfl ?_
  refine WL.det (op_move rfl) rfl rfl rfl ?_
  refine WL.call (oc_call (vs := [.slice Al l cl]) (cap := []) rfl rfl rfl Try.call41 (c_to32 l cl Al bl ol ss ls hAl (by omega) w21 ((((((((Rng.youngS rl ((((Rng.youngS rl (((Rng.youngS rl ((((((rl.ext m1).ext m2).ext m3).ext m4).ext m5).ext m6) m7 (allge_cons (lT (lT (lT (lT (lT m1.size m2.size) m3.size) m4.size) m5.size) lR) allge_nil)).ext m8).ext m9) m10 (allge_cons (lT (lT (lT (lT (lT (lT (lT (lT m1.size m2.size) m3.size) m4.size) m5.size) m6.size) m7.size) m8.size) lR) allge_nil)).ext m11).ext m12).ext m13) m14 (allge_cons (lT (lT (lT (lT (lT (lT (lT (lT (lT (lT (lT (lT m1.size m2.size) m3.size) m4.size) m5.size) m6.size) m7.size) m8.size) m9.size) m10.size) m11.size) m12.size) lR) allge_nil)).ext m15).ext m16).ext md1).ext m17).ext m18).ext m19).ext m20))) rfl rfl (ltb rfl) ?_
  rintro _ w22 ⟨b'3, rfl, r20, ge10, m21⟩
  refine WL.call (oc_call (vs := [vS b'2 0 l l, vS b'3 0 l l]) (cap := []) rfl rfl rfl Try.call43 (c_eq32_same l l (some ⟨b'2, 0, none⟩) b'2 0 ss l (some ⟨b'3, 0, none⟩) b'3 0 ls (fun _ => rfl) (fun _ => rfl) (by omega) w22 (((((((((((r14.ext m12).ext m13).mod m14 (nC (lE (lL (lL r14.lt m12.size) lR)) nN)).ext m15).ext m16).ext md1).ext m17).ext m18).ext m19).ext m20).ext m21).rng r20.rng)) rfl rfl (ltb rfl) ?_
  rintro _ w23 ⟨rfl, m22⟩
  refine WL.det (op_not rfl) rfl rfl rfl ?_
  refine WL.end ?_
  refine NE.code ?_
  refine CE.cond_f rfl rfl ?_
  refine CE.skip' ?_
  refine NE.code ?_
  refine CE.seq ?_
  refine CE.region ?_
  refine WL.det (op_assign rfl) rfl rfl rfl ?_
  refine WL.end ?_
  refine NE.code ?_
  refine CE.seq ?_
  refine CE.region ?_
  refine WL.det (op_loadA (i := 0) (cs := [vS bTr'2 0 nTr nTr, vI ((i : Nat) : Int), vS bBr'2 0 nBr nBr, vI ((h : Nat) : Int), vI Lk, vF Lc0, vF Lc1, vF Lc2, vF Ls0, vF Ls1, vI Dk, vF Dc0, vF Dc1, vF Dc2, vF Ds0, vF Ds1, vF ne, vF fa]) rfl Try.isAgg61 Try.sizeOf61 (((((((((((((r13.ext m11).ext m12).ext m13).mod m14 (nC (lE (lL (lL r11.lt (lT (lT m10.size m11.size) m12.size)) lR)) nN)).ext m15).ext m16).ext md1).ext m17).ext m18).ext m19).ext m20).ext m21).ext m22).rng rfl rfl rfl) rfl rfl rfl ?_
  refine WL.det (op_move rfl) rfl rfl rfl ?_
  refine WL.call (oc_call (vs := [.agg #[vS bTr'2 0 nTr nTr, vI ((i : Nat) : Int), vS bBr'2 0 nBr nBr, vI ((h : Nat) : Int), vI Lk, vF Lc0, vF Lc1, vF Lc2, vF Ls0, vF Ls1, vI Dk, vF Dc0, vF Dc1, vF Dc2, vF Ds0, vF Ds1, vF ne, vF fa], vI 1]) (cap := []) rfl rfl rfl Try.call36 (c_markJet nTr nTr bTr'2 xTr ((i : Nat) : Int) nBr nBr bBr'2 xBr ((h : Nat) : Int) Lk Lc0 Lc1 Lc2 Ls0 Ls1 Dk Dc0 Dc1 Dc2 Ds0 Ds1 ne fa 1 lnTr lnBr (by omega) (by omega) (by omega) w23 (((((((((((((((r9.ext m9).mod m10 (nC (lE (lL r9.lt lR)) nN)).ext m11).ext m12).ext m13).mod m14 (nC (lE (lL (lL r9.lt (lT (lT (lT m9.size m10.size) m11.size) m12.size)) lR)) nN)).ext m15).ext m16).ext md1).ext m17).ext m18).ext m19).ext m20).ext m21).ext m22) (((((((((((((((r10.ext m9).mod m10 (nC (lE (lL r10.lt lR)) nN)).ext m11).ext m12).ext m13).mod m14 (nC (lE (lL (lL r10.lt (lT (lT (lT m9.size m10.size) m11.size) m12.size)) lR)) nN)).ext m15).ext m16).ext md1).ext m17).ext m18).ext m19).ext m20).ext m21).ext m22) ne2)) rfl rfl (ltb rfl) ?_
  rintro _ w24 ⟨rfl, r21, r22, m23⟩
  refine WL.det (op_assign rfl) rfl rfl rfl ?_
  refine WL.end ?_
  refine NE.code ?_
  refine CE.seq ?_
  refine CE.region ?_
  refine WL.det (op_move rfl) rfl rfl rfl ?_
  refine WL.det (op_move rfl) rfl rfl rfl ?_
  refine WL.call (oc_call (vs := [vS b'2 0 l l, vI ((1 + nTr + nBr : Nat) : Int)]) (cap := []) rfl rfl rfl Try.call44 (c_mark32 l l (some ⟨b'2, 0, none⟩) b'2 0 ss (1 + nTr + nBr) ls (fun _ => rfl) (by omega) (by omega) w24 (((((((((((((r14.ext m12).ext m13).mod m14 (nC (lE (lL (lL r14.lt m12.size) lR)) nN)).ext m15).ext m16).ext md1).ext m17).ext m18).ext m19).ext m20).ext m21).ext m22).mod m23 (nC (lG (lL (lL r9.lt (lT m9.size m10.size)) ge7)) (nC (lG (lL (lL r10.lt (lT m9.size m10.size)) ge7)) nN))))) rfl rfl (ltb rfl) ?_
  rintro _ w25 ⟨rfl, r23, m24⟩
  refine WL.det (op_assign rfl) rfl rfl rfl ?_
  refine WL.end ?_
  refine NE.code ?_
  refine CE.seq ?_
  refine CE.seq ?_
  refine CE.region ?_
  refine WL.det (op_move rfl) rfl rfl rfl ?_
  refine WL.det (op_lti_f rfl rfl (by omega)) rfl rfl rfl ?_
  refine WL.det (op_move rfl) rfl rfl rfl ?_
  refine WL.yes rfl rfl rfl (ltb rfl) rfl rfl ?_
  refine WL.det (op_loadA (i := 0) (cs := [.slice none 0 0, vI 0, .slice none 0 0, vI 0, vI 0, vF 0, vF 0, vF 0, vF 0, vF 0, vI 0, vF 0, vF 0, vF 0, vF 0, vF 0, vF 0, vF 0]) rfl Try.isAgg61 Try.sizeOf61 (((((((((((r17.ext m15).ext m16).ext md1).ext m17).ext m18).ext m19).ext m20).ext m21).ext m22).mod m23 (nC (lG (lL (lL r9.lt (lT (lT (lT m9.size m10.size) m11.size) m12.size)) lR)) (nC (lG (lL (lL r10.lt (lT (lT (lT m9.size m10.size) m11.size) m12.size)) lR)) nN))).mod m24 (nC (lG (lL (lL r14.lt m12.size) lR)) nN)).rng rfl rfl rfl) rfl rfl rfl ?_
  refine WL.yes rfl rfl rfl (ltb rfl) rfl rfl ?_
  refine WL.det (op_loadA (i := 0) (cs := [.slice none 0 0, vI 0, .slice none 0 0, vI 0, vI 0, vF 0, vF 0, vF 0, vF 0, vF 0, vI 0, vF 0, vF 0, vF 0, vF 0, vF 0, vF 0, vF 0]) rfl Try.isAgg61 Try.sizeOf61 ((((((((((((((((((r8.ext m8).ext m9).mod m10 (nC (lE (lL (lL r6.lt (lT m7.size m8.size)) lR)) nN)).ext m11).ext m12).ext m13).mod m14 (nC (lE (lL (lL r6.lt (lT (lT (lT (lT (lT m7.size m8.size) m9.size) m10.size) m11.size) m12.size)) lR)) nN)).ext m15).ext m16).ext md1).ext m17).ext m18).ext m19).ext m20).ext m21).ext m22).mod m23 (nC (lE (lL (lL r6.lt m7.size) ge5)) (nC (lE (lL (lL r6.lt m7.size) ge6)) nN))).mod m24 (nC (lE (lL (lL r6.lt (lT (lT (lT m7.size m8.size) m9.size) m10.size)) ge7)) nN)).rng rfl rfl rfl) rfl rfl rfl ?_
  refine WL.yes rfl rfl rfl (ltb rfl) rfl rfl ?_
  refine WL.call (oc_call (vs := [.agg #[.slice none 0 0, vI 0, .slice none 0 0, vI 0, vI 0, vF 0, vF 0, vF 0, vF 0, vF 0, vI 0, vF 0, vF 0, vF 0, vF 0, vF 0, vF 0, vF 0], .agg #[.slice none 0 0, vI 0, .slice none 0 0, vI 0, vI 0, vF 0, vF 0, vF 0, vF 0, vF 0, vI 0, vF 0, vF 0, vF 0, vF 0, vF 0, vF 0, vF 0]]) (cap := []) rfl rfl rfl Try.call34 (c_eqJet 0 0 none 0 0 [] (0 : Int) 0 0 none 0 0 [] (0 : Int) (0 : Int) 0 0 0 0 0 0 0 0 0 0 (0 : Int) 0 0 0 0 0 0 0 0 0 0 0 0 0 0 0 none 0 0 0 none 0 0 0 0 0 0 0 0 0 0 0 0 0 0 rfl (fun h => absurd h (Nat.lt_irrefl _)) rfl (fun h => absurd h (Nat.lt_irrefl _)) (fun h => absurd h (Nat.lt_irrefl _)) (fun h => absurd h (Nat.lt_irrefl _)) rfl rfl rfl rfl rfl rfl rfl rfl rfl rfl rfl rfl rfl rfl rfl rfl rfl rfl rfl rfl rfl rfl rfl rfl (by omega) (by omega) w25 (Rng.nil _ _ _) (Rng.nil _ _ _) (Rng.nil _ _ _) (Rng.nil _ _ _))) rfl rfl (ltb rfl) ?_
  rintro _ w26 ⟨rfl, m25⟩
  refine WL.yes rfl rfl rfl (ltb rfl) rfl rfl ?_
  refine WL.det (op_not rfl) rfl rfl rfl ?_
  refine WL.det (op_pick_f rfl rfl rfl) rfl rfl rfl ?_
  refine WL.det (op_move rfl) rfl rfl rfl ?_
  refine WL.yes rfl rfl rfl (ltb rfl) rfl rfl ?_
  refine WL.det (op_move rfl) rfl rfl rfl ?_
  refine WL.yes rfl rfl rfl (ltb rfl) rfl rfl ?_
  refine WL.det (op_move rfl) rfl rfl rfl ?_
  refine WL.yes rfl rfl rfl (ltb rfl) rfl rfl ?_
  refine WL.call (oc_call (vs := [.slice none 0 0, vS e'1 0 0 0]) (cap := []) rfl rfl rfl Try.call43 (c_eq32_same 0 0 none 0 0 [] 0 (some ⟨e'1, 0, none⟩) e'1 0 rfl (fun h => absurd h (Nat.lt_irrefl _)) (fun _ => rfl) (by omega) w26 (Rng.nil _ _ _) (((((((((((((((((((((r5.ext m6).mod m7 (nC (lE (lL r5.lt lR)) nN)).ext m8).ext m9).mod m10 (nC (lE (lL (lL r5.lt (lT (lT m6.size m7.size) m8.size)) lR)) nN)).ext m11).ext m12).ext m13).mod m14 (nC (lE (lL (lL r5.lt (lT (lT (lT (lT (lT (lT m6.size m7.size) m8.size) m9.size) m10.size) m11.size) m12.size)) lR)) nN)).ext m15).ext m16).ext md1).ext m17).ext m18).ext m19).ext m20).ext m21).ext m22).mod m23 (nC (lE (lL (lL r5.lt (lT m6.size m7.size)) ge5)) (nC (lE (lL (lL r5.lt (lT m6.size m7.size)) ge6)) nN))).mod m24 (nC (lE (lL (lL r5.lt (lT (lT (lT (lT m6.size m7.size) m8.size) m9.size) m10.size)) ge7)) nN)).ext m25).rng)) rfl rfl (ltb rfl) ?_
  rintro _ w27 ⟨rfl, m26⟩
  refine WL.yes rfl rfl rfl (ltb rfl) rfl rfl ?_
  refine WL.det (op_not rfl) rfl rfl rfl ?_
  refine WL.det (op_pick_f rfl rfl rfl) rfl rfl rfl ?_
  refine WL.det (op_move rfl) rfl rfl rfl ?_
  refine WL.yes rfl rfl rfl (ltb rfl) rfl rfl ?_
  refine WL.det (op_move rfl) rfl rfl rfl ?_
  refine WL.yes rfl rfl rfl (ltb rfl) rfl rfl ?_
  refine WL.det (op_move rfl) rfl rfl rfl ?_
  refine WL.yes rfl rfl rfl (ltb rfl) rfl rfl ?_
  refine WL.det (op_nei rfl rfl) rfl rfl rfl ?_
  refine WL.det (op_pick_f rfl rfl rfl) rfl rfl rfl ?_
  refine WL.end ?_
  refine NE.code ?_
  refine CE.cond_f rfl rfl ?_
  refine CE.skip' ?_
  refine NE.code ?_
  refine CE.seq ?_
  refine CE.region ?_
  refine WL.det (op_assign rfl) rfl rfl rfl ?_
  refine WL.end ?_
  refine NE.code ?_
  refine CE.seq ?_
  refine CE.region ?_
  refine WL.det (op_loadA (i := 0) (cs := [.slice none 0 0, vI 0, .slice none 0 0, vI 0, vI 0, vF 0, vF 0, vF 0, vF 0, vF 0, vI 0, vF 0, vF 0, vF 0, vF 0, vF 0, vF 0, vF 0]) rfl Try.isAgg61 Try.sizeOf61 (((((((((((((r17.ext m15).ext m16).ext md1).ext m17).ext m18).ext m19).ext m20).ext m21).ext m22).mod m23 (nC (lG (lL (lL r9.lt (lT (lT (lT m9.size m10.size) m11.size) m12.size)) lR)) (nC (lG (lL (lL r10.lt (lT (lT (lT m9.size m10.size) m11.size) m12.size)) lR)) nN))).mod m24 (nC (lG (lL (lL r14.lt m12.size) lR)) nN)).ext m25).ext m26).rng rfl rfl rfl) rfl rfl rfl ?_
  refine WL.det (op_move rfl) rfl rfl rfl ?_
  refine WL.call (oc_call (vs := [.agg #[.slice none 0 0, vI 0, .slice none 0 0, vI 0, vI 0, vF 0, vF 0, vF 0, vF 0, vF 0, vI 0, vF 0, vF 0, vF 0, vF 0, vF 0, vF 0, vF 0], vI 1]) (cap := []) rfl rfl rfl Try.call36 (c_markJet_nil (0 : Int) (0 : Int) (0 : Int) 0 0 0 0 0 (0 : Int) 0 0 0 0 0 0 0 1 (by omega) w27)) rfl rfl (ltb rfl) ?_
  rintro _ w28 ⟨rfl, m27⟩
  refine WL.det (op_assign rfl) rfl rfl rfl ?_
  refine WL.end ?_
  refine NE.code ?_
  refine CE.seq ?_
  refine CE.region ?_
  refine WL.det (op_move rfl) rfl rfl rfl ?_
  refine WL.det (op_move rfl) rfl rfl rfl ?_
  refine WL.call (oc_call (vs := [.slice none 0 0, vI 1]) (cap := []) rfl rfl rfl Try.call44 (c_mark32_nil 1 w28)) rfl rfl (ltb rfl) ?_
  rintro _ _ ⟨rfl, rfl⟩
  refine WL.det (op_assign rfl) rfl rfl rfl ?_
  refine WL.end ?_
  refine NE.code ?_
  refine CE.seq ?_
  refine CE.region ?_
  refine WL.det (op_assign rfl) rfl rfl rfl ?_
  refine WL.end ?_
  refine NE.code ?_
  refine CE.seq ?_
  refine CE.region ?_
  refine WL.det (op_loadA (i := 0) (cs := [.slice none 0 0, vI 0, .slice none 0 0, vI 0, vI 0, vF 0, vF 0, vF 0, vF 0, vF 0, vI 0, vF 0, vF 0, vF 0, vF 0, vF 0, vF 0, vF 0]) rfl Try.isAgg61 Try.sizeOf61 ((((((((((((((r17.ext m15).ext m16).ext md1).ext m17).ext m18).ext m19).ext m20).ext m21).ext m22).mod m23 (nC (lG (lL (lL r9.lt (lT (lT (lT m9.size m10.size) m11.size) m12.size)) lR)) (nC (lG (lL (lL r10.lt (lT (lT (lT m9.size m10.size) m11.size) m12.size)) lR)) nN))).mod m24 (nC (lG (lL (lL r14.lt m12.size) lR)) nN)).ext m25).ext m26).ext m27).rng rfl rfl rfl) rfl rfl rfl ?_
  refine WL.det (op_move rfl) rfl rfl rfl ?_
  refine WL.call (oc_call (vs := [.agg #[.slice none 0 0, vI 0, .slice none 0 0, vI 0, vI 0, vF 0, vF 0, vF 0, vF 0, vF 0, vI 0, vF 0, vF 0, vF 0, vF 0, vF 0, vF 0, vF 0], vI 1]) (cap := []) rfl rfl rfl Try.call37 (c_heldJet_nil (0 : Int) (0 : Int) (0 : Int) 0 0 0 0 0 (0 : Int) 0 0 0 0 0 0 0 1 (by omega) w28)) rfl rfl (ltb rfl) ?_
  rintro _ w29 ⟨rfl, m28⟩
  refine WL.det (op_assign rfl) rfl rfl rfl ?_
  refine WL.end ?_
  refine NE.code ?_
  refine CE.seq ?_
  refine CE.seq ?_
  refine CE.region ?_
  refine WL.det (op_move rfl) rfl rfl rfl ?_
  refine WL.det (op_lti rfl rfl) rfl rfl rfl ?_
  refine WL.end ?_
  refine NE.code ?_
  refine CE.cond_f rfl rfl ?_
  refine CE.skip' ?_
  refine NE.code ?_
  refine CE.seq ?_
  refine CE.region ?_
  refine WL.det (op_move rfl) rfl rfl rfl ?_
  refine WL.det (op_move rfl) rfl rfl rfl ?_
  refine WL.call (oc_call (vs := [.slice none 0 0, vI 1]) (cap := []) rfl rfl rfl Try.call45 (c_held32 0 0 none 0 0 [] 1 rfl (fun h => absurd h (Nat.lt_irrefl _)) (by omega) (by omega) (by first | assumption | exact marks_held _ _ _) w29 (Rng.nil _ _ _))) rfl rfl (ltb rfl) ?_
  rintro _ w30 ⟨rfl, m29⟩
  refine WL.det (op_assign rfl) rfl rfl rfl ?_
  refine WL.end ?_
  refine NE.code ?_
  refine CE.seq ?_
  refine CE.seq ?_
  refine CE.region ?_
  refine WL.det (op_move rfl) rfl rfl rfl ?_
  refine WL.det (op_lti_f rfl rfl (by omega)) rfl rfl rfl ?_
  refine WL.end ?_
  refine NE.code ?_
  refine CE.cond_f rfl rfl ?_
  refine CE.skip' ?_
  refine NE.code ?_
  refine CE.seq ?_
  refine CE.seq ?_
  refine CE.region ?_
  refine WL.det (op_move rfl) rfl rfl rfl ?_
  refine WL.det (op_move rfl) rfl rfl rfl ?_
  refine WL.det (op_nei rfl rfl) rfl rfl rfl ?_
  refine WL.end ?_
  refine NE.code ?_
  rcases Bool.eq_false_or_eq_true ((((1 + 0 : Nat) : Int) != (1 : Int))) with hb1 | hb1
  · have hp1 := hb1; try simp only [Bool.and_eq_true, Bool.or_eq_true, Bool.not_eq_true', Bool.not_eq_false', Bool.and_eq_false_iff, Bool.or_eq_false_iff, decide_eq_true_eq, decide_eq_false_iff_not, beq_iff_eq, bne_iff_ne, beq_eq_false_iff_ne, bne_eq_false_iff_eq, ne_eq, Bool.false_eq_true, not_false_eq_true, not_true_eq_false, vIn_t, vIn_f] at hp1
    refine CE.cond_t rfl hb1 ?_
    refine CE.seq ?_
    refine CE.region ?_
    refine WL.det (op_assign rfl) rfl rfl rfl ?_
    refine WL.end ?_
    refine NE.code ?_
    refine CE.ret' ?_
    refine XE.ret_then ?_
    refine XE.leave1 Try.results8 rfl ?_
    refine ⟨?_, (((((((((((((((((((((((((((((((Mod.refl [] w).nt m1).nt m2).nt m3).nt m4).nt m5).nt m6).then m7 ((aC (.inr (lT (lT (lT (lT (lT m1.size m2.size) m3.size) m4.size) m5.size) lR)) aN))).nt m8).nt m9).then m10 ((aC (.inr (lT (lT (lT (lT (lT (lT (lT (lT m1.size m2.size) m3.size) m4.size) m5.size) m6.size) m7.size) m8.size) lR)) aN))).nt m11).nt m12).nt m13).then m14 ((aC (.inr (lT (lT (lT (lT (lT (lT (lT (lT (lT (lT (lT (lT m1.size m2.size) m3.size) m4.size) m5.size) m6.size) m7.size) m8.size) m9.size) m10.size) m11.size) m12.size) lR)) aN))).nt m15).nt m16).nt md1).nt m17).nt m18).nt m19).nt m20).nt m21).nt m22).then m23 ((aC (.inr (lT (lT (lT (lT (lT (lT (lT m1.size m2.size) m3.size) m4.size) m5.size) m6.size) m7.size) ge5)) (aC (.inr (lT (lT (lT (lT (lT (lT (lT m1.size m2.size) m3.size) m4.size) m5.size) m6.size) m7.size) ge6)) aN)))).then m24 ((aC (.inr (lT (lT (lT (lT (lT (lT (lT (lT (lT (lT m1.size m2.size) m3.size) m4.size) m5.size) m6.size) m7.size) m8.size) m9.size) m10.size) ge7)) aN))).nt m25).nt m26).nt m27).nt m28).nt m29)⟩
    all_goals simp_all
  · have hp1 := hb1; try simp only [Bool.and_eq_true, Bool.or_eq_true, Bool.not_eq_true', Bool.not_eq_false', Bool.and_eq_false_iff, Bool.or_eq_false_iff, decide_eq_true_eq, decide_eq_false_iff_not, beq_iff_eq, bne_iff_ne, beq_eq_false_iff_ne, bne_eq_false_iff_eq, ne_eq, Bool.false_eq_true, not_false_eq_true, not_true_eq_false, vIn_t, vIn_f] at hp1
    refine CE.cond_f rfl hb1 ?_
    refine CE.skip' ?_
    refine NE.code ?_
    refine CE.seq ?_
    refine CE.region ?_
    refine WL.det (op_loadA (i := 0) (cs := [.slice ATr nTr cTr, vI ((i : Nat) : Int), .slice ABr nBr cBr, vI ((h : Nat) : Int), vI Lk, vF Lc0, vF Lc1, vF Lc2, vF Ls0, vF Ls1, vI Dk, vF Dc0, vF Dc1, vF Dc2, vF Ds0, vF Ds1, vF ne, vF fa]) rfl Try.isAgg58 Try.sizeOf58 (((((((((((((((((((((((((((((r1.ext m2).ext m3).ext m4).ext m5).ext m6).mod m7 (nC (lE (lL (lL r1.lt (lT (lT (lT m2.size m3.size) m4.size) m5.size)) lR)) nN)).ext m8).ext m9).mod m10 (nC (lE (lL (lL r1.lt (lT (lT (lT (lT (lT (lT m2.size m3.size) m4.size) m5.size) m6.size) m7.size) m8.size)) lR)) nN)).ext m11).ext m12).ext m13).mod m14 (nC (lE (lL (lL r1.lt (lT (lT (lT (lT (lT (lT (lT (lT (lT (lT m2.size m3.size) m4.size) m5.size) m6.size) m7.size) m8.size) m9.size) m10.size) m11.size) m12.size)) lR)) nN)).ext m15).ext m16).ext md1).ext m17).ext m18).ext m19).ext m20).ext m21).ext m22).mod m23 (nC (lE (lL (lL r1.lt (lT (lT (lT (lT (lT m2.size m3.size) m4.size) m5.size) m6.size) m7.size)) ge5)) (nC (lE (lL (lL r1.lt (lT (lT (lT (lT (lT m2.size m3.size) m4.size) m5.size) m6.size) m7.size)) ge6)) nN))).mod m24 (nC (lE (lL (lL r1.lt (lT (lT (lT (lT (lT (lT (lT (lT m2.size m3.size) m4.size) m5.size) m6.size) m7.size) m8.size) m9.size) m10.size)) ge7)) nN)).ext m25).ext m26).ext m27).ext m28).ext m29).rng rfl rfl rfl) rfl rfl rfl ?_
    refine WL.call (oc_call (vs := [.agg #[.slice ATr nTr cTr, vI ((i : Nat) : Int), .slice ABr nBr cBr, vI ((h : Nat) : Int), vI Lk, vF Lc0, vF Lc1, vF Lc2, vF Ls0, vF Ls1, vI Dk, vF Dc0, vF Dc1, vF Dc2, vF Ds0, vF Ds1, vF ne, vF fa]]) (cap := []) rfl rfl rfl Try.call32 (c_toJet nTr cTr ATr bTr oTr xTr ((i : Nat) : Int) nBr cBr ABr bBr oBr xBr ((h : Nat) : Int) Lk Lc0 Lc1 Lc2 Ls0 Ls1 Dk Dc0 Dc1 Dc2 Ds0 Ds1 ne fa lnTr hATr lnBr hABr (by omega) (by omega) w30 ((((((Rng.youngS rTr (Rng.youngS rTr ((((((((((Rng.youngS rTr ((((Rng.youngS rTr (((Rng.youngS rTr ((((((rTr.ext m1).ext m2).ext m3).ext m4).ext m5).ext m6) m7 (allge_cons (lT (lT (lT (lT (lT m1.size m2.size) m3.size) m4.size) m5.size) lR) allge_nil)).ext m8).ext m9) m10 (allge_cons (lT (lT (lT (lT (lT (lT (lT (lT m1.size m2.size) m3.size) m4.size) m5.size) m6.size) m7.size) m8.size) lR) allge_nil)).ext m11).ext m12).ext m13) m14 (allge_cons (lT (lT (lT (lT (lT (lT (lT (lT (lT (lT (lT (lT m1.size m2.size) m3.size) m4.size) m5.size) m6.size) m7.size) m8.size) m9.size) m10.size) m11.size) m12.size) lR) allge_nil)).ext m15).ext m16).ext md1).ext m17).ext m18).ext m19).ext m20).ext m21).ext m22) m23 (allge_cons (lT (lT (lT (lT (lT (lT (lT m1.size m2.size) m3.size) m4.size) m5.size) m6.size) m7.size) ge5) (allge_cons (lT (lT (lT (lT (lT (lT (lT m1.size m2.size) m3.size) m4.size) m5.size) m6.size) m7.size) ge6) allge_nil))) m24 (allge_cons (lT (lT (lT (lT (lT (lT (lT (lT (lT (lT m1.size m2.size) m3.size) m4.size) m5.size) m6.size) m7.size) m8.size) m9.size) m10.size) ge7) allge_nil)).ext m25).ext m26).ext m27).ext m28).ext m29) ((((((Rng.youngS rBr (Rng.youngS rBr ((((((((((Rng.youngS rBr ((((Rng.youngS rBr (((Rng.youngS rBr ((((((rBr.ext m1).ext m2).ext m3).ext m4).ext m5).ext m6) m7 (allge_cons (lT (lT (lT (lT (lT m1.size m2.size) m3.size) m4.size) m5.size) lR) allge_nil)).ext m8).ext m9) m10 (allge_cons (lT (lT (lT (lT (lT (lT (lT (lT m1.size m2.size) m3.size) m4.size) m5.size) m6.size) m7.size) m8.size) lR) allge_nil)).ext m11).ext m12).ext m13) m14 (allge_cons (lT (lT (lT (lT (lT (lT (lT (lT (lT (lT (lT (lT m1.size m2.size) m3.size) m4.size) m5.size) m6.size) m7.size) m8.size) m9.size) m10.size) m11.size) m12.size) lR) allge_nil)).ext m15).ext m16).ext md1).ext m17).ext m18).ext m19).ext m20).ext m21).ext m22) m23 (allge_cons (lT (lT (lT (lT (lT (lT (lT m1.size m2.size) m3.size) m4.size) m5.size) m6.size) m7.size) ge5) (allge_cons (lT (lT (lT (lT (lT (lT (lT m1.size m2.size) m3.size) m4.size) m5.size) m6.size) m7.size) ge6) allge_nil))) m24 (allge_cons (lT (lT (lT (lT (lT (lT (lT (lT (lT (lT m1.size m2.size) m3.size) m4.size) m5.size) m6.size) m7.size) m8.size) m9.size) m10.size) ge7) allge_nil)).ext m25).ext m26).ext m27).ext m28).ext m29))) rfl rfl (ltb rfl) ?_
    rintro _ w31 ⟨bTr'4, bBr'4, rfl, r24, r25, ge11, ge12, ne4, m30⟩
    refine WL.det (op_move rfl) rfl rfl rfl ?_
    refine WL.call (oc_call (vs := [.slice Al l cl]) (cap := []) rfl rfl rfl Try.call41 (c_to32 l cl Al bl ol ss ls hAl (by omega) w31 (((((((Rng.youngS rl (Rng.youngS rl ((((((((((Rng.youngS rl ((((Rng.youngS rl (((Rng.youngS rl ((((((rl.ext m1).ext m2).ext m3).ext m4).ext m5).ext m6) m7 (allge_cons (lT (lT (lT (lT (lT m1.size m2.size) m3.size) m4.size) m5.size) lR) allge_nil)).ext m8).ext m9) m10 (allge_cons (lT (lT (lT (lT (lT (lT (lT (lT m1.size m2.size) m3.size) m4.size) m5.size) m6.size) m7.size) m8.size) lR) allge_nil)).ext m11).ext m12).ext m13) m14 (allge_cons (lT (lT (lT (lT (lT (lT (lT (lT (lT (lT (lT (lT m1.size m2.size) m3.size) m4.size) m5.size) m6.size) m7.size) m8.size) m9.size) m10.size) m11.size) m12.size) lR) allge_nil)).ext m15).ext m16).ext md1).ext m17).ext m18).ext m19).ext m20).ext m21).ext m22) m23 (allge_cons (lT (lT (lT (lT (lT (lT (lT m1.size m2.size) m3.size) m4.size) m5.size) m6.size) m7.size) ge5) (allge_cons (lT (lT (lT (lT (lT (lT (lT m1.size m2.size) m3.size) m4.size) m5.size) m6.size) m7.size) ge6) allge_nil))) m24 (allge_cons (lT (lT (lT (lT (lT (lT (lT (lT (lT (lT m1.size m2.size) m3.size) m4.size) m5.size) m6.size) m7.size) m8.size) m9.size) m10.size) ge7) allge_nil)).ext m25).ext m26).ext m27).ext m28).ext m29).ext m30))) rfl rfl (ltb rfl) ?_
    rintro _ w32 ⟨b'4, rfl, r26, ge13, m31⟩
    refine WL.call (oc_call (vs := [.agg #[vS bTr'4 0 nTr nTr, vI ((i : Nat) : Int), vS bBr'4 0 nBr nBr, vI ((h : Nat) : Int), vI Lk, vF Lc0, vF Lc1, vF Lc2, vF Ls0, vF Ls1, vI Dk, vF Dc0, vF Dc1, vF Dc2, vF Ds0, vF Ds1, vF ne, vF fa], vS b'4 0 l l]) (cap := []) rfl rfl rfl Try.call42 (c_iPlayJet_lim nTr nTr bTr'4 xTr nBr nBr bBr'4 xBr i h Lk Lc0 Lc1 Lc2 Ls0 Ls1 Dk Dc0 Dc1 Dc2 Ds0 Ds1 ne fa l l (some ⟨b'4, 0, none⟩) b'4 0 ss lnTr lnBr (by omega) (by omega) (by omega) (by omega) (by omega) (by omega) (by first | assumption | exact W32.get (by assumption) _ | decide +kernel) (by first | assumption | exact W32.get (by assumption) _ | decide +kernel) (by first | assumption | exact W32.get (by assumption) _ | decide +kernel) (by first | assumption | exact W32.get (by assumption) _ | decide +kernel) ls (fun _ => rfl) (by first | assumption | exact W32.set (by assumption) (by first | assumption | exact wid_lt (by assumption)) | exact W32.zeros _ | exact W32.nil) (by omega) (by omega) (by assumption) w32 (r24.ext m31).rng (r25.ext m31).rng r26.rng)) rfl rfl (ltb rfl) ?_
    rintro _ w33 ⟨rfl, m32⟩
    refine WL.det (op_move rfl) rfl rfl rfl ?_
    refine WL.det (op_extract rfl rfl) rfl rfl rfl ?_
    refine WL.det (op_extract rfl rfl) rfl rfl rfl ?_
    refine WL.det (op_extract rfl rfl) rfl rfl rfl ?_
    refine WL.op (op_alloc (cs := [.slice none 0 0, vI 0, .slice none 0 0, vI 0, vI 0, vF 0, vF 0, vF 0, vF 0, vF 0, vI 0, vF 0, vF 0, vF 0, vF 0, vF 0, vF 0, vF 0]) Try.zeroValue61 rfl) rfl rfl (ltb rfl) ?_
    rintro _ w34 ⟨rfl, r27, m33, z8⟩
    refine WL.op0 (op_store (i := 0) (cs := [.slice none 0 0, vI 0, .slice none 0 0, vI 0, vI 0, vF 0, vF 0, vF 0, vF 0, vF 0, vI 0, vF 0, vF 0, vF 0, vF 0, vF 0, vF 0, vF 0]) rfl rfl rfl Try.sizeOf61 rfl r27 rfl (lB rfl) rfl) rfl rfl ?_
    rintro _ w35 ⟨r28, m34, z9⟩
    have r29 : Row w35 w33.heap.size 0 [.slice none 0 0, vI 0, .slice none 0 0, vI 0, vI 0, vF 0, vF 0, vF 0, vF 0, vF 0, vI 0, vF 0, vF 0, vF 0, vF 0, vF 0, vF 0, vF 0] := Row.congr r28 rfl
    refine WL.det (op_assign rfl) rfl rfl rfl ?_
    refine WL.det (op_assign rfl) rfl rfl rfl ?_
    refine WL.end ?_
    refine NE.code ?_
    refine CE.seq ?_
    refine CE.seq ?_
    refine CE.region ?_
    refine WL.det (op_loadA (i := 0) (cs := [.slice none 0 0, vI 0, .slice none 0 0, vI 0, vI 0, vF 0, vF 0, vF 0, vF 0, vF 0, vI 0, vF 0, vF 0, vF 0, vF 0, vF 0, vF 0, vF 0]) rfl Try.isAgg61 Try.sizeOf61 r29.rng rfl rfl rfl) rfl rfl rfl ?_
    refine WL.det (op_loadA (i := 0) (cs := [.slice none 0 0, vI 0, .slice none 0 0, vI 0, vI 0, vF 0, vF 0, vF 0, vF 0, vF 0, vI 0, vF 0, vF 0, vF 0, vF 0, vF 0, vF 0, vF 0]) rfl Try.isAgg61 Try.sizeOf61 ((((((((((((((((((((((((((((r8.ext m8).ext m9).mod m10 (nC (lE (lL (lL r6.lt (lT m7.size m8.size)) lR)) nN)).ext m11).ext m12).ext m13).mod m14 (nC (lE (lL (lL r6.lt (lT (lT (lT (lT (lT m7.size m8.size) m9.size) m10.size) m11.size) m12.size)) lR)) nN)).ext m15).ext m16).ext md1).ext m17).ext m18).ext m19).ext m20).ext m21).ext m22).mod m23 (nC (lE (lL (lL r6.lt m7.size) ge5)) (nC (lE (lL (lL r6.lt m7.size) ge6)) nN))).mod m24 (nC (lE (lL (lL r6.lt (lT (lT (lT m7.size m8.size) m9.size) m10.size)) ge7)) nN)).ext m25).ext m26).ext m27).ext m28).ext m29).ext m30).ext m31).ext m32).ext m33).mod m34 (nC (lE (lL (lL r6.lt (lT (lT (lT (lT (lT (lT (lT (lT (lT (lT (lT (lT (lT (lT (lT (lT (lT (lT (lT (lT (lT (lT (lT (lT (lT (lT m7.size m8.size) m9.size) m10.size) m11.size) m12.size) m13.size) m14.size) m15.size) m16.size) md1.size) m17.size) m18.size) m19.size) m20.size) m21.size) m22.size) m23.size) m24.size) m25.size) m26.size) m27.size) m28.size) m29.size) m30.size) m31.size) m32.size)) lR)) nN)).rng rfl rfl rfl) rfl rfl rfl ?_
    refine WL.call (oc_call (vs := [.agg #[.slice none 0 0, vI 0, .slice none 0 0, vI 0, vI 0, vF 0, vF 0, vF 0, vF 0, vF 0, vI 0, vF 0, vF 0, vF 0, vF 0, vF 0, vF 0, vF 0], .agg #[.slice none 0 0, vI 0, .slice none 0 0, vI 0, vI 0, vF 0, vF 0, vF 0, vF 0, vF 0, vI 0, vF 0, vF 0, vF 0, vF 0, vF 0, vF 0, vF 0]]) (cap := []) rfl rfl rfl Try.call34 (c_eqJet 0 0 none 0 0 [] (0 : Int) 0 0 none 0 0 [] (0 : Int) (0 : Int) 0 0 0 0 0 0 0 0 0 0 (0 : Int) 0 0 0 0 0 0 0 0 0 0 0 0 0 0 0 none 0 0 0 none 0 0 0 0 0 0 0 0 0 0 0 0 0 0 rfl (fun h => absurd h (Nat.lt_irrefl _)) rfl (fun h => absurd h (Nat.lt_irrefl _)) (fun h => absurd h (Nat.lt_irrefl _)) (fun h => absurd h (Nat.lt_irrefl _)) rfl rfl rfl rfl rfl rfl rfl rfl rfl rfl rfl rfl rfl rfl rfl rfl rfl rfl rfl rfl rfl rfl rfl rfl (by omega) (by omega) w35 (Rng.nil _ _ _) (Rng.nil _ _ _) (Rng.nil _ _ _) (Rng.nil _ _ _))) rfl rfl (ltb rfl) ?_
    rintro _ w36 ⟨rfl, m35⟩
    refine WL.det (op_not rfl) rfl rfl rfl ?_
    refine WL.det (op_move rfl) rfl rfl rfl ?_
    refine WL.yes rfl rfl rfl (ltb rfl) rfl rfl ?_
    refine WL.det (op_move rfl) rfl rfl rfl ?_
    refine WL.yes rfl rfl rfl (ltb rfl) rfl rfl ?_
    refine WL.det (op_move rfl) rfl rfl rfl ?_
    refine WL.yes rfl rfl rfl (ltb rfl) rfl rfl ?_
    refine WL.call (oc_call (vs := [.slice none 0 0, vS e'1 0 0 0]) (cap := []) rfl rfl rfl Try.call43 (c_eq32_same 0 0 none 0 0 [] 0 (some ⟨e'1, 0, none⟩) e'1 0 rfl (fun h => absurd h (Nat.lt_irrefl _)) (fun _ => rfl) (by omega) w36 (Rng.nil _ _ _) (((((((((((((((((((((((((((((((r5.ext m6).mod m7 (nC (lE (lL r5.lt lR)) nN)).ext m8).ext m9).mod m10 (nC (lE (lL (lL r5.lt (lT (lT m6.size m7.size) m8.size)) lR)) nN)).ext m11).ext m12).ext m13).mod m14 (nC (lE (lL (lL r5.lt (lT (lT (lT (lT (lT (lT m6.size m7.size) m8.size) m9.size) m10.size) m11.size) m12.size)) lR)) nN)).ext m15).ext m16).ext md1).ext m17).ext m18).ext m19).ext m20).ext m21).ext m22).mod m23 (nC (lE (lL (lL r5.lt (lT m6.size m7.size)) ge5)) (nC (lE (lL (lL r5.lt (lT m6.size m7.size)) ge6)) nN))).mod m24 (nC (lE (lL (lL r5.lt (lT (lT (lT (lT m6.size m7.size) m8.size) m9.size) m10.size)) ge7)) nN)).ext m25).ext m26).ext m27).ext m28).ext m29).ext m30).ext m31).ext m32).ext m33).mod m34 (nC (lE (lL (lL r5.lt (lT (lT (lT (lT (lT (lT (lT (lT (lT (lT (lT (lT (lT (lT (lT (lT (lT (lT (lT (lT (lT (lT (lT (lT (lT (lT (lT m6.size m7.size) m8.size) m9.size) m10.size) m11.size) m12.size) m13.size) m14.size) m15.size) m16.size) md1.size) m17.size) m18.size) m19.size) m20.size) m21.size) m22.size) m23.size) m24.size) m25.size) m26.size) m27.size) m28.size) m29.size) m30.size) m31.size) m32.size)) lR)) nN)).ext m35).rng)) rfl rfl (ltb rfl) ?_
    rintro _ w37 ⟨rfl, m36⟩
    refine WL.yes rfl rfl rfl (ltb rfl) rfl rfl ?_
    refine WL.det (op_not rfl) rfl rfl rfl ?_
    refine WL.det (op_pick_f rfl rfl rfl) rfl rfl rfl ?_
    refine WL.det (op_move rfl) rfl rfl rfl ?_
    refine WL.yes rfl rfl rfl (ltb rfl) rfl rfl ?_
    refine WL.det (op_move rfl) rfl rfl rfl ?_
    refine WL.yes rfl rfl rfl (ltb rfl) rfl rfl ?_
    refine WL.det (op_move rfl) rfl rfl rfl ?_
    refine WL.yes rfl rfl rfl (ltb rfl) rfl rfl ?_
    refine WL.det (op_nei rfl rfl) rfl rfl rfl ?_
    refine WL.det (op_pick_f rfl rfl rfl) rfl rfl rfl ?_
    refine WL.end ?_
    refine NE.code ?_
    refine CE.cond_f rfl rfl ?_
    refine CE.skip' ?_
    refine NE.code ?_
    refine CE.seq ?_
    refine CE.region ?_
    refine WL.det (op_assign rfl) rfl rfl rfl ?_
    refine WL.end ?_
    refine NE.code ?_
    refine CE.seq ?_
    refine CE.region ?_
    refine WL.det (op_loadA (i := 0) (cs := [.slice none 0 0, vI 0, .slice none 0 0, vI 0, vI 0, vF 0, vF 0, vF 0, vF 0, vF 0, vI 0, vF 0, vF 0, vF 0, vF 0, vF 0, vF 0, vF 0]) rfl Try.isAgg61 Try.sizeOf61 (((((((((((((((((((((((r17.ext m15).ext m16).ext md1).ext m17).ext m18).ext m19).ext m20).ext m21).ext m22).mod m23 (nC (lG (lL (lL r9.lt (lT (lT (lT m9.size m10.size) m11.size) m12.size)) lR)) (nC (lG (lL (lL r10.lt (lT (lT (lT m9.size m10.size) m11.size) m12.size)) lR)) nN))).mod m24 (nC (lG (lL (lL r14.lt m12.size) lR)) nN)).ext m25).ext m26).ext m27).ext m28).ext m29).ext m30).ext m31).ext m32).ext m33).mod m34 (nC (lE (lL (lL r15.lt (lT (lT (lT (lT (lT (lT (lT (lT (lT (lT (lT (lT (lT (lT (lT (lT (lT (lT (lT m14.size m15.size) m16.size) md1.size) m17.size) m18.size) m19.size) m20.size) m21.size) m22.size) m23.size) m24.size) m25.size) m26.size) m27.size) m28.size) m29.size) m30.size) m31.size) m32.size)) lR)) nN)).ext m35).ext m36).rng rfl rfl rfl) rfl rfl rfl ?_
    refine WL.det (op_move rfl) rfl rfl rfl ?_
    refine WL.call (oc_call (vs := [.agg #[.slice none 0 0, vI 0, .slice none 0 0, vI 0, vI 0, vF 0, vF 0, vF 0, vF 0, vF 0, vI 0, vF 0, vF 0, vF 0, vF 0, vF 0, vF 0, vF 0], vI 1]) (cap := []) rfl rfl rfl Try.call37 (c_heldJet_nil (0 : Int) (0 : Int) (0 : Int) 0 0 0 0 0 (0 : Int) 0 0 0 0 0 0 0 1 (by omega) w37)) rfl rfl (ltb rfl) ?_
    rintro _ w38 ⟨rfl, m37⟩
    refine WL.det (op_assign rfl) rfl rfl rfl ?_
    refine WL.end ?_
    refine NE.code ?_
    refine CE.seq ?_
    refine CE.seq ?_
    refine CE.region ?_
    refine WL.det (op_move rfl) rfl rfl rfl ?_
    refine WL.det (op_lti rfl rfl) rfl rfl rfl ?_
    refine WL.end ?_
    refine NE.code ?_
    refine CE.cond_f rfl rfl ?_
    refine CE.skip' ?_
    refine NE.code ?_
    refine CE.seq ?_
    refine CE.region ?_
    refine WL.det (op_move rfl) rfl rfl rfl ?_
    refine WL.det (op_move rfl) rfl rfl rfl ?_
    refine WL.call (oc_call (vs := [.slice none 0 0, vI 1]) (cap := []) rfl rfl rfl Try.call45 (c_held32 0 0 none 0 0 [] 1 rfl (fun h => absurd h (Nat.lt_irrefl _)) (by omega) (by omega) (by first | assumption | exact marks_held _ _ _) w38 (Rng.nil _ _ _))) rfl rfl (ltb rfl) ?_
    rintro _ w39 ⟨rfl, m38⟩
    refine WL.det (op_assign rfl) rfl rfl rfl ?_
    refine WL.end ?_
    refine NE.code ?_
    refine CE.seq ?_
    refine CE.seq ?_
    refine CE.region ?_
    refine WL.det (op_move rfl) rfl rfl rfl ?_
    refine WL.det (op_lti_f rfl rfl (by omega)) rfl rfl rfl ?_
    refine WL.end ?_
    refine NE.code ?_
    refine CE.cond_f rfl rfl ?_
    refine CE.skip' ?_
    refine NE.code ?_
    refine CE.seq ?_
    refine CE.seq ?_
    refine CE.region ?_
    refine WL.det (op_move rfl) rfl rfl rfl ?_
    refine WL.det (op_move rfl) rfl rfl rfl ?_
    refine WL.det (op_nei rfl rfl) rfl rfl rfl ?_
    refine WL.end ?_
    refine NE.code ?_
    refine CE.cond_f rfl hb1 ?_
    refine CE.skip' ?_
    refine NE.code ?_
    refine CE.seq ?_
    refine CE.region ?_
    refine WL.det (op_assign rfl) rfl rfl rfl ?_
    refine WL.end ?_
    refine NE.code ?_
    refine CE.ret' ?_
    refine XE.leave1 Try.results8 rfl ?_
    refine ⟨rfl, ((((((((((((((((((((((((((((((((((((((((Mod.refl [] w).nt m1).nt m2).nt m3).nt m4).nt m5).nt m6).then m7 ((aC (.inr (lT (lT (lT (lT (lT m1.size m2.size) m3.size) m4.size) m5.size) lR)) aN))).nt m8).nt m9).then m10 ((aC (.inr (lT (lT (lT (lT (lT (lT (lT (lT m1.size m2.size) m3.size) m4.size) m5.size) m6.size) m7.size) m8.size) lR)) aN))).nt m11).nt m12).nt m13).then m14 ((aC (.inr (lT (lT (lT (lT (lT (lT (lT (lT (lT (lT (lT (lT m1.size m2.size) m3.size) m4.size) m5.size) m6.size) m7.size) m8.size) m9.size) m10.size) m11.size) m12.size) lR)) aN))).nt m15).nt m16).nt md1).nt m17).nt m18).nt m19).nt m20).nt m21).nt m22).then m23 ((aC (.inr (lT (lT (lT (lT (lT (lT (lT m1.size m2.size) m3.size) m4.size) m5.size) m6.size) m7.size) ge5)) (aC (.inr (lT (lT (lT (lT (lT (lT (lT m1.size m2.size) m3.size) m4.size) m5.size) m6.size) m7.size) ge6)) aN)))).then m24 ((aC (.inr (lT (lT (lT (lT (lT (lT (lT (lT (lT (lT m1.size m2.size) m3.size) m4.size) m5.size) m6.size) m7.size) m8.size) m9.size) m10.size) ge7)) aN))).nt m25).nt m26).nt m27).nt m28).nt m29).nt m30).nt m31).nt m32).nt m33).then m34 ((aC (.inr (lT (lT (lT (lT (lT (lT (lT (lT (lT (lT (lT (lT (lT (lT (lT (lT (lT (lT (lT (lT (lT (lT (lT (lT (lT (lT (lT (lT (lT (lT (lT (lT (lT m1.size m2.size) m3.size) m4.size) m5.size) m6.size) m7.size) m8.size) m9.size) m10.size) m11.size) m12.size) m13.size) m14.size) m15.size) m16.size) md1.size) m17.size) m18.size) m19.size) m20.size) m21.size) m22.size) m23.size) m24.size) m25.size) m26.size) m27.size) m28.size) m29.size) m30.size) m31.size) m32.size) lR)) aN))).nt m35).nt m36).nt m37).nt m38)⟩

set_option maxRecDepth 100000 in
set_option maxHeartbeats 2000000 in
theorem law_playjet_bad (nTr : Nat) (cTr : Nat) (ATr : Option Addr) (bTr : Nat) (oTr : Nat) (xTr : List Nat) (Tj : Int) (nBr : Nat) (cBr : Nat) (ABr : Option Addr) (bBr : Nat) (oBr : Nat) (xBr : List Nat) (Bj : Int) (Lk : Int) (Lc0 : Nat) (Lc1 : Nat) (Lc2 : Nat) (Ls0 : Nat) (Ls1 : Nat) (Dk : Int) (Dc0 : Nat) (Dc1 : Nat) (Dc2 : Nat) (Ds0 : Nat) (Ds1 : Nat) (ne : Nat) (fa : Nat) (l : Nat) (cl : Nat) (Al : Option Addr) (bl : Nat) (ol : Nat) (ss : List Nat) (lnTr : xTr.length = nTr) (hATr : 0 < nTr → ATr = some ⟨bTr, oTr, none⟩) (lnBr : xBr.length = nBr) (hABr : 0 < nBr → ABr = some ⟨bBr, oBr, none⟩) (wTr : W32 xTr) (wBr : W32 xBr) (lLs0 : Ls0 < wid .f32) (lLs1 : Ls1 < wid .f32) (lDs0 : Ds0 < wid .f32) (lDs1 : Ds1 < wid .f32) (hv : vJet nTr Tj nBr Bj xTr xBr Lk Lc0 Lc1 Lc2 Ls0 Ls1 Dk Dc0 Dc1 Dc2 Ds0 Ds1 ne fa = false) (hn : nTr ≤ 9223372036854775807) (hm : nBr ≤ 9223372036854775807) (hl2 : l ≤ 1048576) (ls : ss.length = l) (hAl : 0 < l → Al = some ⟨bl, ol, none⟩) (wl : W32 ss) (w : World) (rTr : Rng w bTr oTr (fl xTr)) (rBr : Rng w bBr oBr (fl xBr)) (rl : Rng w bl ol (fl ss)) : Cl Try.prog 8 #[.agg #[.slice ATr nTr cTr, vI Tj, .slice ABr nBr cBr, vI Bj, vI Lk, vF Lc0, vF Lc1, vF Lc2, vF Ls0, vF Ls1, vI Dk, vF Dc0, vF Dc1, vF Dc2, vF Ds0, vF Ds1, vF ne, vF fa], .slice Al l cl] w fun v w' => v = .bool true ∧ Mod [] w w' := by
  refine Cl.of Try.func8 Try.ntmps8 rfl rfl (ρ := [(0, .agg #[.slice ATr nTr cTr, vI Tj, .slice ABr nBr cBr, vI Bj, vI Lk, vF Lc0, vF Lc1, vF Lc2, vF Ls0, vF Ls1, vI Dk, vF Dc0, vF Dc1, vF Dc2, vF Ds0, vF Ds1, vF ne, vF fa]), (1, .slice Al l cl)]) rfl ?_
  refine CE.seq ?_
  refine CE.region ?_
  refine WL.op (op_box (cs := [.slice ATr nTr cTr, vI Tj, .slice ABr nBr cBr, vI Bj, vI Lk, vF Lc0, vF Lc1, vF Lc2, vF Ls0, vF Ls1, vI Dk, vF Dc0, vF Dc1, vF Dc2, vF Ds0, vF Ds1, vF ne, vF fa]) rfl rfl) rfl rfl (ltb rfl) ?_
  rintro _ w1 ⟨rfl, r1, m1, z1⟩
  refine WL.det (op_assign rfl) rfl rfl rfl ?_
  refine WL.end ?_
  refine NE.code ?_
  refine CE.seq ?_
  refine CE.seq ?_
  refine CE.region ?_
  refine WL.det (op_move rfl) rfl rfl rfl ?_
  refine WL.det (op_len rfl Try.runUnderlying22) rfl rfl rfl ?_
  refine WL.det (op_gti rfl rfl) rfl rfl rfl ?_
  refine WL.end ?_
  refine NE.code ?_
  refine CE.cond_f rfl (decide_eq_false (by omega)) ?_
  refine CE.skip' ?_
  refine NE.code ?_
  refine CE.seq ?_
  refine CE.region ?_
  refine WL.det (op_assign rfl) rfl rfl rfl ?_
  refine WL.end ?_
  refine NE.code ?_
  refine CE.seq ?_
  refine CE.region ?_
  refine WL.det (op_loadA (i := 0) (cs := [.slice ATr nTr cTr, vI Tj, .slice ABr nBr cBr, vI Bj, vI Lk, vF Lc0, vF Lc1, vF Lc2, vF Ls0, vF Ls1, vI Dk, vF Dc0, vF Dc1, vF Dc2, vF Ds0, vF Ds1, vF ne, vF fa]) rfl Try.isAgg58 Try.sizeOf58 r1.rng rfl rfl rfl) rfl rfl rfl ?_
  refine WL.det (op_move rfl) rfl rfl rfl ?_
  rcases Bool.eq_false_or_eq_true (decide (1048576 < nTr + nBr)) with hb1 | hb1
  · have hp1 := hb1; try simp only [Bool.and_eq_true, Bool.or_eq_true, Bool.not_eq_true', Bool.not_eq_false', Bool.and_eq_false_iff, Bool.or_eq_false_iff, decide_eq_true_eq, decide_eq_false_iff_not, beq_iff_eq, bne_iff_ne, beq_eq_false_iff_ne, bne_eq_false_iff_eq, ne_eq, Bool.false_eq_true, not_false_eq_true, not_true_eq_false, vIn_t, vIn_f] at hp1
    refine WL.call (oc_call (vs := [.agg #[.slice ATr nTr cTr, vI Tj, .slice ABr nBr cBr, vI Bj, vI Lk, vF Lc0, vF Lc1, vF Lc2, vF Ls0, vF Ls1, vI Dk, vF Dc0, vF Dc1, vF Dc2, vF Ds0, vF Ds1, vF ne, vF fa], vI 1048576]) (cap := []) rfl rfl rfl Try.call30 (c_szJet_over 1048576 nTr cTr ATr Tj nBr cBr ABr Bj Lk Lc0 Lc1 Lc2 Ls0 Ls1 Dk Dc0 Dc1 Dc2 Ds0 Ds1 ne fa (by omega) (by omega) (by omega) (by omega) w1)) rfl rfl (ltb rfl) ?_
    rintro _ w2 ⟨rfl, m2⟩
    refine WL.det (op_assign rfl) rfl rfl rfl ?_
    refine WL.end ?_
    refine NE.code ?_
    refine CE.seq ?_
    refine CE.seq ?_
    refine CE.region ?_
    refine WL.det (op_move rfl) rfl rfl rfl ?_
    refine WL.det (op_lti rfl rfl) rfl rfl rfl ?_
    refine WL.end ?_
    refine NE.code ?_
    refine CE.cond_t rfl rfl ?_
    refine CE.seq ?_
    refine CE.region ?_
    refine WL.det (op_assign rfl) rfl rfl rfl ?_
    refine WL.end ?_
    refine NE.code ?_
    refine CE.ret' ?_
    refine XE.ret_then ?_
    refine XE.leave1 Try.results8 rfl ?_
    refine ⟨rfl, (((Mod.refl [] w).nt m1).nt m2)⟩
  · have hp1 := hb1; try simp only [Bool.and_eq_true, Bool.or_eq_true, Bool.not_eq_true', Bool.not_eq_false', Bool.and_eq_false_iff, Bool.or_eq_false_iff, decide_eq_true_eq, decide_eq_false_iff_not, beq_iff_eq, bne_iff_ne, beq_eq_false_iff_ne, bne_eq_false_iff_eq, ne_eq, Bool.false_eq_true, not_false_eq_true, not_true_eq_false, vIn_t, vIn_f] at hp1
    refine WL.call (oc_call (vs := [.agg #[.slice ATr nTr cTr, vI Tj, .slice ABr nBr cBr, vI Bj, vI Lk, vF Lc0, vF Lc1, vF Lc2, vF Ls0, vF Ls1, vI Dk, vF Dc0, vF Dc1, vF Dc2, vF Ds0, vF Ds1, vF ne, vF fa], vI 1048576]) (cap := []) rfl rfl rfl Try.call30 (c_szJet 1048576 nTr cTr ATr Tj nBr cBr ABr Bj Lk Lc0 Lc1 Lc2 Ls0 Ls1 Dk Dc0 Dc1 Dc2 Ds0 Ds1 ne fa (by omega) (by omega) w1)) rfl rfl (ltb rfl) ?_
    rintro _ w3 ⟨rfl, m3⟩
    refine WL.det (op_assign rfl) rfl rfl rfl ?_
    refine WL.end ?_
    refine NE.code ?_
    refine CE.seq ?_
    refine CE.seq ?_
    refine CE.region ?_
    refine WL.det (op_move rfl) rfl rfl rfl ?_
    refine WL.det (op_lti_f rfl rfl (by omega)) rfl rfl rfl ?_
    refine WL.end ?_
    refine NE.code ?_
    refine CE.cond_f rfl rfl ?_
    refine CE.skip' ?_
    refine NE.code ?_
    refine CE.seq ?_
    refine CE.region ?_
    refine WL.det (op_loadA (i := 0) (cs := [.slice ATr nTr cTr, vI Tj, .slice ABr nBr cBr, vI Bj, vI Lk, vF Lc0, vF Lc1, vF Lc2, vF Ls0, vF Ls1, vI Dk, vF Dc0, vF Dc1, vF Dc2, vF Ds0, vF Ds1, vF ne, vF fa]) rfl Try.isAgg58 Try.sizeOf58 (r1.ext m3).rng rfl rfl rfl) rfl rfl rfl ?_
    refine WL.call (oc_call (vs := [.agg #[.slice ATr nTr cTr, vI Tj, .slice ABr nBr cBr, vI Bj, vI Lk, vF Lc0, vF Lc1, vF Lc2, vF Ls0, vF Ls1, vI Dk, vF Dc0, vF Dc1, vF Dc2, vF Ds0, vF Ds1, vF ne, vF fa]]) (cap := []) rfl rfl rfl Try.call32 (c_toJet nTr cTr ATr bTr oTr xTr Tj nBr cBr ABr bBr oBr xBr Bj Lk Lc0 Lc1 Lc2 Ls0 Ls1 Dk Dc0 Dc1 Dc2 Ds0 Ds1 ne fa lnTr hATr lnBr hABr (by omega) (by omega) w3 ((rTr.ext m1).ext m3) ((rBr.ext m1).ext m3))) rfl rfl (ltb rfl) ?_
    rintro _ w4 ⟨bTr'1, bBr'1, rfl, r2, r3, ge1, ge2, ne1, m4⟩
    refine WL.det (op_move rfl) rfl rfl rfl ?_
    refine WL.call (oc_call (vs := [.slice Al l cl]) (cap := []) rfl rfl rfl Try.call41 (c_to32 l cl Al bl ol ss ls hAl (by omega) w4 (((rl.ext m1).ext m3).ext m4))) rfl rfl (ltb rfl) ?_
    rintro _ w5 ⟨b'1, rfl, r4, ge3, m5⟩
    refine WL.call (oc_call (vs := [.agg #[vS bTr'1 0 nTr nTr, vI Tj, vS bBr'1 0 nBr nBr, vI Bj, vI Lk, vF Lc0, vF Lc1, vF Lc2, vF Ls0, vF Ls1, vI Dk, vF Dc0, vF Dc1, vF Dc2, vF Ds0, vF Ds1, vF ne, vF fa], vS b'1 0 l l]) (cap := []) rfl rfl rfl Try.call40 (c_sPlayJet_bad nTr nTr bTr'1 xTr nBr nBr bBr'1 xBr Tj Bj Lk Lc0 Lc1 Lc2 Ls0 Ls1 Dk Dc0 Dc1 Dc2 Ds0 Ds1 ne fa l l (some ⟨b'1, 0, none⟩) b'1 0 ss lnTr lnBr (by omega) (by omega) (by first | assumption | exact W32.get (by assumption) _ | decide +kernel) (by first | assumption | exact W32.get (by assumption) _ | decide +kernel) (by first | assumption | exact W32.get (by assumption) _ | decide +kernel) (by first | assumption | exact W32.get (by assumption) _ | decide +kernel) ls (fun _ => rfl) (by first | assumption | exact W32.set (by assumption) (by first | assumption | exact wid_lt (by assumption)) | exact W32.zeros _ | exact W32.nil) (by omega) (by assumption) w5 (r2.ext m5).rng (r3.ext m5).rng r4.rng)) rfl rfl (ltb rfl) ?_
    rintro _ w6 ⟨e'1, rfl, r5, ge4, m6⟩
    refine WL.det (op_move rfl) rfl rfl rfl ?_
    refine WL.det (op_extract rfl rfl) rfl rfl rfl ?_
    refine WL.det (op_extract rfl rfl) rfl rfl rfl ?_
    refine WL.det (op_extract rfl rfl) rfl rfl rfl ?_
    refine WL.op (op_alloc (cs := [.slice none 0 0, vI 0, .slice none 0 0, vI 0, vI 0, vF 0, vF 0, vF 0, vF 0, vF 0, vI 0, vF 0, vF 0, vF 0, vF 0, vF 0, vF 0, vF 0]) Try.zeroValue61 rfl) rfl rfl (ltb rfl) ?_
    rintro _ w7 ⟨rfl, r6, m7, z2⟩
    refine WL.op0 (op_store (i := 0) (cs := [.slice none 0 0, vI 0, .slice none 0 0, vI 0, vI 0, vF 0, vF 0, vF 0, vF 0, vF 0, vI 0, vF 0, vF 0, vF 0, vF 0, vF 0, vF 0, vF 0]) rfl rfl rfl Try.sizeOf61 rfl r6 rfl (lB rfl) rfl) rfl rfl ?_
    rintro _ w8 ⟨r7, m8, z3⟩
    have r8 : Row w8 w6.heap.size 0 [.slice none 0 0, vI 0, .slice none 0 0, vI 0, vI 0, vF 0, vF 0, vF 0, vF 0, vF 0, vI 0, vF 0, vF 0, vF 0, vF 0, vF 0, vF 0, vF 0] := Row.congr r7 rfl
    refine WL.det (op_assign rfl) rfl rfl rfl ?_
    refine WL.det (op_assign rfl) rfl rfl rfl ?_
    refine WL.end ?_
    refine NE.code ?_
    refine CE.seq ?_
    refine CE.region ?_
    refine WL.det (op_loadA (i := 0) (cs := [.slice ATr nTr cTr, vI Tj, .slice ABr nBr cBr, vI Bj, vI Lk, vF Lc0, vF Lc1, vF Lc2, vF Ls0, vF Ls1, vI Dk, vF Dc0, vF Dc1, vF Dc2, vF Ds0, vF Ds1, vF ne, vF fa]) rfl Try.isAgg58 Try.sizeOf58 ((((((r1.ext m3).ext m4).ext m5).ext m6).ext m7).mod m8 (nC (lE (lL (lL r1.lt (lT (lT (lT m3.size m4.size) m5.size) m6.size)) lR)) nN)).rng rfl rfl rfl) rfl rfl rfl ?_
    refine WL.call (oc_call (vs := [.agg #[.slice ATr nTr cTr, vI Tj, .slice ABr nBr cBr, vI Bj, vI Lk, vF Lc0, vF Lc1, vF Lc2, vF Ls0, vF Ls1, vI Dk, vF Dc0, vF Dc1, vF Dc2, vF Ds0, vF Ds1, vF ne, vF fa]]) (cap := []) rfl rfl rfl Try.call32 (c_toJet nTr cTr ATr bTr oTr xTr Tj nBr cBr ABr bBr oBr xBr Bj Lk Lc0 Lc1 Lc2 Ls0 Ls1 Dk Dc0 Dc1 Dc2 Ds0 Ds1 ne fa lnTr hATr lnBr hABr (by omega) (by omega) w8 (Rng.youngS rTr ((((((rTr.ext m1).ext m3).ext m4).ext m5).ext m6).ext m7) m8 (allge_cons (lT (lT (lT (lT (lT m1.size m3.size) m4.size) m5.size) m6.size) lR) allge_nil)) (Rng.youngS rBr ((((((rBr.ext m1).ext m3).ext m4).ext m5).ext m6).ext m7) m8 (allge_cons (lT (lT (lT (lT (lT m1.size m3.size) m4.size) m5.size) m6.size) lR) allge_nil)))) rfl rfl (ltb rfl) ?_
    rintro _ w9 ⟨bTr'2, bBr'2, rfl, r9, r10, ge5, ge6, ne2, m9⟩
    refine WL.op (op_alloc (cs := [.slice none 0 0, vI 0, .slice none 0 0, vI 0, vI 0, vF 0, vF 0, vF 0, vF 0, vF 0, vI 0, vF 0, vF 0, vF 0, vF 0, vF 0, vF 0, vF 0]) Try.zeroValue61 rfl) rfl rfl (ltb rfl) ?_
    rintro _ w10 ⟨rfl, r11, m10, z4⟩
    refine WL.op0 (op_store (i := 0) (cs := [vS bTr'2 0 nTr nTr, vI Tj, vS bBr'2 0 nBr nBr, vI Bj, vI Lk, vF Lc0, vF Lc1, vF Lc2, vF Ls0, vF Ls1, vI Dk, vF Dc0, vF Dc1, vF Dc2, vF Ds0, vF Ds1, vF ne, vF fa]) rfl rfl rfl Try.sizeOf61 rfl r11 rfl (lB rfl) rfl) rfl rfl ?_
    rintro _ w11 ⟨r12, m11, z5⟩
    have r13 : Row w11 w9.heap.size 0 [vS bTr'2 0 nTr nTr, vI Tj, vS bBr'2 0 nBr nBr, vI Bj, vI Lk, vF Lc0, vF Lc1, vF Lc2, vF Ls0, vF Ls1, vI Dk, vF Dc0, vF Dc1, vF Dc2, vF Ds0, vF Ds1, vF ne, vF fa] := Row.congr r12 rfl
    refine WL.end ?_
    refine NE.code ?_
    refine CE.seq ?_
    refine CE.region ?_
    refine WL.det (op_move rfl) rfl rfl rfl ?_
    refine WL.call (oc_call (vs := [.slice Al l cl]) (cap := []) rfl rfl rfl Try.call41 (c_to32 l cl Al bl ol ss ls hAl (by omega) w11 (Rng.youngS rl (((Rng.youngS rl ((((((rl.ext m1).ext m3).ext m4).ext m5).ext m6).ext m7) m8 (allge_cons (lT (lT (lT (lT (lT m1.size m3.size) m4.size) m5.size) m6.size) lR) allge_nil)).ext m9).ext m10) m11 (allge_cons (lT (lT (lT (lT (lT (lT (lT (lT m1.size m3.size) m4.size) m5.size) m6.size) m7.size) m8.size) m9.size) lR) allge_nil)))) rfl rfl (ltb rfl) ?_
    rintro _ w12 ⟨b'2, rfl, r14, ge7, m12⟩
    refine WL.det (op_assign rfl) rfl rfl rfl ?_
    refine WL.end ?_
    refine NE.code ?_
    refine CE.seq ?_
    refine CE.region ?_
    refine WL.det (op_loadA (i := 0) (cs := [vS bTr'2 0 nTr nTr, vI Tj, vS bBr'2 0 nBr nBr, vI Bj, vI Lk, vF Lc0, vF Lc1, vF Lc2, vF Ls0, vF Ls1, vI Dk, vF Dc0, vF Dc1, vF Dc2, vF Ds0, vF Ds1, vF ne, vF fa]) rfl Try.isAgg61 Try.sizeOf61 (r13.ext m12).rng rfl rfl rfl) rfl rfl rfl ?_
    refine WL.det (op_move rfl) rfl rfl rfl ?_
    refine WL.call (oc_call (vs := [.agg #[vS bTr'2 0 nTr nTr, vI Tj, vS bBr'2 0 nBr nBr, vI Bj, vI Lk, vF Lc0, vF Lc1, vF Lc2, vF Ls0, vF Ls1, vI Dk, vF Dc0, vF Dc1, vF Dc2, vF Ds0, vF Ds1, vF ne, vF fa], vS b'2 0 l l]) (cap := []) rfl rfl rfl Try.call42 (c_iPlayJet_bad nTr nTr bTr'2 xTr nBr nBr bBr'2 xBr Tj Bj Lk Lc0 Lc1 Lc2 Ls0 Ls1 Dk Dc0 Dc1 Dc2 Ds0 Ds1 ne fa l l (some ⟨b'2, 0, none⟩) b'2 0 ss lnTr lnBr (by omega) (by omega) (by first | assumption | exact W32.get (by assumption) _ | decide +kernel) (by first | assumption | exact W32.get (by assumption) _ | decide +kernel) (by first | assumption | exact W32.get (by assumption) _ | decide +kernel) (by first | assumption | exact W32.get (by assumption) _ | decide +kernel) ls (fun _ => rfl) (by first | assumption | exact W32.set (by assumption) (by first | assumption | exact wid_lt (by assumption)) | exact W32.zeros _ | exact W32.nil) (by omega) (by assumption) w12 (((r9.ext m10).mod m11 (nC (lE (lL r9.lt lR)) nN)).ext m12).rng (((r10.ext m10).mod m11 (nC (lE (lL r10.lt lR)) nN)).ext m12).rng r14.rng)) rfl rfl (ltb rfl) ?_
    rintro _ w13 ⟨rfl, m13⟩
    refine WL.det (op_move rfl) rfl rfl rfl ?_
    refine WL.det (op_extract rfl rfl) rfl rfl rfl ?_
    refine WL.det (op_extract rfl rfl) rfl rfl rfl ?_
    refine WL.det (op_extract rfl rfl) rfl rfl rfl ?_
    refine WL.op (op_alloc (cs := [.slice none 0 0, vI 0, .slice none 0 0, vI 0, vI 0, vF 0, vF 0, vF 0, vF 0, vF 0, vI 0, vF 0, vF 0, vF 0, vF 0, vF 0, vF 0, vF 0]) Try.zeroValue61 rfl) rfl rfl (ltb rfl) ?_
    rintro _ w14 ⟨rfl, r15, m14, z6⟩
    refine WL.op0 (op_store (i := 0) (cs := [.slice none 0 0, vI 0, .slice none 0 0, vI 0, vI 0, vF 0, vF 0, vF 0, vF 0, vF 0, vI 0, vF 0, vF 0, vF 0, vF 0, vF 0, vF 0, vF 0]) rfl rfl rfl Try.sizeOf61 rfl r15 rfl (lB rfl) rfl) rfl rfl ?_
    rintro _ w15 ⟨r16, m15, z7⟩
    have r17 : Row w15 w13.heap.size 0 [.slice none 0 0, vI 0, .slice none 0 0, vI 0, vI 0, vF 0, vF 0, vF 0, vF 0, vF 0, vI 0, vF 0, vF 0, vF 0, vF 0, vF 0, vF 0, vF 0] := Row.congr r16 rfl
    refine WL.det (op_assign rfl) rfl rfl rfl ?_
    refine WL.det (op_assign rfl) rfl rfl rfl ?_
    refine WL.end ?_
    refine NE.code ?_
    refine CE.seq ?_
    refine CE.seq ?_
    refine CE.region ?_
    refine WL.det (op_loadA (i := 0) (cs := [.slice none 0 0, vI 0, .slice none 0 0, vI 0, vI 0, vF 0, vF 0, vF 0, vF 0, vF 0, vI 0, vF 0, vF 0, vF 0, vF 0, vF 0, vF 0, vF 0]) rfl Try.isAgg61 Try.sizeOf61 r17.rng rfl rfl rfl) rfl rfl rfl ?_
    refine WL.det (op_loadA (i := 0) (cs := [.slice none 0 0, vI 0, .slice none 0 0, vI 0, vI 0, vF 0, vF 0, vF 0, vF 0, vF 0, vI 0, vF 0, vF 0, vF 0, vF 0, vF 0, vF 0, vF 0]) rfl Try.isAgg61 Try.sizeOf61 (((((((r8.ext m9).ext m10).mod m11 (nC (lE (lL (lL r6.lt (lT m8.size m9.size)) lR)) nN)).ext m12).ext m13).ext m14).mod m15 (nC (lE (lL (lL r6.lt (lT (lT (lT (lT (lT m8.size m9.size) m10.size) m11.size) m12.size) m13.size)) lR)) nN)).rng rfl rfl rfl) rfl rfl rfl ?_
    refine WL.call (oc_call (vs := [.agg #[.slice none 0 0, vI 0, .slice none 0 0, vI 0, vI 0, vF 0, vF 0, vF 0, vF 0, vF 0, vI 0, vF 0, vF 0, vF 0, vF 0, vF 0, vF 0, vF 0], .agg #[.slice none 0 0, vI 0, .slice none 0 0, vI 0, vI 0, vF 0, vF 0, vF 0, vF 0, vF 0, vI 0, vF 0, vF 0, vF 0, vF 0, vF 0, vF 0, vF 0]]) (cap := []) rfl rfl rfl Try.call34 (c_eqJet 0 0 none 0 0 [] (0 : Int) 0 0 none 0 0 [] (0 : Int) (0 : Int) 0 0 0 0 0 0 0 0 0 0 (0 : Int) 0 0 0 0 0 0 0 0 0 0 0 0 0 0 0 none 0 0 0 none 0 0 0 0 0 0 0 0 0 0 0 0 0 0 rfl (fun h => absurd h (Nat.lt_irrefl _)) rfl (fun h => absurd h (Nat.lt_irrefl _)) (fun h => absurd h (Nat.lt_irrefl _)) (fun h => absurd h (Nat.lt_irrefl _)) rfl rfl rfl rfl rfl rfl rfl rfl rfl rfl rfl rfl rfl rfl rfl rfl rfl rfl rfl rfl rfl rfl rfl rfl (by omega) (by omega) w15 (Rng.nil _ _ _) (Rng.nil _ _ _) (Rng.nil _ _ _) (Rng.nil _ _ _))) rfl rfl (ltb rfl) ?_
    rintro _ w16 ⟨rfl, m16⟩
    refine WL.det (op_not rfl) rfl rfl rfl ?_
    refine WL.det (op_move rfl) rfl rfl rfl ?_
    refine WL.yes rfl rfl rfl (ltb rfl) rfl rfl ?_
    refine WL.det (op_move rfl) rfl rfl rfl ?_
    refine WL.yes rfl rfl rfl (ltb rfl) rfl rfl ?_
    refine WL.det (op_move rfl) rfl rfl rfl ?_
    refine WL.yes rfl rfl rfl (ltb rfl) rfl rfl ?_
    refine WL.call (oc_call (vs := [.slice none 0 0, vS e'1 0 0 0]) (cap := []) rfl rfl rfl Try.call43 (c_eq32_same 0 0 none 0 0 [] 0 (some ⟨e'1, 0, none⟩) e'1 0 rfl (fun h => absurd h (Nat.lt_irrefl _)) (fun _ => rfl) (by omega) w16 (Rng.nil _ _ _) ((((((((((r5.ext m7).mod m8 (nC (lE (lL r5.lt lR)) nN)).ext m9).ext m10).mod m11 (nC (lE (lL (lL r5.lt (lT (lT m7.size m8.size) m9.size)) lR)) nN)).ext m12).ext m13).ext m14).mod m15 (nC (lE (lL (lL r5.lt (lT (lT (lT (lT (lT (lT m7.size m8.size) m9.size) m10.size) m11.size) m12.size) m13.size)) lR)) nN)).ext m16).rng)) rfl rfl (ltb rfl) ?_
    rintro _ w17 ⟨rfl, m17⟩
    refine WL.yes rfl rfl rfl (ltb rfl) rfl rfl ?_
    refine WL.det (op_not rfl) rfl rfl rfl ?_
    refine WL.det (op_pick_f rfl rfl rfl) rfl rfl rfl ?_
    refine WL.det (op_move rfl) rfl rfl rfl ?_
    refine WL.yes rfl rfl rfl (ltb rfl) rfl rfl ?_
    refine WL.det (op_move rfl) rfl rfl rfl ?_
    refine WL.yes rfl rfl rfl (ltb rfl) rfl rfl ?_
    refine WL.det (op_move rfl) rfl rfl rfl ?_
    refine WL.yes rfl rfl rfl (ltb rfl) rfl rfl ?_
    refine WL.det (op_nei rfl rfl) rfl rfl rfl ?_
    refine WL.det (op_pick_f rfl rfl rfl) rfl rfl rfl ?_
    refine WL.end ?_
    refine NE.code ?_
    refine CE.cond_f rfl rfl ?_
    refine CE.skip' ?_
    refine NE.code ?_
    refine CE.seq ?_
    refine CE.seq ?_
    refine CE.draw (fun | 2 => some (fun _ wA uA wB => ∃ (bTr' : Nat) (bBr' : Nat), uA = .agg #[vS bTr' 0 nTr nTr, vI Tj, vS bBr' 0 nBr nBr, vI Bj, vI Lk, vF Lc0, vF Lc1, vF Lc2, vF Ls0, vF Ls1, vI Dk, vF Dc0, vF Dc1, vF Dc2, vF Ds0, vF Ds1, vF ne, vF fa] ∧ Row wB bTr' 0 (fl xTr) ∧ Row wB bBr' 0 (fl xBr) ∧ wA.heap.size ≤ bTr' ∧ wA.heap.size ≤ bBr' ∧ bTr' ≠ bBr' ∧ Mod [] wA wB) | _ => none) [0, 1, 2] [3, 4] [] (by kernel_rfl) (by kernel_rfl) ?_
    have md1 : Mod [] w17 w17.drew := (Mod.refl _ _).drew
    generalize w17.drew = w18 at md1 ⊢
    refine DR.det (i := 0) rfl rfl (by kernel_rfl) (.free rfl) rfl rfl (fun wD mD => op_loadA (i := 0) (cs := [vS bTr'2 0 nTr nTr, vI Tj, vS bBr'2 0 nBr nBr, vI Bj, vI Lk, vF Lc0, vF Lc1, vF Lc2, vF Ls0, vF Ls1, vI Dk, vF Dc0, vF Dc1, vF Dc2, vF Ds0, vF Ds1, vF ne, vF fa]) rfl Try.isAgg61 Try.sizeOf61 ((((((((r13.ext m12).ext m13).ext m14).mod m15 (nC (lE (lL (lL r11.lt (lT (lT m11.size m12.size) m13.size)) lR)) nN)).ext m16).ext m17).ext md1).ext mD).rng rfl rfl rfl) ?_
    refine DR.det (i := 1) rfl rfl (by kernel_rfl) (.free rfl) rfl rfl (fun wD mD => op_loadA (i := 0) (cs := [.slice ATr nTr cTr, vI Tj, .slice ABr nBr cBr, vI Bj, vI Lk, vF Lc0, vF Lc1, vF Lc2, vF Ls0, vF Ls1, vI Dk, vF Dc0, vF Dc1, vF Dc2, vF Ds0, vF Ds1, vF ne, vF fa]) rfl Try.isAgg58 Try.sizeOf58 (((((((((((((((((r1.ext m3).ext m4).ext m5).ext m6).ext m7).mod m8 (nC (lE (lL (lL r1.lt (lT (lT (lT m3.size m4.size) m5.size) m6.size)) lR)) nN)).ext m9).ext m10).mod m11 (nC (lE (lL (lL r1.lt (lT (lT (lT (lT (lT (lT m3.size m4.size) m5.size) m6.size) m7.size) m8.size) m9.size)) lR)) nN)).ext m12).ext m13).ext m14).mod m15 (nC (lE (lL (lL r1.lt (lT (lT (lT (lT (lT (lT (lT (lT (lT (lT m3.size m4.size) m5.size) m6.size) m7.size) m8.size) m9.size) m10.size) m11.size) m12.size) m13.size)) lR)) nN)).ext m16).ext m17).ext md1).ext mD).rng rfl rfl rfl) ?_
    refine DR.one (i := 2) rfl rfl (by kernel_rfl) (.free rfl) rfl (ltb rfl) (vs := [.func (.func 32) #[] #[], .agg #[.slice ATr nTr cTr, vI Tj, .slice ABr nBr cBr, vI Bj, vI Lk, vF Lc0, vF Lc1, vF Lc2, vF Ls0, vF Ls1, vI Dk, vF Dc0, vF Dc1, vF Dc2, vF Ds0, vF Ds1, vF ne, vF fa]]) rfl ?_
    intro w19 m18
    refine ⟨oc_call (vs := [.agg #[.slice ATr nTr cTr, vI Tj, .slice ABr nBr cBr, vI Bj, vI Lk, vF Lc0, vF Lc1, vF Lc2, vF Ls0, vF Ls1, vI Dk, vF Dc0, vF Dc1, vF Dc2, vF Ds0, vF Ds1, vF ne, vF fa]]) (cap := []) rfl rfl rfl Try.call32 (c_toJet nTr cTr ATr bTr oTr xTr Tj nBr cBr ABr bBr oBr xBr Bj Lk Lc0 Lc1 Lc2 Ls0 Ls1 Dk Dc0 Dc1 Dc2 Ds0 Ds1 ne fa lnTr hATr lnBr hABr (by omega) (by omega) w19 (((((Rng.youngS rTr ((((Rng.youngS rTr (((Rng.youngS rTr ((((((rTr.ext m1).ext m3).ext m4).ext m5).ext m6).ext m7) m8 (allge_cons (lT (lT (lT (lT (lT m1.size m3.size) m4.size) m5.size) m6.size) lR) allge_nil)).ext m9).ext m10) m11 (allge_cons (lT (lT (lT (lT (lT (lT (lT (lT m1.size m3.size) m4.size) m5.size) m6.size) m7.size) m8.size) m9.size) lR) allge_nil)).ext m12).ext m13).ext m14) m15 (allge_cons (lT (lT (lT (lT (lT (lT (lT (lT (lT (lT (lT (lT m1.size m3.size) m4.size) m5.size) m6.size) m7.size) m8.size) m9.size) m10.size) m11.size) m12.size) m13.size) lR) allge_nil)).ext m16).ext m17).ext md1).ext m18) (((((Rng.youngS rBr ((((Rng.youngS rBr (((Rng.youngS rBr ((((((rBr.ext m1).ext m3).ext m4).ext m5).ext m6).ext m7) m8 (allge_cons (lT (lT (lT (lT (lT m1.size m3.size) m4.size) m5.size) m6.size) lR) allge_nil)).ext m9).ext m10) m11 (allge_cons (lT (lT (lT (lT (lT (lT (lT (lT m1.size m3.size) m4.size) m5.size) m6.size) m7.size) m8.size) m9.size) lR) allge_nil)).ext m12).ext m13).ext m14) m15 (allge_cons (lT (lT (lT (lT (lT (lT (lT (lT (lT (lT (lT (lT m1.size m3.size) m4.size) m5.size) m6.size) m7.size) m8.size) m9.size) m10.size) m11.size) m12.size) m13.size) lR) allge_nil)).ext m16).ext m17).ext md1).ext m18)), ?_⟩
    rintro _ w20 ⟨bTr'3, bBr'3, rfl, r18, r19, ge8, ge9, ne3, m19⟩
    refine ⟨(((Mod.refl [] w18).nt m18).nt m19), ?_⟩
    refine DR.done rfl ?_
    intro w21 m20
    refine WO.call rfl (.free rfl) rfl (ltb rfl) (oc_call (vs := [.agg #[vS bTr'2 0 nTr nTr, vI Tj, vS bBr'2 0 nBr nBr, vI Bj, vI Lk, vF Lc0, vF Lc1, vF Lc2, vF Ls0, vF Ls1, vI Dk, vF Dc0, vF Dc1, vF Dc2, vF Ds0, vF Ds1, vF ne, vF fa], .agg #[vS bTr'3 0 nTr nTr, vI Tj, vS bBr'3 0 nBr nBr, vI Bj, vI Lk, vF Lc0, vF Lc1, vF Lc2, vF Ls0, vF Ls1, vI Dk, vF Dc0, vF Dc1, vF Dc2, vF Ds0, vF Ds1, vF ne, vF fa]]) (cap := []) rfl rfl rfl Try.call34 (c_eqJet nTr nTr (some ⟨bTr'2, 0, none⟩) bTr'2 0 xTr Tj nBr nBr (some ⟨bBr'2, 0, none⟩) bBr'2 0 xBr Bj Lk Lc0 Lc0 Lc1 Lc1 Lc2 Lc2 Ls0 Ls0 Ls1 Ls1 Dk Dc0 Dc0 Dc1 Dc1 Dc2 Dc2 Ds0 Ds0 Ds1 Ds1 ne ne fa fa nTr (some ⟨bTr'3, 0, none⟩) bTr'3 0 nBr (some ⟨bBr'3, 0, none⟩) bBr'3 0 Lc0 Lc1 Lc2 Ls0 Ls1 Dc0 Dc1 Dc2 Ds0 Ds1 ne fa lnTr (fun _ => rfl) lnBr (fun _ => rfl) (fun _ => rfl) (fun _ => rfl) rfl rfl rfl rfl rfl rfl rfl rfl rfl rfl rfl rfl rfl rfl rfl rfl rfl rfl rfl rfl rfl rfl rfl rfl (by omega) (by omega) w21 ((((((((((((r9.ext m10).mod m11 (nC (lE (lL r9.lt lR)) nN)).ext m12).ext m13).ext m14).mod m15 (nC (lE (lL (lL r9.lt (lT (lT (lT m10.size m11.size) m12.size) m13.size)) lR)) nN)).ext m16).ext m17).ext md1).ext m18).ext m19).ext m20).rng ((((((((((((r10.ext m10).mod m11 (nC (lE (lL r10.lt lR)) nN)).ext m12).ext m13).ext m14).mod m15 (nC (lE (lL (lL r10.lt (lT (lT (lT m10.size m11.size) m12.size) m13.size)) lR)) nN)).ext m16).ext m17).ext md1).ext m18).ext m19).ext m20).rng (r18.ext m20).rng (r19.ext m20).rng)) ?_
    rintro _ w22 ⟨rfl, m21⟩
    refine WO.det (op_not rfl) rfl (.free rfl) rfl rfl ?_
    refine WO.end ?_
    refine NE.code ?_
    refine CE.cond_f rfl rfl ?_
    refine CE.skip' ?_
    refine NE.code ?_
    refine CE.seq ?_
    refine CE.seq ?_
    refine CE.region ?_
    refine WL.det (op_move rfl) rfl rfl rfl ?_
    refine WL.det (op_move rfl) rfl rfl rfl ?_
    refine WL.call (oc_call (vs := [.slice Al l cl]) (cap := []) rfl rfl rfl Try.call41 (c_to32 l cl Al bl ol ss ls hAl (by omega) w22 ((((((((Rng.youngS rl ((((Rng.youngS rl (((Rng.youngS rl ((((((rl.ext m1).ext m3).ext m4).ext m5).ext m6).ext m7) m8 (allge_cons (lT (lT (lT (lT (lT m1.size m3.size) m4.size) m5.size) m6.size) lR) allge_nil)).ext m9).ext m10) m11 (allge_cons (lT (lT (lT (lT (lT (lT (lT (lT m1.size m3.size) m4.size) m5.size) m6.size) m7.size) m8.size) m9.size) lR) allge_nil)).ext m12).ext m13).ext m14) m15 (allge_cons (lT (lT (lT (lT (lT (lT (lT (lT (lT (lT (lT (lT m1.size m3.size) m4.size) m5.size) m6.size) m7.size) m8.size) m9.size) m10.size) m11.size) m12.size) m13.size) lR) allge_nil)).ext m16).ext m17).ext md1).ext m18).ext m19).ext m20).ext m21))) rfl rfl (ltb rfl) ?_
    rintro _ w23 ⟨b'3, rfl, r20, ge10, m22⟩
    refine WL.call (oc_call (vs := [vS b'2 0 l l, vS b'3 0 l l]) (cap := []) rfl rfl rfl Try.call43 (c_eq32_same l l (some ⟨b'2, 0, none⟩) b'2 0 ss l (some ⟨b'3, 0, none⟩) b'3 0 ls (fun _ => rfl) (fun _ => rfl) (by omega) w23 (((((((((((r14.ext m13).ext m14).mod m15 (nC (lE (lL (lL r14.lt m13.size) lR)) nN)).ext m16).ext m17).ext md1).ext m18).ext m19).ext m20).ext m21).ext m22).rng r20.rng)) rfl rfl (ltb rfl) ?_
    rintro _ w24 ⟨rfl, m23⟩
    refine WL.det (op_not rfl) rfl rfl rfl ?_
    refine WL.end ?_
    refine NE.code ?_
    refine CE.cond_f rfl rfl ?_
    refine CE.skip' ?_
    refine NE.code ?_
    refine CE.seq ?_
    refine CE.region ?_
    refine WL.det (op_assign rfl) rfl rfl rfl ?_
    refine WL.end ?_
    refine NE.code ?_
    refine CE.seq ?_
    refine CE.region ?_
    refine WL.det (op_loadA (i := 0) (cs := [vS bTr'2 0 nTr nTr, vI Tj, vS bBr'2 0 nBr nBr, vI Bj, vI Lk, vF Lc0, vF Lc1, vF Lc2, vF Ls0, vF Ls1, vI Dk, vF Dc0, vF Dc1, vF Dc2, vF Ds0, vF Ds1, vF ne, vF fa]) rfl Try.isAgg61 Try.sizeOf61 (((((((((((((r13.ext m12).ext m13).ext m14).mod m15 (nC (lE (lL (lL r11.lt (lT (lT m11.size m12.size) m13.size)) lR)) nN)).ext m16).ext m17).ext md1).ext m18).ext m19).ext m20).ext m21).ext m22).ext m23).rng rfl rfl rfl) rfl rfl rfl ?_
    refine WL.det (op_move rfl) rfl rfl rfl ?_
    refine WL.call (oc_call (vs := [.agg #[vS bTr'2 0 nTr nTr, vI Tj, vS bBr'2 0 nBr nBr, vI Bj, vI Lk, vF Lc0, vF Lc1, vF Lc2, vF Ls0, vF Ls1, vI Dk, vF Dc0, vF Dc1, vF Dc2, vF Ds0, vF Ds1, vF ne, vF fa], vI 1]) (cap := []) rfl rfl rfl Try.call36 (c_markJet nTr nTr bTr'2 xTr Tj nBr nBr bBr'2 xBr Bj Lk Lc0 Lc1 Lc2 Ls0 Ls1 Dk Dc0 Dc1 Dc2 Ds0 Ds1 ne fa 1 lnTr lnBr (by omega) (by omega) (by omega) w24 (((((((((((((((r9.ext m10).mod m11 (nC (lE (lL r9.lt lR)) nN)).ext m12).ext m13).ext m14).mod m15 (nC (lE (lL (lL r9.lt (lT (lT (lT m10.size m11.size) m12.size) m13.size)) lR)) nN)).ext m16).ext m17).ext md1).ext m18).ext m19).ext m20).ext m21).ext m22).ext m23) (((((((((((((((r10.ext m10).mod m11 (nC (lE (lL r10.lt lR)) nN)).ext m12).ext m13).ext m14).mod m15 (nC (lE (lL (lL r10.lt (lT (lT (lT m10.size m11.size) m12.size) m13.size)) lR)) nN)).ext m16).ext m17).ext md1).ext m18).ext m19).ext m20).ext m21).ext m22).ext m23) ne2)) rfl rfl (ltb rfl) ?_
    rintro _ w25 ⟨rfl, r21, r22, m24⟩
    refine WL.det (op_assign rfl) rfl rfl rfl ?_
    refine WL.end ?_
    refine NE.code ?_
    refine CE.seq ?_
    refine CE.region ?_
    refine WL.det (op_move rfl) rfl rfl rfl ?_
    refine WL.det (op_move rfl) rfl rfl rfl ?_
    refine WL.call (oc_call (vs := [vS b'2 0 l l, vI ((1 + nTr + nBr : Nat) : Int)]) (cap := []) rfl rfl rfl Try.call44 (c_mark32 l l (some ⟨b'2, 0, none⟩) b'2 0 ss (1 + nTr + nBr) ls (fun _ => rfl) (by omega) (by omega) w25 (((((((((((((r14.ext m13).ext m14).mod m15 (nC (lE (lL (lL r14.lt m13.size) lR)) nN)).ext m16).ext m17).ext md1).ext m18).ext m19).ext m20).ext m21).ext m22).ext m23).mod m24 (nC (lG (lL (lL r9.lt (lT m10.size m11.size)) ge7)) (nC (lG (lL (lL r10.lt (lT m10.size m11.size)) ge7)) nN))))) rfl rfl (ltb rfl) ?_
    rintro _ w26 ⟨rfl, r23, m25⟩
    refine WL.det (op_assign rfl) rfl rfl rfl ?_
    refine WL.end ?_
    refine NE.code ?_
    refine CE.seq ?_
    refine CE.seq ?_
    refine CE.region ?_
    refine WL.det (op_move rfl) rfl rfl rfl ?_
    refine WL.det (op_lti_f rfl rfl (by omega)) rfl rfl rfl ?_
    refine WL.det (op_move rfl) rfl rfl rfl ?_
    refine WL.yes rfl rfl rfl (ltb rfl) rfl rfl ?_
    refine WL.det (op_loadA (i := 0) (cs := [.slice none 0 0, vI 0, .slice none 0 0, vI 0, vI 0, vF 0, vF 0, vF 0, vF 0, vF 0, vI 0, vF 0, vF 0, vF 0, vF 0, vF 0, vF 0, vF 0]) rfl Try.isAgg61 Try.sizeOf61 (((((((((((r17.ext m16).ext m17).ext md1).ext m18).ext m19).ext m20).ext m21).ext m22).ext m23).mod m24 (nC (lG (lL (lL r9.lt (lT (lT (lT m10.size m11.size) m12.size) m13.size)) lR)) (nC (lG (lL (lL r10.lt (lT (lT (lT m10.size m11.size) m12.size) m13.size)) lR)) nN))).mod m25 (nC (lG (lL (lL r14.lt m13.size) lR)) nN)).rng rfl rfl rfl) rfl rfl rfl ?_
    refine WL.yes rfl rfl rfl (ltb rfl) rfl rfl ?_
    refine WL.det (op_loadA (i := 0) (cs := [.slice none 0 0, vI 0, .slice none 0 0, vI 0, vI 0, vF 0, vF 0, vF 0, vF 0, vF 0, vI 0, vF 0, vF 0, vF 0, vF 0, vF 0, vF 0, vF 0]) rfl Try.isAgg61 Try.sizeOf61 ((((((((((((((((((r8.ext m9).ext m10).mod m11 (nC (lE (lL (lL r6.lt (lT m8.size m9.size)) lR)) nN)).ext m12).ext m13).ext m14).mod m15 (nC (lE (lL (lL r6.lt (lT (lT (lT (lT (lT m8.size m9.size) m10.size) m11.size) m12.size) m13.size)) lR)) nN)).ext m16).ext m17).ext md1).ext m18).ext m19).ext m20).ext m21).ext m22).ext m23).mod m24 (nC (lE (lL (lL r6.lt m8.size) ge5)) (nC (lE (lL (lL r6.lt m8.size) ge6)) nN))).mod m25 (nC (lE (lL (lL r6.lt (lT (lT (lT m8.size m9.size) m10.size) m11.size)) ge7)) nN)).rng rfl rfl rfl) rfl rfl rfl ?_
    refine WL.yes rfl rfl rfl (ltb rfl) rfl rfl ?_
    refine WL.call (oc_call (vs := [.agg #[.slice none 0 0, vI 0, .slice none 0 0, vI 0, vI 0, vF 0, vF 0, vF 0, vF 0, vF 0, vI 0, vF 0, vF 0, vF 0, vF 0, vF 0, vF 0, vF 0], .agg #[.slice none 0 0, vI 0, .slice none 0 0, vI 0, vI 0, vF 0, vF 0, vF 0, vF 0, vF 0, vI 0, vF 0, vF 0, vF 0, vF 0, vF 0, vF 0, vF 0]]) (cap := []) rfl rfl rfl Try.call34 (c_eqJet 0 0 none 0 0 [] (0 : Int) 0 0 none 0 0 [] (0 : Int) (0 : Int) 0 0 0 0 0 0 0 0 0 0 (0 : Int) 0 0 0 0 0 0 0 0 0 0 0 0 0 0 0 none 0 0 0 none 0 0 0 0 0 0 0 0 0 0 0 0 0 0 rfl (fun h => absurd h (Nat.lt_irrefl _)) rfl (fun h => absurd h (Nat.lt_irrefl _)) (fun h => absurd h (Nat.lt_irrefl _)) (fun h => absurd h (Nat.lt_irrefl _)) rfl rfl rfl rfl rfl rfl rfl rfl rfl rfl rfl rfl rfl rfl rfl rfl rfl rfl rfl rfl rfl rfl rfl rfl (by omega) (by omega) w26 (Rng.nil _ _ _) (Rng.nil _ _ _) (Rng.nil _ _ _) (Rng.nil _ _ _))) rfl rfl (ltb rfl) ?_
    rintro _ w27 ⟨rfl, m26⟩
    refine WL.yes rfl rfl rfl (ltb rfl) rfl rfl ?_
    refine WL.det (op_not rfl) rfl rfl rfl ?_
    refine WL.det (op_pick_f rfl rfl rfl) rfl rfl rfl ?_
    refine WL.det (op_move rfl) rfl rfl rfl ?_
    refine WL.yes rfl rfl rfl (ltb rfl) rfl rfl ?_
    refine WL.det (op_move rfl) rfl rfl rfl ?_
    refine WL.yes rfl rfl rfl (ltb rfl) rfl rfl ?_
    refine WL.det (op_move rfl) rfl rfl rfl ?_
    refine WL.yes rfl rfl rfl (ltb rfl) rfl rfl ?_
    refine WL.call (oc_call (vs := [.slice none 0 0, vS e'1 0 0 0]) (cap := []) rfl rfl rfl Try.call43 (c_eq32_same 0 0 none 0 0 [] 0 (some ⟨e'1, 0, none⟩) e'1 0 rfl (fun h => absurd h (Nat.lt_irrefl _)) (fun _ => rfl) (by omega) w27 (Rng.nil _ _ _) (((((((((((((((((((((r5.ext m7).mod m8 (nC (lE (lL r5.lt lR)) nN)).ext m9).ext m10).mod m11 (nC (lE (lL (lL r5.lt (lT (lT m7.size m8.size) m9.size)) lR)) nN)).ext m12).ext m13).ext m14).mod m15 (nC (lE (lL (lL r5.lt (lT (lT (lT (lT (lT (lT m7.size m8.size) m9.size) m10.size) m11.size) m12.size) m13.size)) lR)) nN)).ext m16).ext m17).ext md1).ext m18).ext m19).ext m20).ext m21).ext m22).ext m23).mod m24 (nC (lE (lL (lL r5.lt (lT m7.size m8.size)) ge5)) (nC (lE (lL (lL r5.lt (lT m7.size m8.size)) ge6)) nN))).mod m25 (nC (lE (lL (lL r5.lt (lT (lT (lT (lT m7.size m8.size) m9.size) m10.size) m11.size)) ge7)) nN)).ext m26).rng)) rfl rfl (ltb rfl) ?_
    rintro _ w28 ⟨rfl, m27⟩
    refine WL.yes rfl rfl rfl (ltb rfl) rfl rfl ?_
    refine WL.det (op_not rfl) rfl rfl rfl ?_
    refine WL.det (op_pick_f rfl rfl rfl) rfl rfl rfl ?_
    refine WL.det (op_move rfl) rfl rfl rfl ?_
    refine WL.yes rfl rfl rfl (ltb rfl) rfl rfl ?_
    refine WL.det (op_move rfl) rfl rfl rfl ?_
    refine WL.yes rfl rfl rfl (ltb rfl) rfl rfl ?_
    refine WL.det (op_move rfl) rfl rfl rfl ?_
    refine WL.yes rfl rfl rfl (ltb rfl) rfl rfl ?_
    refine WL.det (op_nei rfl rfl) rfl rfl rfl ?_
    refine WL.det (op_pick_f rfl rfl rfl) rfl rfl rfl ?_
    refine WL.end ?_
    refine NE.code ?_
    refine CE.cond_f rfl rfl ?_
    refine CE.skip' ?_
    refine NE.code ?_
    refine CE.seq ?_
    refine CE.region ?_
    refine WL.det (op_assign rfl) rfl rfl rfl ?_
    refine WL.end ?_
    refine NE.code ?_
    refine CE.seq ?_
    refine CE.region ?_
    refine WL.det (op_loadA (i := 0) (cs := [.slice none 0 0, vI 0, .slice none 0 0, vI 0, vI 0, vF 0, vF 0, vF 0, vF 0, vF 0, vI 0, vF 0, vF 0, vF 0, vF 0, vF 0, vF 0, vF 0]) rfl Try.isAgg61 Try.sizeOf61 (((((((((((((r17.ext m16).ext m17).ext md1).ext m18).ext m19).ext m20).ext m21).ext m22).ext m23).mod m24 (nC (lG (lL (lL r9.lt (lT (lT (lT m10.size m11.size) m12.size) m13.size)) lR)) (nC (lG (lL (lL r10.lt (lT (lT (lT m10.size m11.size) m12.size) m13.size)) lR)) nN))).mod m25 (nC (lG (lL (lL r14.lt m13.size) lR)) nN)).ext m26).ext m27).rng rfl rfl rfl) rfl rfl rfl ?_
    refine WL.det (op_move rfl) rfl rfl rfl ?_
    refine WL.call (oc_call (vs := [.agg #[.slice none 0 0, vI 0, .slice none 0 0, vI 0, vI 0, vF 0, vF 0, vF 0, vF 0, vF 0, vI 0, vF 0, vF 0, vF 0, vF 0, vF 0, vF 0, vF 0], vI 1]) (cap := []) rfl rfl rfl Try.call36 (c_markJet_nil (0 : Int) (0 : Int) (0 : Int) 0 0 0 0 0 (0 : Int) 0 0 0 0 0 0 0 1 (by omega) w28)) rfl rfl (ltb rfl) ?_
    rintro _ w29 ⟨rfl, m28⟩
    refine WL.det (op_assign rfl) rfl rfl rfl ?_
    refine WL.end ?_
    refine NE.code ?_
    refine CE.seq ?_
    refine CE.region ?_
    refine WL.det (op_move rfl) rfl rfl rfl ?_
    refine WL.det (op_move rfl) rfl rfl rfl ?_
    refine WL.call (oc_call (vs := [.slice none 0 0, vI 1]) (cap := []) rfl rfl rfl Try.call44 (c_mark32_nil 1 w29)) rfl rfl (ltb rfl) ?_
    rintro _ _ ⟨rfl, rfl⟩
    refine WL.det (op_assign rfl) rfl rfl rfl ?_
    refine WL.end ?_
    refine NE.code ?_
    refine CE.seq ?_
    refine CE.region ?_
    refine WL.det (op_assign rfl) rfl rfl rfl ?_
    refine WL.end ?_
    refine NE.code ?_
    refine CE.seq ?_
    refine CE.region ?_
    refine WL.det (op_loadA (i := 0) (cs := [.slice none 0 0, vI 0, .slice none 0 0, vI 0, vI 0, vF 0, vF 0, vF 0, vF 0, vF 0, vI 0, vF 0, vF 0, vF 0, vF 0, vF 0, vF 0, vF 0]) rfl Try.isAgg61 Try.sizeOf61 ((((((((((((((r17.ext m16).ext m17).ext md1).ext m18).ext m19).ext m20).ext m21).ext m22).ext m23).mod m24 (nC (lG (lL (lL r9.lt (lT (lT (lT m10.size m11.size) m12.size) m13.size)) lR)) (nC (lG (lL (lL r10.lt (lT (lT (lT m10.size m11.size) m12.size) m13.size)) lR)) nN))).mod m25 (nC (lG (lL (lL r14.lt m13.size) lR)) nN)).ext m26).ext m27).ext m28).rng rfl rfl rfl) rfl rfl rfl ?_
    refine WL.det (op_move rfl) rfl rfl rfl ?_
    refine WL.call (oc_call (vs := [.agg #[.slice none 0 0, vI 0, .slice none 0 0, vI 0, vI 0, vF 0, vF 0, vF 0, vF 0, vF 0, vI 0, vF 0, vF 0, vF 0, vF 0, vF 0, vF 0, vF 0], vI 1]) (cap := []) rfl rfl rfl Try.call37 (c_heldJet_nil (0 : Int) (0 : Int) (0 : Int) 0 0 0 0 0 (0 : Int) 0 0 0 0 0 0 0 1 (by omega) w29)) rfl rfl (ltb rfl) ?_
    rintro _ w30 ⟨rfl, m29⟩
    refine WL.det (op_assign rfl) rfl rfl rfl ?_
    refine WL.end ?_
    refine NE.code ?_
    refine CE.seq ?_
    refine CE.seq ?_
    refine CE.region ?_
    refine WL.det (op_move rfl) rfl rfl rfl ?_
    refine WL.det (op_lti rfl rfl) rfl rfl rfl ?_
    refine WL.end ?_
    refine NE.code ?_
    refine CE.cond_f rfl rfl ?_
    refine CE.skip' ?_
    refine NE.code ?_
    refine CE.seq ?_
    refine CE.region ?_
    refine WL.det (op_move rfl) rfl rfl rfl ?_
    refine WL.det (op_move rfl) rfl rfl rfl ?_
    refine WL.call (oc_call (vs := [.slice none 0 0, vI 1]) (cap := []) rfl rfl rfl Try.call45 (c_held32 0 0 none 0 0 [] 1 rfl (fun h => absurd h (Nat.lt_irrefl _)) (by omega) (by omega) (by first | assumption | exact marks_held _ _ _) w30 (Rng.nil _ _ _))) rfl rfl (ltb rfl) ?_
    rintro _ w31 ⟨rfl, m30⟩
    refine WL.det (op_assign rfl) rfl rfl rfl ?_
    refine WL.end ?_
    refine NE.code ?_
    refine CE.seq ?_
    refine CE.seq ?_
    refine CE.region ?_
    refine WL.det (op_move rfl) rfl rfl rfl ?_
    refine WL.det (op_lti_f rfl rfl (by omega)) rfl rfl rfl ?_
    refine WL.end ?_
    refine NE.code ?_
    refine CE.cond_f rfl rfl ?_
    refine CE.skip' ?_
    refine NE.code ?_
    refine CE.seq ?_
    refine CE.seq ?_
    refine CE.region ?_
    refine WL.det (op_move rfl) rfl rfl rfl ?_
    refine WL.det (op_move rfl) rfl rfl rfl ?_
    refine WL.det (op_nei rfl rfl) rfl rfl rfl ?_
    refine WL.end ?_
    refine NE.code ?_
    rcases Bool.eq_false_or_eq_true ((((1 + 0 : Nat) : Int) != (1 : Int))) with hb2 | hb2
    · have hp2 := hb2; try simp only [Bool.and_eq_true, Bool.or_eq_true, Bool.not_eq_true', Bool.not_eq_false', Bool.and_eq_false_iff, Bool.or_eq_false_iff, decide_eq_true_eq, decide_eq_false_iff_not, beq_iff_eq, bne_iff_ne, beq_eq_false_iff_ne, bne_eq_false_iff_eq, ne_eq, Bool.false_eq_true, not_false_eq_true, not_true_eq_false, vIn_t, vIn_f] at hp2
      refine CE.cond_t rfl hb2 ?_
      refine CE.seq ?_
      refine CE.region ?_
      refine WL.det (op_assign rfl) rfl rfl rfl ?_
      refine WL.end ?_
      refine NE.code ?_
      refine CE.ret' ?_
      refine XE.ret_then ?_
      refine XE.leave1 Try.results8 rfl ?_
      refine ⟨?_, (((((((((((((((((((((((((((((((Mod.refl [] w).nt m1).nt m3).nt m4).nt m5).nt m6).nt m7).then m8 ((aC (.inr (lT (lT (lT (lT (lT m1.size m3.size) m4.size) m5.size) m6.size) lR)) aN))).nt m9).nt m10).then m11 ((aC (.inr (lT (lT (lT (lT (lT (lT (lT (lT m1.size m3.size) m4.size) m5.size) m6.size) m7.size) m8.size) m9.size) lR)) aN))).nt m12).nt m13).nt m14).then m15 ((aC (.inr (lT (lT (lT (lT (lT (lT (lT (lT (lT (lT (lT (lT m1.size m3.size) m4.size) m5.size) m6.size) m7.size) m8.size) m9.size) m10.size) m11.size) m12.size) m13.size) lR)) aN))).nt m16).nt m17).nt md1).nt m18).nt m19).nt m20).nt m21).nt m22).nt m23).then m24 ((aC (.inr (lT (lT (lT (lT (lT (lT (lT m1.size m3.size) m4.size) m5.size) m6.size) m7.size) m8.size) ge5)) (aC (.inr (lT (lT (lT (lT (lT (lT (lT m1.size m3.size) m4.size) m5.size) m6.size) m7.size) m8.size) ge6)) aN)))).then m25 ((aC (.inr (lT (lT (lT (lT (lT (lT (lT (lT (lT (lT m1.size m3.size) m4.size) m5.size) m6.size) m7.size) m8.size) m9.size) m10.size) m11.size) ge7)) aN))).nt m26).nt m27).nt m28).nt m29).nt m30)⟩
      all_goals simp_all
    · have hp2 := hb2; try simp only [Bool.and_eq_true, Bool.or_eq_true, Bool.not_eq_true', Bool.not_eq_false', Bool.and_eq_false_iff, Bool.or_eq_false_iff, decide_eq_true_eq, decide_eq_false_iff_not, beq_iff_eq, bne_iff_ne, beq_eq_false_iff_ne, bne_eq_false_iff_eq, ne_eq, Bool.false_eq_true, not_false_eq_true, not_true_eq_false, vIn_t, vIn_f] at hp2
      refine CE.cond_f rfl hb2 ?_
      refine CE.skip' ?_
      refine NE.code ?_
      refine CE.seq ?_
      refine CE.region ?_
      refine WL.det (op_loadA (i := 0) (cs := [.slice ATr nTr cTr, vI Tj, .slice ABr nBr cBr, vI Bj, vI Lk, vF Lc0, vF Lc1, vF Lc2, vF Ls0, vF Ls1, vI Dk, vF Dc0, vF Dc1, vF Dc2, vF Ds0, vF Ds1, vF ne, vF fa]) rfl Try.isAgg58 Try.sizeOf58 (((((((((((((((((((((((((((((r1.ext m3).ext m4).ext m5).ext m6).ext m7).mod m8 (nC (lE (lL (lL r1.lt (lT (lT (lT m3.size m4.size) m5.size) m6.size)) lR)) nN)).ext m9).ext m10).mod m11 (nC (lE (lL (lL r1.lt (lT (lT (lT (lT (lT (lT m3.size m4.size) m5.size) m6.size) m7.size) m8.size) m9.size)) lR)) nN)).ext m12).ext m13).ext m14).mod m15 (nC (lE (lL (lL r1.lt (lT (lT (lT (lT (lT (lT (lT (lT (lT (lT m3.size m4.size) m5.size) m6.size) m7.size) m8.size) m9.size) m10.size) m11.size) m12.size) m13.size)) lR)) nN)).ext m16).ext m17).ext md1).ext m18).ext m19).ext m20).ext m21).ext m22).ext m23).mod m24 (nC (lE (lL (lL r1.lt (lT (lT (lT (lT (lT m3.size m4.size) m5.size) m6.size) m7.size) m8.size)) ge5)) (nC (lE (lL (lL r1.lt (lT (lT (lT (lT (lT m3.size m4.size) m5.size) m6.size) m7.size) m8.size)) ge6)) nN))).mod m25 (nC (lE (lL (lL r1.lt (lT (lT (lT (lT (lT (lT (lT (lT m3.size m4.size) m5.size) m6.size) m7.size) m8.size) m9.size) m10.size) m11.size)) ge7)) nN)).ext m26).ext m27).ext m28).ext m29).ext m30).rng rfl rfl rfl) rfl rfl rfl ?_
      refine WL.call (oc_call (vs := [.agg #[.slice ATr nTr cTr, vI Tj, .slice ABr nBr cBr, vI Bj, vI Lk, vF Lc0, vF Lc1, vF Lc2, vF Ls0, vF Ls1, vI Dk, vF Dc0, vF Dc1, vF Dc2, vF Ds0, vF Ds1, vF ne, vF fa]]) (cap := []) rfl rfl rfl Try.call32 (c_toJet nTr cTr ATr bTr oTr xTr Tj nBr cBr ABr bBr oBr xBr Bj Lk Lc0 Lc1 Lc2 Ls0 Ls1 Dk Dc0 Dc1 Dc2 Ds0 Ds1 ne fa lnTr hATr lnBr hABr (by omega) (by omega) w31 ((((((Rng.youngS rTr (Rng.youngS rTr ((((((((((Rng.youngS rTr ((((Rng.youngS rTr (((Rng.youngS rTr ((((((rTr.ext m1).ext m3).ext m4).ext m5).ext m6).ext m7) m8 (allge_cons (lT (lT (lT (lT (lT m1.size m3.size) m4.size) m5.size) m6.size) lR) allge_nil)).ext m9).ext m10) m11 (allge_cons (lT (lT (lT (lT (lT (lT (lT (lT m1.size m3.size) m4.size) m5.size) m6.size) m7.size) m8.size) m9.size) lR) allge_nil)).ext m12).ext m13).ext m14) m15 (allge_cons (lT (lT (lT (lT (lT (lT (lT (lT (lT (lT (lT (lT m1.size m3.size) m4.size) m5.size) m6.size) m7.size) m8.size) m9.size) m10.size) m11.size) m12.size) m13.size) lR) allge_nil)).ext m16).ext m17).ext md1).ext m18).ext m19).ext m20).ext m21).ext m22).ext m23) m24 (allge_cons (lT (lT (lT (lT (lT (lT (lT m1.size m3.size) m4.size) m5.size) m6.size) m7.size) m8.size) ge5) (allge_cons (lT (lT (lT (lT (lT (lT (lT m1.size m3.size) m4.size) m5.size) m6.size) m7.size) m8.size) ge6) allge_nil))) m25 (allge_cons (lT (lT (lT (lT (lT (lT (lT (lT (lT (lT m1.size m3.size) m4.size) m5.size) m6.size) m7.size) m8.size) m9.size) m10.size) m11.size) ge7) allge_nil)).ext m26).ext m27).ext m28).ext m29).ext m30) ((((((Rng.youngS rBr (Rng.youngS rBr ((((((((((Rng.youngS rBr ((((Rng.youngS rBr (((Rng.youngS rBr ((((((rBr.ext m1).ext m3).ext m4).ext m5).ext m6).ext m7) m8 (allge_cons (lT (lT (lT (lT (lT m1.size m3.size) m4.size) m5.size) m6.size) lR) allge_nil)).ext m9).ext m10) m11 (allge_cons (lT (lT (lT (lT (lT (lT (lT (lT m1.size m3.size) m4.size) m5.size) m6.size) m7.size) m8.size) m9.size) lR) allge_nil)).ext m12).ext m13).ext m14) m15 (allge_cons (lT (lT (lT (lT (lT (lT (lT (lT (lT (lT (lT (lT m1.size m3.size) m4.size) m5.size) m6.size) m7.size) m8.size) m9.size) m10.size) m11.size) m12.size) m13.size) lR) allge_nil)).ext m16).ext m17).ext md1).ext m18).ext m19).ext m20).ext m21).ext m22).ext m23) m24 (allge_cons (lT (lT (lT (lT (lT (lT (lT m1.size m3.size) m4.size) m5.size) m6.size) m7.size) m8.size) ge5) (allge_cons (lT (lT (lT (lT (lT (lT (lT m1.size m3.size) m4.size) m5.size) m6.size) m7.size) m8.size) ge6) allge_nil))) m25 (allge_cons (lT (lT (lT (lT (lT (lT (lT (lT (lT (lT m1.size m3.size) m4.size) m5.size) m6.size) m7.size) m8.size) m9.size) m10.size) m11.size) ge7) allge_nil)).ext m26).ext m27).ext m28).ext m29).ext m30))) rfl rfl (ltb rfl) ?_
      rintro _ w32 ⟨bTr'4, bBr'4, rfl, r24, r25, ge11, ge12, ne4, m31⟩
      refine WL.det (op_move rfl) rfl rfl rfl ?_
      refine WL.call (oc_call (vs := [.slice Al l cl]) (cap := []) rfl rfl rfl Try.call41 (c_to32 l cl Al bl ol ss ls hAl (by omega) w32 (((((((Rng.youngS rl (Rng.youngS rl ((((((((((Rng.youngS rl ((((Rng.youngS rl (((Rng.youngS rl ((((((rl.ext m1).ext m3).ext m4).ext m5).ext m6).ext m7) m8 (allge_cons (lT (lT (lT (lT (lT m1.size m3.size) m4.size) m5.size) m6.size) lR) allge_nil)).ext m9).ext m10) m11 (allge_cons (lT (lT (lT (lT (lT (lT (lT (lT m1.size m3.size) m4.size) m5.size) m6.size) m7.size) m8.size) m9.size) lR) allge_nil)).ext m12).ext m13).ext m14) m15 (allge_cons (lT (lT (lT (lT (lT (lT (lT (lT (lT (lT (lT (lT m1.size m3.size) m4.size) m5.size) m6.size) m7.size) m8.size) m9.size) m10.size) m11.size) m12.size) m13.size) lR) allge_nil)).ext m16).ext m17).ext md1).ext m18).ext m19).ext m20).ext m21).ext m22).ext m23) m24 (allge_cons (lT (lT (lT (lT (lT (lT (lT m1.size m3.size) m4.size) m5.size) m6.size) m7.size) m8.size) ge5) (allge_cons (lT (lT (lT (lT (lT (lT (lT m1.size m3.size) m4.size) m5.size) m6.size) m7.size) m8.size) ge6) allge_nil))) m25 (allge_cons (lT (lT (lT (lT (lT (lT (lT (lT (lT (lT m1.size m3.size) m4.size) m5.size) m6.size) m7.size) m8.size) m9.size) m10.size) m11.size) ge7) allge_nil)).ext m26).ext m27).ext m28).ext m29).ext m30).ext m31))) rfl rfl (ltb rfl) ?_
      rintro _ w33 ⟨b'4, rfl, r26, ge13, m32⟩
      refine WL.call (oc_call (vs := [.agg #[vS bTr'4 0 nTr nTr, vI Tj, vS bBr'4 0 nBr nBr, vI Bj, vI Lk, vF Lc0, vF Lc1, vF Lc2, vF Ls0, vF Ls1, vI Dk, vF Dc0, vF Dc1, vF Dc2, vF Ds0, vF Ds1, vF ne, vF fa], vS b'4 0 l l]) (cap := []) rfl rfl rfl Try.call42 (c_iPlayJet_bad nTr nTr bTr'4 xTr nBr nBr bBr'4 xBr Tj Bj Lk Lc0 Lc1 Lc2 Ls0 Ls1 Dk Dc0 Dc1 Dc2 Ds0 Ds1 ne fa l l (some ⟨b'4, 0, none⟩) b'4 0 ss lnTr lnBr (by omega) (by omega) (by first | assumption | exact W32.get (by assumption) _ | decide +kernel) (by first | assumption | exact W32.get (by assumption) _ | decide +kernel) (by first | assumption | exact W32.get (by assumption) _ | decide +kernel) (by first | assumption | exact W32.get (by assumption) _ | decide +kernel) ls (fun _ => rfl) (by first | assumption | exact W32.set (by assumption) (by first | assumption | exact wid_lt (by assumption)) | exact W32.zeros _ | exact W32.nil) (by omega) (by assumption) w33 (r24.ext m32).rng (r25.ext m32).rng r26.rng)) rfl rfl (ltb rfl) ?_
      rintro _ w34 ⟨rfl, m33⟩
      refine WL.det (op_move rfl) rfl rfl rfl ?_
      refine WL.det (op_extract rfl rfl) rfl rfl rfl ?_
      refine WL.det (op_extract rfl rfl) rfl rfl rfl ?_
      refine WL.det (op_extract rfl rfl) rfl rfl rfl ?_
      refine WL.op (op_alloc (cs := [.slice none 0 0, vI 0, .slice none 0 0, vI 0, vI 0, vF 0, vF 0, vF 0, vF 0, vF 0, vI 0, vF 0, vF 0, vF 0, vF 0, vF 0, vF 0, vF 0]) Try.zeroValue61 rfl) rfl rfl (ltb rfl) ?_
      rintro _ w35 ⟨rfl, r27, m34, z8⟩
      refine WL.op0 (op_store (i := 0) (cs := [.slice none 0 0, vI 0, .slice none 0 0, vI 0, vI 0, vF 0, vF 0, vF 0, vF 0, vF 0, vI 0, vF 0, vF 0, vF 0, vF 0, vF 0, vF 0, vF 0]) rfl rfl rfl Try.sizeOf61 rfl r27 rfl (lB rfl) rfl) rfl rfl ?_
      rintro _ w36 ⟨r28, m35, z9⟩
      have r29 : Row w36 w34.heap.size 0 [.slice none 0 0, vI 0, .slice none 0 0, vI 0, vI 0, vF 0, vF 0, vF 0, vF 0, vF 0, vI 0, vF 0, vF 0, vF 0, vF 0, vF 0, vF 0, vF 0] := Row.congr r28 rfl
      refine WL.det (op_assign rfl) rfl rfl rfl ?_
      refine WL.det (op_assign rfl) rfl rfl rfl ?_
      refine WL.end ?_
      refine NE.code ?_
      refine CE.seq ?_
      refine CE.seq ?_
      refine CE.region ?_
      refine WL.det (op_loadA (i := 0) (cs := [.slice none 0 0, vI 0, .slice none 0 0, vI 0, vI 0, vF 0, vF 0, vF 0, vF 0, vF 0, vI 0, vF 0, vF 0, vF 0, vF 0, vF 0, vF 0, vF 0]) rfl Try.isAgg61 Try.sizeOf61 r29.rng rfl rfl rfl) rfl rfl rfl ?_
      refine WL.det (op_loadA (i := 0) (cs := [.slice none 0 0, vI 0, .slice none 0 0, vI 0, vI 0, vF 0, vF 0, vF 0, vF 0, vF 0, vI 0, vF 0, vF 0, vF 0, vF 0, vF 0, vF 0, vF 0]) rfl Try.isAgg61 Try.sizeOf61 ((((((((((((((((((((((((((((r8.ext m9).ext m10).mod m11 (nC (lE (lL (lL r6.lt (lT m8.size m9.size)) lR)) nN)).ext m12).ext m13).ext m14).mod m15 (nC (lE (lL (lL r6.lt (lT (lT (lT (lT (lT m8.size m9.size) m10.size) m11.size) m12.size) m13.size)) lR)) nN)).ext m16).ext m17).ext md1).ext m18).ext m19).ext m20).ext m21).ext m22).ext m23).mod m24 (nC (lE (lL (lL r6.lt m8.size) ge5)) (nC (lE (lL (lL r6.lt m8.size) ge6)) nN))).mod m25 (nC (lE (lL (lL r6.lt (lT (lT (lT m8.size m9.size) m10.size) m11.size)) ge7)) nN)).ext m26).ext m27).ext m28).ext m29).ext m30).ext m31).ext m32).ext m33).ext m34).mod m35 (nC (lE (lL (lL r6.lt (lT (lT (lT (lT (lT (lT (lT (lT (lT (lT (lT (lT (lT (lT (lT (lT (lT (lT (lT (lT (lT (lT (lT (lT (lT (lT m8.size m9.size) m10.size) m11.size) m12.size) m13.size) m14.size) m15.size) m16.size) m17.size) md1.size) m18.size) m19.size) m20.size) m21.size) m22.size) m23.size) m24.size) m25.size) m26.size) m27.size) m28.size) m29.size) m30.size) m31.size) m32.size) m33.size)) lR)) nN)).rng rfl rfl rfl) rfl rfl rfl ?_
      refine WL.call (oc_call (vs := [.agg #[.slice none 0 0, vI 0, .slice none 0 0, vI 0, vI 0, vF 0, vF 0, vF 0, vF 0, vF 0, vI 0, vF 0, vF 0, vF 0, vF 0, vF 0, vF 0, vF 0], .agg #[.slice none 0 0, vI 0, .slice none 0 0, vI 0, vI 0, vF 0, vF 0, vF 0, vF 0, vF 0, vI 0, vF 0, vF 0, vF 0, vF 0, vF 0, vF 0, vF 0]]) (cap := []) rfl rfl rfl Try.call34 (c_eqJet 0 0 none 0 0 [] (0 : Int) 0 0 none 0 0 [] (0 : Int) (0 : Int) 0 0 0 0 0 0 0 0 0 0 (0 : Int) 0 0 0 0 0 0 0 0 0 0 0 0 0 0 0 none 0 0 0 none 0 0 0 0 0 0 0 0 0 0 0 0 0 0 rfl (fun h => absurd h (Nat.lt_irrefl _)) rfl (fun h => absurd h (Nat.lt_irrefl _)) (fun h => absurd h (Nat.lt_irrefl _)) (fun h => absurd h (Nat.lt_irrefl _)) rfl rfl rfl rfl rfl rfl rfl rfl rfl rfl rfl rfl rfl rfl rfl rfl rfl rfl rfl rfl rfl rfl rfl rfl (by omega) (by omega) w36 (Rng.nil _ _ _) (Rng.nil _ _ _) (Rng.nil _ _ _) (Rng.nil _ _ _))) rfl rfl (ltb rfl) ?_
      rintro _ w37 ⟨rfl, m36⟩
      refine WL.det (op_not rfl) rfl rfl rfl ?_
      refine WL.det (op_move rfl) rfl rfl rfl ?_
      refine WL.yes rfl rfl rfl (ltb rfl) rfl rfl ?_
      refine WL.det (op_move rfl) rfl rfl rfl ?_
      refine WL.yes rfl rfl rfl (ltb rfl) rfl rfl ?_
      refine WL.det (op_move rfl) rfl rfl rfl ?_
      refine WL.yes rfl rfl rfl (ltb rfl) rfl rfl ?_
      refine WL.call (oc_call (vs := [.slice none 0 0, vS e'1 0 0 0]) (cap := []) rfl rfl rfl Try.call43 (c_eq32_same 0 0 none 0 0 [] 0 (some ⟨e'1, 0, none⟩) e'1 0 rfl (fun h => absurd h (Nat.lt_irrefl _)) (fun _ => rfl) (by omega) w37 (Rng.nil _ _ _) (((((((((((((((((((((((((((((((r5.ext m7).mod m8 (nC (lE (lL r5.lt lR)) nN)).ext m9).ext m10).mod m11 (nC (lE (lL (lL r5.lt (lT (lT m7.size m8.size) m9.size)) lR)) nN)).ext m12).ext m13).ext m14).mod m15 (nC (lE (lL (lL r5.lt (lT (lT (lT (lT (lT (lT m7.size m8.size) m9.size) m10.size) m11.size) m12.size) m13.size)) lR)) nN)).ext m16).ext m17).ext md1).ext m18).ext m19).ext m20).ext m21).ext m22).ext m23).mod m24 (nC (lE (lL (lL r5.lt (lT m7.size m8.size)) ge5)) (nC (lE (lL (lL r5.lt (lT m7.size m8.size)) ge6)) nN))).mod m25 (nC (lE (lL (lL r5.lt (lT (lT (lT (lT m7.size m8.size) m9.size) m10.size) m11.size)) ge7)) nN)).ext m26).ext m27).ext m28).ext m29).ext m30).ext m31).ext m32).ext m33).ext m34).mod m35 (nC (lE (lL (lL r5.lt (lT (lT (lT (lT (lT (lT (lT (lT (lT (lT (lT (lT (lT (lT (lT (lT (lT (lT (lT (lT (lT (lT (lT (lT (lT (lT (lT m7.size m8.size) m9.size) m10.size) m11.size) m12.size) m13.size) m14.size) m15.size) m16.size) m17.size) md1.size) m18.size) m19.size) m20.size) m21.size) m22.size) m23.size) m24.size) m25.size) m26.size) m27.size) m28.size) m29.size) m30.size) m31.size) m32.size) m33.size)) lR)) nN)).ext m36).rng)) rfl rfl (ltb rfl) ?_
      rintro _ w38 ⟨rfl, m37⟩
      refine WL.yes rfl rfl rfl (ltb rfl) rfl rfl ?_
      refine WL.det (op_not rfl) rfl rfl rfl ?_
      refine WL.det (op_pick_f rfl rfl rfl) rfl rfl rfl ?_
      refine WL.det (op_move rfl) rfl rfl rfl ?_
      refine WL.yes rfl rfl rfl (ltb rfl) rfl rfl ?_
      refine WL.det (op_move rfl) rfl rfl rfl ?_
      refine WL.yes rfl rfl rfl (ltb rfl) rfl rfl ?_
      refine WL.det (op_move rfl) rfl rfl rfl ?_
      refine WL.yes rfl rfl rfl (ltb rfl) rfl rfl ?_
      refine WL.det (op_nei rfl rfl) rfl rfl rfl ?_
      refine WL.det (op_pick_f rfl rfl rfl) rfl rfl rfl ?_
      refine WL.end ?_
      refine NE.code ?_
      refine CE.cond_f rfl rfl ?_
      refine CE.skip' ?_
      refine NE.code ?_
      refine CE.seq ?_
      refine CE.region ?_
      refine WL.det (op_assign rfl) rfl rfl rfl ?_
      refine WL.end ?_
      refine NE.code ?_
      refine CE.seq ?_
      refine CE.region ?_
      refine WL.det (op_loadA (i := 0) (cs := [.slice none 0 0, vI 0, .slice none 0 0, vI 0, vI 0, vF 0, vF 0, vF 0, vF 0, vF 0, vI 0, vF 0, vF 0, vF 0, vF 0, vF 0, vF 0, vF 0]) rfl Try.isAgg61 Try.sizeOf61 (((((((((((((((((((((((r17.ext m16).ext m17).ext md1).ext m18).ext m19).ext m20).ext m21).ext m22).ext m23).mod m24 (nC (lG (lL (lL r9.lt (lT (lT (lT m10.size m11.size) m12.size) m13.size)) lR)) (nC (lG (lL (lL r10.lt (lT (lT (lT m10.size m11.size) m12.size) m13.size)) lR)) nN))).mod m25 (nC (lG (lL (lL r14.lt m13.size) lR)) nN)).ext m26).ext m27).ext m28).ext m29).ext m30).ext m31).ext m32).ext m33).ext m34).mod m35 (nC (lE (lL (lL r15.lt (lT (lT (lT (lT (lT (lT (lT (lT (lT (lT (lT (lT (lT (lT (lT (lT (lT (lT (lT m15.size m16.size) m17.size) md1.size) m18.size) m19.size) m20.size) m21.size) m22.size) m23.size) m24.size) m25.size) m26.size) m27.size) m28.size) m29.size) m30.size) m31.size) m32.size) m33.size)) lR)) nN)).ext m36).ext m37).rng rfl rfl rfl) rfl rfl rfl ?_
      refine WL.det (op_move rfl) rfl rfl rfl ?_
      refine WL.call (oc_call (vs := [.agg #[.slice none 0 0, vI 0, .slice none 0 0, vI 0, vI 0, vF 0, vF 0, vF 0, vF 0, vF 0, vI 0, vF 0, vF 0, vF 0, vF 0, vF 0, vF 0, vF 0], vI 1]) (cap := []) rfl rfl rfl Try.call37 (c_heldJet_nil (0 : Int) (0 : Int) (0 : Int) 0 0 0 0 0 (0 : Int) 0 0 0 0 0 0 0 1 (by omega) w38)) rfl rfl (ltb rfl) ?_
      rintro _ w39 ⟨rfl, m38⟩
      refine WL.det (op_assign rfl) rfl rfl rfl ?_
      refine WL.end ?_
      refine NE.code ?_
      refine CE.seq ?_
      refine CE.seq ?_
      refine CE.region ?_
      refine WL.det (op_move rfl) rfl rfl rfl ?_
      refine WL.det (op_lti rfl rfl) rfl rfl rfl ?_
      refine WL.end ?_
      refine NE.code ?_
      refine CE.cond_f rfl rfl ?_
      refine CE.skip' ?_
      refine NE.code ?_
      refine CE.seq ?_
      refine CE.region ?_
      refine WL.det (op_move rfl) rfl rfl rfl ?_
      refine WL.det (op_move rfl) rfl rfl rfl ?_
      refine WL.call (oc_call (vs := [.slice none 0 0, vI 1]) (cap := []) rfl rfl rfl Try.call45 (c_held32 0 0 none 0 0 [] 1 rfl (fun h => absurd h (Nat.lt_irrefl _)) (by omega) (by omega) (by first | assumption | exact marks_held _ _ _) w39 (Rng.nil _ _ _))) rfl rfl (ltb rfl) ?_
      rintro _ w40 ⟨rfl, m39⟩
      refine WL.det (op_assign rfl) rfl rfl rfl ?_
      refine WL.end ?_
      refine NE.code ?_
      refine CE.seq ?_
      refine CE.seq ?_
      refine CE.region ?_
      refine WL.det (op_move rfl) rfl rfl rfl ?_
      refine WL.det (op_lti_f rfl rfl (by omega)) rfl rfl rfl ?_
      refine WL.end ?_
      refine NE.code ?_
      refine CE.cond_f rfl rfl ?_
      refine CE.skip' ?_
      refine NE.code ?_
      refine CE.seq ?_
      refine CE.seq ?_
      refine CE.region ?_
      refine WL.det (op_move rfl) rfl rfl rfl ?_
      refine WL.det (op_move rfl) rfl rfl rfl ?_
      refine WL.det (op_nei rfl rfl) rfl rfl rfl ?_
      refine WL.end ?_
      refine NE.code ?_
      refine CE.cond_f rfl hb2 ?_
      refine CE.skip' ?_
      refine NE.code ?_
      refine CE.seq ?_
      refine CE.region ?_
      refine WL.det (op_assign rfl) rfl rfl rfl ?_
      refine WL.end ?_
      refine NE.code ?_
      refine CE.ret' ?_
      refine XE.leave1 Try.results8 rfl ?_
      refine ⟨rfl, ((((((((((((((((((((((((((((((((((((((((Mod.refl [] w).nt m1).nt m3).nt m4).nt m5).nt m6).nt m7).then m8 ((aC (.inr (lT (lT (lT (lT (lT m1.size m3.size) m4.size) m5.size) m6.size) lR)) aN))).nt m9).nt m10).then m11 ((aC (.inr (lT (lT (lT (lT (lT (lT (lT (lT m1.size m3.size) m4.size) m5.size) m6.size) m7.size) m8.size) m9.size) lR)) aN))).nt m12).nt m13).nt m14).then m15 ((aC (.inr (lT (lT (lT (lT (lT (lT (lT (lT (lT (lT (lT (lT m1.size m3.size) m4.size) m5.size) m6.size) m7.size) m8.size) m9.size) m10.size) m11.size) m12.size) m13.size) lR)) aN))).nt m16).nt m17).nt md1).nt m18).nt m19).nt m20).nt m21).nt m22).nt m23).then m24 ((aC (.inr (lT (lT (lT (lT (lT (lT (lT m1.size m3.size) m4.size) m5.size) m6.size) m7.size) m8.size) ge5)) (aC (.inr (lT (lT (lT (lT (lT (lT (lT m1.size m3.size) m4.size) m5.size) m6.size) m7.size) m8.size) ge6)) aN)))).then m25 ((aC (.inr (lT (lT (lT (lT (lT (lT (lT (lT (lT (lT m1.size m3.size) m4.size) m5.size) m6.size) m7.size) m8.size) m9.size) m10.size) m11.size) ge7)) aN))).nt m26).nt m27).nt m28).nt m29).nt m30).nt m31).nt m32).nt m33).nt m34).then m35 ((aC (.inr (lT (lT (lT (lT (lT (lT (lT (lT (lT (lT (lT (lT (lT (lT (lT (lT (lT (lT (lT (lT (lT (lT (lT (lT (lT (lT (lT (lT (lT (lT (lT (lT (lT m1.size m3.size) m4.size) m5.size) m6.size) m7.size) m8.size) m9.size) m10.size) m11.size) m12.size) m13.size) m14.size) m15.size) m16.size) m17.size) md1.size) m18.size) m19.size) m20.size) m21.size) m22.size) m23.size) m24.size) m25.size) m26.size) m27.size) m28.size) m29.size) m30.size) m31.size) m32.size) m33.size) lR)) aN))).nt m36).nt m37).nt m38).nt m39)⟩

set_option maxRecDepth 100000 in
set_option maxHeartbeats 2000000 in
theorem law_playjet_over (nTr : Nat) (cTr : Nat) (ATr : Option Addr) (bTr : Nat) (oTr : Nat) (xTr : List Nat) (Tj : Int) (nBr : Nat) (cBr : Nat) (ABr : Option Addr) (bBr : Nat) (oBr : Nat) (xBr : List Nat) (Bj : Int) (Lk : Int) (Lc0 : Nat) (Lc1 : Nat) (Lc2 : Nat) (Ls0 : Nat) (Ls1 : Nat) (Dk : Int) (Dc0 : Nat) (Dc1 : Nat) (Dc2 : Nat) (Ds0 : Nat) (Ds1 : Nat) (ne : Nat) (fa : Nat) (l : Nat) (cl : Nat) (Al : Option Addr) (bl : Nat) (ol : Nat) (ss : List Nat) (lnTr : xTr.length = nTr) (hATr : 0 < nTr → ATr = some ⟨bTr, oTr, none⟩) (lnBr : xBr.length = nBr) (hABr : 0 < nBr → ABr = some ⟨bBr, oBr, none⟩) (wTr : W32 xTr) (wBr : W32 xBr) (hl2 : 1048576 < l) (ls : ss.length = l) (hAl : 0 < l → Al = some ⟨bl, ol, none⟩) (wl : W32 ss) (w : World) (rTr : Rng w bTr oTr (fl xTr)) (rBr : Rng w bBr oBr (fl xBr)) (rl : Rng w bl ol (fl ss)) : Cl Try.prog 8 #[.agg #[.slice ATr nTr cTr, vI Tj, .slice ABr nBr cBr, vI Bj, vI Lk, vF Lc0, vF Lc1, vF Lc2, vF Ls0, vF Ls1, vI Dk, vF Dc0, vF Dc1, vF Dc2, vF Ds0, vF Ds1, vF ne, vF fa], .slice Al l cl] w fun v w' => v = .bool true ∧ Mod [] w w' := by
  refine Cl.of Try.func8 Try.ntmps8 rfl rfl (ρ := [(0, .agg #[.slice ATr nTr cTr, vI Tj, .slice ABr nBr cBr, vI Bj, vI Lk, vF Lc0, vF Lc1, vF Lc2, vF Ls0, vF Ls1, vI Dk, vF Dc0, vF Dc1, vF Dc2, vF Ds0, vF Ds1, vF ne, vF fa]), (1, .slice Al l cl)]) rfl ?_
  refine CE.seq ?_
  refine CE.region ?_
  refine WL.op (op_box (cs := [.slice ATr nTr cTr, vI Tj, .slice ABr nBr cBr, vI Bj, vI Lk, vF Lc0, vF Lc1, vF Lc2, vF Ls0, vF Ls1, vI Dk, vF Dc0, vF Dc1, vF Dc2, vF Ds0, vF Ds1, vF ne, vF fa]) rfl rfl) rfl rfl (ltb rfl) ?_
  rintro _ w1 ⟨rfl, r1, m1, z1⟩
  refine WL.det (op_assign rfl) rfl rfl rfl ?_
  refine WL.end ?_
  refine NE.code ?_
  refine CE.seq ?_
  refine CE.seq ?_
  refine CE.region ?_
  refine WL.det (op_move rfl) rfl rfl rfl ?_
  refine WL.det (op_len rfl Try.runUnderlying22) rfl rfl rfl ?_
  refine WL.det (op_gti rfl rfl) rfl rfl rfl ?_
  refine WL.end ?_
  refine NE.code ?_
  refine CE.cond_t rfl (decide_eq_true (by omega)) ?_
  refine CE.seq ?_
  refine CE.region ?_
  refine WL.det (op_assign rfl) rfl rfl rfl ?_
  refine WL.end ?_
  refine NE.code ?_
  refine CE.ret' ?_
  refine XE.ret_then ?_
  refine XE.leave1 Try.results8 rfl ?_
  refine ⟨rfl, ((Mod.refl [] w).nt m1)⟩

end Go.Proofs.Ytkgdhlhmckdcmaa
