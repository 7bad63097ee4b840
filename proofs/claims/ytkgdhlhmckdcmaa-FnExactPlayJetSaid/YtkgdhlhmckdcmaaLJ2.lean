/- The law on playing a jet, walked. -/
import Derived.Test.YtkgdhlhmckdcmaaH4
import Derived.Test.YtkgdhlhmckdcmaaE8
set_option linter.unusedVariables false
set_option linter.unusedSimpArgs false
namespace Go.Proofs.Ytkgdhlhmckdcmaa

set_option maxRecDepth 100000 in
set_option maxHeartbeats 2000000 in
theorem law_playjet (nTr : Nat) (cTr : Nat) (ATr : Option Addr) (bTr : Nat) (oTr : Nat) (xTr : List Nat) (nBr : Nat) (cBr : Nat) (ABr : Option Addr) (bBr : Nat) (oBr : Nat) (xBr : List Nat) (Lk : Int) (Lc0 : Nat) (Lc1 : Nat) (Lc2 : Nat) (Ls0 : Nat) (Ls1 : Nat) (Dk : Int) (Dc0 : Nat) (Dc1 : Nat) (Dc2 : Nat) (Ds0 : Nat) (Ds1 : Nat) (ne : Nat) (fa : Nat) (i : Nat) (h : Nat) (l : Nat) (cl : Nat) (Al : Option Addr) (bl : Nat) (ol : Nat) (ss : List Nat) (z : JetSt) (ou : List Nat) (lnTr : xTr.length = nTr) (hATr : 0 < nTr → ATr = some ⟨bTr, oTr, none⟩) (lnBr : xBr.length = nBr) (hABr : 0 < nBr → ABr = some ⟨bBr, oBr, none⟩) (wTr : W32 xTr) (wBr : W32 xBr) (hi : i < nTr) (hh : h < nBr) (hn : nTr ≤ 1024) (hm : nBr ≤ 1024) (lLs0 : Ls0 < wid .f32) (lLs1 : Ls1 < wid .f32) (lDs0 : Ds0 < wid .f32) (lDs1 : Ds1 < wid .f32) (hv : vJet nTr ((i : Nat) : Int) nBr ((h : Nat) : Int) xTr xBr Lk Lc0 Lc1 Lc2 Ls0 Ls1 Dk Dc0 Dc1 Dc2 Ds0 Ds1 ne fa = true) (hll : l ≤ 4096) (ls : ss.length = l) (hAl : 0 < l → Al = some ⟨bl, ol, none⟩) (wl : W32 ss) (hze : z = (jetAt nTr nBr Lk Lc0 Lc1 Lc2 Dk Dc0 Dc1 Dc2 ne fa xTr i xBr h Ls0 Ls1 Ds0 Ds1 (fun j => ss.getD j 0) l)) (hoe : ou = (outs (jetOut nTr nBr Lk Lc0 Lc1 Lc2 Dk Dc0 Dc1 Dc2 ne fa xTr i xBr h Ls0 Ls1 Ds0 Ds1 (fun j => ss.getD j 0)) l)) (w : World) (rTr : Rng w bTr oTr (fl xTr)) (rBr : Rng w bBr oBr (fl xBr)) (rl : Rng w bl ol (fl ss)) : Cl Try.prog 8 #[.agg #[.slice ATr nTr cTr, vI ((i : Nat) : Int), .slice ABr nBr cBr, vI ((h : Nat) : Int), vI Lk, vF Lc0, vF Lc1, vF Lc2, vF Ls0, vF Ls1, vI Dk, vF Dc0, vF Dc1, vF Dc2, vF Ds0, vF Ds1, vF ne, vF fa], .slice Al l cl] w fun v w' => v = .bool true ∧ Mod [] w w' := by
  refine Cl.of Try.func8 Try.ntmps8 rfl rfl (ρ := [(0, .agg #[.slice ATr nTr cTr, vI ((i : Nat) : Int), .slice ABr nBr cBr, vI ((h : Nat) : Int), vI Lk, vF Lc0, vF Lc1, vF Lc2, vF Ls0, vF Ls1, vI Dk, vF Dc0, vF Dc1, vF Dc2, vF Ds0, vF Ds1, vF ne, vF fa]), (1, .slice Al l cl)]) rfl ?_
  refine CE.seq ?_
  refine CE.region ?_
  refine WL.op (op_box (cs := [.slice ATr nTr cTr, vI ((i : Nat) : Int), .slice ABr nBr cBr, vI ((h : Nat) : Int), vI Lk, vF Lc0, vF Lc1, vF Lc2, vF Ls0, vF Ls1, vI Dk, vF Dc0, vF Dc1, vF Dc2, vF Ds0, vF Ds1, vF ne, vF fa]) rfl rfl) rfl rfl (ltb rfl) ?_
  rintro _ w1 ⟨rfl, r1, m1, z1⟩
  refine WL.det (op_assign rfl) rfl rfl rfl ?_
  refine WL.end ?_
  refine NE.code ?_
  refine CE.seq ?_
  refine CE.seq ?_
  refine CE.region ?_
  refine WL.det (op_move rfl) rfl rfl rfl ?_
  refine WL.det (op_len rfl Try.runUnderlying22) rfl rfl rfl ?_
  refine WL.det (op_gti rfl rfl) rfl rfl rfl ?_
  refine WL.end ?_
  refine NE.code ?_
  refine CE.cond_f rfl (decide_eq_false (by omega)) ?_
  refine CE.skip' ?_
  refine NE.code ?_
  refine CE.seq ?_
  refine CE.region ?_
  refine WL.det (op_assign rfl) rfl rfl rfl ?_
  refine WL.end ?_
  refine NE.code ?_
  refine CE.seq ?_
  refine CE.region ?_
  refine WL.det (op_loadA (i := 0) (cs := [.slice ATr nTr cTr, vI ((i : Nat) : Int), .slice ABr nBr cBr, vI ((h : Nat) : Int), vI Lk, vF Lc0, vF Lc1, vF Lc2, vF Ls0, vF Ls1, vI Dk, vF Dc0, vF Dc1, vF Dc2, vF Ds0, vF Ds1, vF ne, vF fa]) rfl Try.isAgg58 Try.sizeOf58 r1.rng rfl rfl rfl) rfl rfl rfl ?_
  refine WL.det (op_move rfl) rfl rfl rfl ?_
  refine WL.call (oc_call (vs := [.agg #[.slice ATr nTr cTr, vI ((i : Nat) : Int), .slice ABr nBr cBr, vI ((h : Nat) : Int), vI Lk, vF Lc0, vF Lc1, vF Lc2, vF Ls0, vF Ls1, vI Dk, vF Dc0, vF Dc1, vF Dc2, vF Ds0, vF Ds1, vF ne, vF fa], vI 1048576]) (cap := []) rfl rfl rfl Try.call30 (c_szJet 1048576 nTr cTr ATr ((i : Nat) : Int) nBr cBr ABr ((h : Nat) : Int) Lk Lc0 Lc1 Lc2 Ls0 Ls1 Dk Dc0 Dc1 Dc2 Ds0 Ds1 ne fa (by omega) (by omega) w1)) rfl rfl (ltb rfl) ?_
  rintro _ w2 ⟨rfl, m2⟩
  refine WL.det (op_assign rfl) rfl rfl rfl ?_
  refine WL.end ?_
  refine NE.code ?_
  refine CE.seq ?_
  refine CE.seq ?_
  refine CE.region ?_
  refine WL.det (op_move rfl) rfl rfl rfl ?_
  refine WL.det (op_lti_f rfl rfl (by omega)) rfl rfl rfl ?_
  refine WL.end ?_
  refine NE.code ?_
  refine CE.cond_f rfl rfl ?_
  refine CE.skip' ?_
  refine NE.code ?_
  refine CE.seq ?_
  refine CE.region ?_
  refine WL.det (op_loadA (i := 0) (cs := [.slice ATr nTr cTr, vI ((i : Nat) : Int), .slice ABr nBr cBr, vI ((h : Nat) : Int), vI Lk, vF Lc0, vF Lc1, vF Lc2, vF Ls0, vF Ls1, vI Dk, vF Dc0, vF Dc1, vF Dc2, vF Ds0, vF Ds1, vF ne, vF fa]) rfl Try.isAgg58 Try.sizeOf58 (r1.ext m2).rng rfl rfl rfl) rfl rfl rfl ?_
  refine WL.call (oc_call (vs := [.agg #[.slice ATr nTr cTr, vI ((i : Nat) : Int), .slice ABr nBr cBr, vI ((h : Nat) : Int), vI Lk, vF Lc0, vF Lc1, vF Lc2, vF Ls0, vF Ls1, vI Dk, vF Dc0, vF Dc1, vF Dc2, vF Ds0, vF Ds1, vF ne, vF fa]]) (cap := []) rfl rfl rfl Try.call32 (c_toJet nTr cTr ATr bTr oTr xTr ((i : Nat) : Int) nBr cBr ABr bBr oBr xBr ((h : Nat) : Int) Lk Lc0 Lc1 Lc2 Ls0 Ls1 Dk Dc0 Dc1 Dc2 Ds0 Ds1 ne fa lnTr hATr lnBr hABr (by omega) (by omega) w2 ((rTr.ext m1).ext m2) ((rBr.ext m1).ext m2))) rfl rfl (ltb rfl) ?_
  rintro _ w3 ⟨bTr'1, bBr'1, rfl, r2, r3, ge1, ge2, ne1, m3⟩
  refine WL.det (op_move rfl) rfl rfl rfl ?_
  refine WL.call (oc_call (vs := [.slice Al l cl]) (cap := []) rfl rfl rfl Try.call41 (c_to32 l cl Al bl ol ss ls hAl (by omega) w3 (((rl.ext m1).ext m2).ext m3))) rfl rfl (ltb rfl) ?_
  rintro _ w4 ⟨b'1, rfl, r4, ge3, m4⟩
  refine WL.call (oc_call (vs := [.agg #[vS bTr'1 0 nTr nTr, vI ((i : Nat) : Int), vS bBr'1 0 nBr nBr, vI ((h : Nat) : Int), vI Lk, vF Lc0, vF Lc1, vF Lc2, vF Ls0, vF Ls1, vI Dk, vF Dc0, vF Dc1, vF Dc2, vF Ds0, vF Ds1, vF ne, vF fa], vS b'1 0 l l]) (cap := []) rfl rfl rfl Try.call40 (c_sPlayJet nTr nTr bTr'1 xTr nBr nBr bBr'1 xBr i h Lk Lc0 Lc1 Lc2 Ls0 Ls1 Dk Dc0 Dc1 Dc2 Ds0 Ds1 ne fa l l (some ⟨b'1, 0, none⟩) b'1 0 ss z ou lnTr lnBr (by omega) (by omega) (by omega) (by omega) (by first | assumption | exact W32.set (by assumption) (by first | assumption | exact wid_lt (by assumption)) | exact W32.zeros _ | exact W32.nil) (by first | assumption | exact W32.set (by assumption) (by first | assumption | exact wid_lt (by assumption)) | exact W32.zeros _ | exact W32.nil) (by first | assumption | exact W32.get (by assumption) _ | decide +kernel) (by first | assumption | exact W32.get (by assumption) _ | decide +kernel) (by first | assumption | exact W32.get (by assumption) _ | decide +kernel) (by first | assumption | exact W32.get (by assumption) _ | decide +kernel) ls (fun _ => rfl) (by first | assumption | exact W32.set (by assumption) (by first | assumption | exact wid_lt (by assumption)) | exact W32.zeros _ | exact W32.nil) (by assumption) (by assumption) (by omega) (by assumption) w4 (r2.ext m4).rng (r3.ext m4).rng r4.rng)) rfl rfl (ltb rfl) ?_
  rintro _ w5 ⟨b'2, c'1, d'1, c2'1, e'1, c3'1, A'1, rfl, h1, h2, h3, h4, r5, r6, r7, ge4, ge5, ge6, ne2, ne3, ne4, m5⟩
  refine WL.det (op_move rfl) rfl rfl rfl ?_
  refine WL.det (op_extract rfl rfl) rfl rfl rfl ?_
  refine WL.det (op_extract rfl rfl) rfl rfl rfl ?_
  refine WL.det (op_extract rfl rfl) rfl rfl rfl ?_
  refine WL.op (op_alloc (cs := [.slice none 0 0, vI 0, .slice none 0 0, vI 0, vI 0, vF 0, vF 0, vF 0, vF 0, vF 0, vI 0, vF 0, vF 0, vF 0, vF 0, vF 0, vF 0, vF 0]) Try.zeroValue61 rfl) rfl rfl (ltb rfl) ?_
  rintro _ w6 ⟨rfl, r8, m6, z2⟩
  refine WL.op0 (op_store (i := 0) (cs := [vS b'2 0 nTr c'1, vI ((z.i : Nat) : Int), vS d'1 0 nBr c2'1, vI ((z.h : Nat) : Int), vI Lk, vF Lc0, vF Lc1, vF Lc2, vF z.s0, vF z.s1, vI Dk, vF Dc0, vF Dc1, vF Dc2, vF z.t0, vF z.t1, vF ne, vF fa]) rfl rfl rfl Try.sizeOf61 rfl r8 rfl (lB rfl) rfl) rfl rfl ?_
  rintro _ w7 ⟨r9, m7, z3⟩
  have r10 : Row w7 w5.heap.size 0 [vS b'2 0 nTr c'1, vI ((z.i : Nat) : Int), vS d'1 0 nBr c2'1, vI ((z.h : Nat) : Int), vI Lk, vF Lc0, vF Lc1, vF Lc2, vF z.s0, vF z.s1, vI Dk, vF Dc0, vF Dc1, vF Dc2, vF z.t0, vF z.t1, vF ne, vF fa] := Row.congr r9 rfl
  refine WL.det (op_assign rfl) rfl rfl rfl ?_
  refine WL.det (op_assign rfl) rfl rfl rfl ?_
  refine WL.end ?_
  refine NE.code ?_
  refine CE.seq ?_
  refine CE.region ?_
  refine WL.det (op_loadA (i := 0) (cs := [.slice ATr nTr cTr, vI ((i : Nat) : Int), .slice ABr nBr cBr, vI ((h : Nat) : Int), vI Lk, vF Lc0, vF Lc1, vF Lc2, vF Ls0, vF Ls1, vI Dk, vF Dc0, vF Dc1, vF Dc2, vF Ds0, vF Ds1, vF ne, vF fa]) rfl Try.isAgg58 Try.sizeOf58 ((((((r1.ext m2).ext m3).ext m4).ext m5).ext m6).mod m7 (nC (lE (lL (lL r1.lt (lT (lT (lT m2.size m3.size) m4.size) m5.size)) lR)) nN)).rng rfl rfl rfl) rfl rfl rfl ?_
  refine WL.call (oc_call (vs := [.agg #[.slice ATr nTr cTr, vI ((i : Nat) : Int), .slice ABr nBr cBr, vI ((h : Nat) : Int), vI Lk, vF Lc0, vF Lc1, vF Lc2, vF Ls0, vF Ls1, vI Dk, vF Dc0, vF Dc1, vF Dc2, vF Ds0, vF Ds1, vF ne, vF fa]]) (cap := []) rfl rfl rfl Try.call32 (c_toJet nTr cTr ATr bTr oTr xTr ((i : Nat) : Int) nBr cBr ABr bBr oBr xBr ((h : Nat) : Int) Lk Lc0 Lc1 Lc2 Ls0 Ls1 Dk Dc0 Dc1 Dc2 Ds0 Ds1 ne fa lnTr hATr lnBr hABr (by omega) (by omega) w7 (Rng.youngS rTr ((((((rTr.ext m1).ext m2).ext m3).ext m4).ext m5).ext m6) m7 (allge_cons (lT (lT (lT (lT (lT m1.size m2.size) m3.size) m4.size) m5.size) lR) allge_nil)) (Rng.youngS rBr ((((((rBr.ext m1).ext m2).ext m3).ext m4).ext m5).ext m6) m7 (allge_cons (lT (lT (lT (lT (lT m1.size m2.size) m3.size) m4.size) m5.size) lR) allge_nil)))) rfl rfl (ltb rfl) ?_
  rintro _ w8 ⟨bTr'2, bBr'2, rfl, r11, r12, ge7, ge8, ne5, m8⟩
  refine WL.op (op_alloc (cs := [.slice none 0 0, vI 0, .slice none 0 0, vI 0, vI 0, vF 0, vF 0, vF 0, vF 0, vF 0, vI 0, vF 0, vF 0, vF 0, vF 0, vF 0, vF 0, vF 0]) Try.zeroValue61 rfl) rfl rfl (ltb rfl) ?_
  rintro _ w9 ⟨rfl, r13, m9, z4⟩
  refine WL.op0 (op_store (i := 0) (cs := [vS bTr'2 0 nTr nTr, vI ((i : Nat) : Int), vS bBr'2 0 nBr nBr, vI ((h : Nat) : Int), vI Lk, vF Lc0, vF Lc1, vF Lc2, vF Ls0, vF Ls1, vI Dk, vF Dc0, vF Dc1, vF Dc2, vF Ds0, vF Ds1, vF ne, vF fa]) rfl rfl rfl Try.sizeOf61 rfl r13 rfl (lB rfl) rfl) rfl rfl ?_
  rintro _ w10 ⟨r14, m10, z5⟩
  have r15 : Row w10 w8.heap.size 0 [vS bTr'2 0 nTr nTr, vI ((i : Nat) : Int), vS bBr'2 0 nBr nBr, vI ((h : Nat) : Int), vI Lk, vF Lc0, vF Lc1, vF Lc2, vF Ls0, vF Ls1, vI Dk, vF Dc0, vF Dc1, vF Dc2, vF Ds0, vF Ds1, vF ne, vF fa] := Row.congr r14 rfl
  refine WL.end ?_
  refine NE.code ?_
  refine CE.seq ?_
  refine CE.region ?_
  refine WL.det (op_move rfl) rfl rfl rfl ?_
  refine WL.call (oc_call (vs := [.slice Al l cl]) (cap := []) rfl rfl rfl Try.call41 (c_to32 l cl Al bl ol ss ls hAl (by omega) w10 (Rng.youngS rl (((Rng.youngS rl ((((((rl.ext m1).ext m2).ext m3).ext m4).ext m5).ext m6) m7 (allge_cons (lT (lT (lT (lT (lT m1.size m2.size) m3.size) m4.size) m5.size) lR) allge_nil)).ext m8).ext m9) m10 (allge_cons (lT (lT (lT (lT (lT (lT (lT (lT m1.size m2.size) m3.size) m4.size) m5.size) m6.size) m7.size) m8.size) lR) allge_nil)))) rfl rfl (ltb rfl) ?_
  rintro _ w11 ⟨b'3, rfl, r16, ge9, m11⟩
  refine WL.det (op_assign rfl) rfl rfl rfl ?_
  refine WL.end ?_
  refine NE.code ?_
  refine CE.seq ?_
  refine CE.region ?_
  refine WL.det (op_loadA (i := 0) (cs := [vS bTr'2 0 nTr nTr, vI ((i : Nat) : Int), vS bBr'2 0 nBr nBr, vI ((h : Nat) : Int), vI Lk, vF Lc0, vF Lc1, vF Lc2, vF Ls0, vF Ls1, vI Dk, vF Dc0, vF Dc1, vF Dc2, vF Ds0, vF Ds1, vF ne, vF fa]) rfl Try.isAgg61 Try.sizeOf61 (r15.ext m11).rng rfl rfl rfl) rfl rfl rfl ?_
  refine WL.det (op_move rfl) rfl rfl rfl ?_
  refine WL.call (oc_call (vs := [.agg #[vS bTr'2 0 nTr nTr, vI ((i : Nat) : Int), vS bBr'2 0 nBr nBr, vI ((h : Nat) : Int), vI Lk, vF Lc0, vF Lc1, vF Lc2, vF Ls0, vF Ls1, vI Dk, vF Dc0, vF Dc1, vF Dc2, vF Ds0, vF Ds1, vF ne, vF fa], vS b'3 0 l l]) (cap := []) rfl rfl rfl Try.call42 (c_iPlayJet nTr nTr bTr'2 xTr nBr nBr bBr'2 xBr i h Lk Lc0 Lc1 Lc2 Ls0 Ls1 Dk Dc0 Dc1 Dc2 Ds0 Ds1 ne fa l l (some ⟨b'3, 0, none⟩) b'3 0 ss z ou lnTr lnBr (by omega) (by omega) (by omega) (by omega) (by first | assumption | exact W32.set (by assumption) (by first | assumption | exact wid_lt (by assumption)) | exact W32.zeros _ | exact W32.nil) (by first | assumption | exact W32.set (by assumption) (by first | assumption | exact wid_lt (by assumption)) | exact W32.zeros _ | exact W32.nil) (by first | assumption | exact W32.get (by assumption) _ | decide +kernel) (by first | assumption | exact W32.get (by assumption) _ | decide +kernel) (by first | assumption | exact W32.get (by assumption) _ | decide +kernel) (by first | assumption | exact W32.get (by assumption) _ | decide +kernel) ls (fun _ => rfl) (by first | assumption | exact W32.set (by assumption) (by first | assumption | exact wid_lt (by assumption)) | exact W32.zeros _ | exact W32.nil) (by assumption) (by assumption) (by omega) (by assumption) w11 (((r11.ext m9).mod m10 (nC (lE (lL r11.lt lR)) nN)).ext m11).rng (((r12.ext m9).mod m10 (nC (lE (lL r12.lt lR)) nN)).ext m11).rng r16.rng)) rfl rfl (ltb rfl) ?_
  rintro _ w12 ⟨b'4, c'2, d'2, c2'2, e'2, c3'2, A'2, rfl, h5, h6, h7, h8, r17, r18, r19, ge10, ge11, ge12, ne6, ne7, ne8, m12⟩
  refine WL.det (op_move rfl) rfl rfl rfl ?_
  refine WL.det (op_extract rfl rfl) rfl rfl rfl ?_
  refine WL.det (op_extract rfl rfl) rfl rfl rfl ?_
  refine WL.det (op_extract rfl rfl) rfl rfl rfl ?_
  refine WL.op (op_alloc (cs := [.slice none 0 0, vI 0, .slice none 0 0, vI 0, vI 0, vF 0, vF 0, vF 0, vF 0, vF 0, vI 0, vF 0, vF 0, vF 0, vF 0, vF 0, vF 0, vF 0]) Try.zeroValue61 rfl) rfl rfl (ltb rfl) ?_
  rintro _ w13 ⟨rfl, r20, m13, z6⟩
  refine WL.op0 (op_store (i := 0) (cs := [vS b'4 0 nTr c'2, vI ((z.i : Nat) : Int), vS d'2 0 nBr c2'2, vI ((z.h : Nat) : Int), vI Lk, vF Lc0, vF Lc1, vF Lc2, vF z.s0, vF z.s1, vI Dk, vF Dc0, vF Dc1, vF Dc2, vF z.t0, vF z.t1, vF ne, vF fa]) rfl rfl rfl Try.sizeOf61 rfl r20 rfl (lB rfl) rfl) rfl rfl ?_
  rintro _ w14 ⟨r21, m14, z7⟩
  have r22 : Row w14 w12.heap.size 0 [vS b'4 0 nTr c'2, vI ((z.i : Nat) : Int), vS d'2 0 nBr c2'2, vI ((z.h : Nat) : Int), vI Lk, vF Lc0, vF Lc1, vF Lc2, vF z.s0, vF z.s1, vI Dk, vF Dc0, vF Dc1, vF Dc2, vF z.t0, vF z.t1, vF ne, vF fa] := Row.congr r21 rfl
  refine WL.det (op_assign rfl) rfl rfl rfl ?_
  refine WL.det (op_assign rfl) rfl rfl rfl ?_
  refine WL.end ?_
  refine NE.code ?_
  refine CE.seq ?_
  refine CE.seq ?_
  refine CE.region ?_
  refine WL.det (op_loadA (i := 0) (cs := [vS b'4 0 nTr c'2, vI ((z.i : Nat) : Int), vS d'2 0 nBr c2'2, vI ((z.h : Nat) : Int), vI Lk, vF Lc0, vF Lc1, vF Lc2, vF z.s0, vF z.s1, vI Dk, vF Dc0, vF Dc1, vF Dc2, vF z.t0, vF z.t1, vF ne, vF fa]) rfl Try.isAgg61 Try.sizeOf61 r22.rng rfl rfl rfl) rfl rfl rfl ?_
  refine WL.det (op_loadA (i := 0) (cs := [vS b'2 0 nTr c'1, vI ((z.i : Nat) : Int), vS d'1 0 nBr c2'1, vI ((z.h : Nat) : Int), vI Lk, vF Lc0, vF Lc1, vF Lc2, vF z.s0, vF z.s1, vI Dk, vF Dc0, vF Dc1, vF Dc2, vF z.t0, vF z.t1, vF ne, vF fa]) rfl Try.isAgg61 Try.sizeOf61 (((((((r10.ext m8).ext m9).mod m10 (nC (lE (lL (lL r8.lt (lT m7.size m8.size)) lR)) nN)).ext m11).ext m12).ext m13).mod m14 (nC (lE (lL (lL r8.lt (lT (lT (lT (lT (lT m7.size m8.size) m9.size) m10.size) m11.size) m12.size)) lR)) nN)).rng rfl rfl rfl) rfl rfl rfl ?_
  refine WL.call (oc_call (vs := [.agg #[vS b'4 0 nTr c'2, vI ((z.i : Nat) : Int), vS d'2 0 nBr c2'2, vI ((z.h : Nat) : Int), vI Lk, vF Lc0, vF Lc1, vF Lc2, vF z.s0, vF z.s1, vI Dk, vF Dc0, vF Dc1, vF Dc2, vF z.t0, vF z.t1, vF ne, vF fa], .agg #[vS b'2 0 nTr c'1, vI ((z.i : Nat) : Int), vS d'1 0 nBr c2'1, vI ((z.h : Nat) : Int), vI Lk, vF Lc0, vF Lc1, vF Lc2, vF z.s0, vF z.s1, vI Dk, vF Dc0, vF Dc1, vF Dc2, vF z.t0, vF z.t1, vF ne, vF fa]]) (cap := []) rfl rfl rfl Try.call34 (c_eqJet nTr c'2 (some ⟨b'4, 0, none⟩) b'4 0 z.xs ((z.i : Nat) : Int) nBr c2'2 (some ⟨d'2, 0, none⟩) d'2 0 z.ys ((z.h : Nat) : Int) Lk Lc0 Lc0 Lc1 Lc1 Lc2 Lc2 z.s0 z.s0 z.s1 z.s1 Dk Dc0 Dc0 Dc1 Dc1 Dc2 Dc2 z.t0 z.t0 z.t1 z.t1 ne ne fa fa c'1 (some ⟨b'2, 0, none⟩) b'2 0 c2'1 (some ⟨d'1, 0, none⟩) d'1 0 Lc0 Lc1 Lc2 z.s0 z.s1 Dc0 Dc1 Dc2 z.t0 z.t1 ne fa h1 (fun _ => rfl) h2 (fun _ => rfl) (fun _ => rfl) (fun _ => rfl) rfl rfl rfl rfl rfl rfl rfl rfl rfl rfl rfl rfl rfl rfl rfl rfl rfl rfl rfl rfl rfl rfl rfl rfl (by omega) (by omega) w14 ((r17.ext m13).mod m14 (nC (lE (lL r17.lt lR)) nN)).rng ((r18.ext m13).mod m14 (nC (lE (lL r18.lt lR)) nN)).rng (((((((((r5.ext m6).mod m7 (nC (lE (lL r5.lt lR)) nN)).ext m8).ext m9).mod m10 (nC (lE (lL (lL r5.lt (lT (lT m6.size m7.size) m8.size)) lR)) nN)).ext m11).ext m12).ext m13).mod m14 (nC (lE (lL (lL r5.lt (lT (lT (lT (lT (lT (lT m6.size m7.size) m8.size) m9.size) m10.size) m11.size) m12.size)) lR)) nN)).rng (((((((((r6.ext m6).mod m7 (nC (lE (lL r6.lt lR)) nN)).ext m8).ext m9).mod m10 (nC (lE (lL (lL r6.lt (lT (lT m6.size m7.size) m8.size)) lR)) nN)).ext m11).ext m12).ext m13).mod m14 (nC (lE (lL (lL r6.lt (lT (lT (lT (lT (lT (lT m6.size m7.size) m8.size) m9.size) m10.size) m11.size) m12.size)) lR)) nN)).rng)) rfl rfl (ltb rfl) ?_
  rintro _ w15 ⟨rfl, m15⟩
  refine WL.det (op_not rfl) rfl rfl rfl ?_
  refine WL.det (op_move rfl) rfl rfl rfl ?_
  refine WL.yes rfl rfl rfl (ltb rfl) rfl rfl ?_
  refine WL.det (op_move rfl) rfl rfl rfl ?_
  refine WL.yes rfl rfl rfl (ltb rfl) rfl rfl ?_
  refine WL.det (op_move rfl) rfl rfl rfl ?_
  refine WL.yes rfl rfl rfl (ltb rfl) rfl rfl ?_
  refine WL.call (oc_call (vs := [.slice A'2 l c3'2, .slice A'1 l c3'1]) (cap := []) rfl rfl rfl Try.call43 (c_eq32_same l c3'2 A'2 e'2 0 ou c3'1 A'1 e'1 0 h3 h8 h4 (by omega) w15 (((r19.ext m13).mod m14 (nC (lE (lL r19.lt lR)) nN)).ext m15).rng ((((((((((r7.ext m6).mod m7 (nC (lE (lL r7.lt lR)) nN)).ext m8).ext m9).mod m10 (nC (lE (lL (lL r7.lt (lT (lT m6.size m7.size) m8.size)) lR)) nN)).ext m11).ext m12).ext m13).mod m14 (nC (lE (lL (lL r7.lt (lT (lT (lT (lT (lT (lT m6.size m7.size) m8.size) m9.size) m10.size) m11.size) m12.size)) lR)) nN)).ext m15).rng)) rfl rfl (ltb rfl) ?_
  rintro _ w16 ⟨rfl, m16⟩
  refine WL.yes rfl rfl rfl (ltb rfl) rfl rfl ?_
  refine WL.det (op_not rfl) rfl rfl rfl ?_
  refine WL.det (op_pick_f rfl rfl rfl) rfl rfl rfl ?_
  refine WL.det (op_move rfl) rfl rfl rfl ?_
  refine WL.yes rfl rfl rfl (ltb rfl) rfl rfl ?_
  refine WL.det (op_move rfl) rfl rfl rfl ?_
  refine WL.yes rfl rfl rfl (ltb rfl) rfl rfl ?_
  refine WL.det (op_move rfl) rfl rfl rfl ?_
  refine WL.yes rfl rfl rfl (ltb rfl) rfl rfl ?_
  refine WL.det (op_nei rfl rfl) rfl rfl rfl ?_
  refine WL.det (op_pick_f rfl rfl rfl) rfl rfl rfl ?_
  refine WL.end ?_
  refine NE.code ?_
  refine CE.cond_f rfl rfl ?_
  refine CE.skip' ?_
  refine NE.code ?_
  refine CE.seq ?_
  refine CE.seq ?_
  refine CE.draw (fun | 2 => some (fun _ wA uA wB => ∃ (bTr' : Nat) (bBr' : Nat), uA = .agg #[vS bTr' 0 nTr nTr, vI ((i : Nat) : Int), vS bBr' 0 nBr nBr, vI ((h : Nat) : Int), vI Lk, vF Lc0, vF Lc1, vF Lc2, vF Ls0, vF Ls1, vI Dk, vF Dc0, vF Dc1, vF Dc2, vF Ds0, vF Ds1, vF ne, vF fa] ∧ Row wB bTr' 0 (fl xTr) ∧ Row wB bBr' 0 (fl xBr) ∧ wA.heap.size ≤ bTr' ∧ wA.heap.size ≤ bBr' ∧ bTr' ≠ bBr' ∧ Mod [] wA wB) | _ => none) [0, 1, 2] [3, 4] [] (by kernel_rfl) (by kernel_rfl) ?_
  have md1 : Mod [] w16 w16.drew := (Mod.refl _ _).drew
  generalize w16.drew = w17 at md1 ⊢
  refine DR.det (i := 0) rfl rfl (by kernel_rfl) (.free rfl) rfl rfl (fun wD mD => op_loadA (i := 0) (cs := [vS bTr'2 0 nTr nTr, vI ((i : Nat) : Int), vS bBr'2 0 nBr nBr, vI ((h : Nat) : Int), vI Lk, vF Lc0, vF Lc1, vF Lc2, vF Ls0, vF Ls1, vI Dk, vF Dc0, vF Dc1, vF Dc2, vF Ds0, vF Ds1, vF ne, vF fa]) rfl Try.isAgg61 Try.sizeOf61 ((((((((r15.ext m11).ext m12).ext m13).mod m14 (nC (lE (lL (lL r13.lt (lT (lT m10.size m11.size) m12.size)) lR)) nN)).ext m15).ext m16).ext md1).ext mD).rng rfl rfl rfl) ?_
  refine DR.det (i := 1) rfl rfl (by kernel_rfl) (.free rfl) rfl rfl (fun wD mD => op_loadA (i := 0) (cs := [.slice ATr nTr cTr, vI ((i : Nat) : Int), .slice ABr nBr cBr, vI ((h : Nat) : Int), vI Lk, vF Lc0, vF Lc1, vF Lc2, vF Ls0, vF Ls1, vI Dk, vF Dc0, vF Dc1, vF Dc2, vF Ds0, vF Ds1, vF ne, vF fa]) rfl Try.isAgg58 Try.sizeOf58 (((((((((((((((((r1.ext m2).ext m3).ext m4).ext m5).ext m6).mod m7 (nC (lE (lL (lL r1.lt (lT (lT (lT m2.size m3.size) m4.size) m5.size)) lR)) nN)).ext m8).ext m9).mod m10 (nC (lE (lL (lL r1.lt (lT (lT (lT (lT (lT (lT m2.size m3.size) m4.size) m5.size) m6.size) m7.size) m8.size)) lR)) nN)).ext m11).ext m12).ext m13).mod m14 (nC (lE (lL (lL r1.lt (lT (lT (lT (lT (lT (lT (lT (lT (lT (lT m2.size m3.size) m4.size) m5.size) m6.size) m7.size) m8.size) m9.size) m10.size) m11.size) m12.size)) lR)) nN)).ext m15).ext m16).ext md1).ext mD).rng rfl rfl rfl) ?_
  refine DR.one (i := 2) rfl rfl (by kernel_rfl) (.free rfl) rfl (ltb rfl) (vs := [.func (.func 32) #[] #[], .agg #[.slice ATr nTr cTr, vI ((i : Nat) : Int), .slice ABr nBr cBr, vI ((h : Nat) : Int), vI Lk, vF Lc0, vF Lc1, vF Lc2, vF Ls0, vF Ls1, vI Dk, vF Dc0, vF Dc1, vF Dc2, vF Ds0, vF Ds1, vF ne, vF fa]]) rfl ?_
  intro w18 m17
  refine ⟨oc_call (vs := [.agg #[.slice ATr nTr cTr, vI ((i : Nat) : Int), .slice ABr nBr cBr, vI ((h : Nat) : Int), vI Lk, vF Lc0, vF Lc1, vF Lc2, vF Ls0, vF Ls1, vI Dk, vF Dc0, vF Dc1, vF Dc2, vF Ds0, vF Ds1, vF ne, vF fa]]) (cap := []) rfl rfl rfl Try.call32 (c_toJet nTr cTr ATr bTr oTr xTr ((i : Nat) : Int) nBr cBr ABr bBr oBr xBr ((h : Nat) : Int) Lk Lc0 Lc1 Lc2 Ls0 Ls1 Dk Dc0 Dc1 Dc2 Ds0 Ds1 ne fa lnTr hATr lnBr hABr (by omega) (by omega) w18 (((((Rng.youngS rTr ((((Rng.youngS rTr (((Rng.youngS rTr ((((((rTr.ext m1).ext m2).ext m3).ext m4).ext m5).ext m6) m7 (allge_cons (lT (lT (lT (lT (lT m1.size m2.size) m3.size) m4.size) m5.size) lR) allge_nil)).ext m8).ext m9) m10 (allge_cons (lT (lT (lT (lT (lT (lT (lT (lT m1.size m2.size) m3.size) m4.size) m5.size) m6.size) m7.size) m8.size) lR) allge_nil)).ext m11).ext m12).ext m13) m14 (allge_cons (lT (lT (lT (lT (lT (lT (lT (lT (lT (lT (lT (lT m1.size m2.size) m3.size) m4.size) m5.size) m6.size) m7.size) m8.size) m9.size) m10.size) m11.size) m12.size) lR) allge_nil)).ext m15).ext m16).ext md1).ext m17) (((((Rng.youngS rBr ((((Rng.youngS rBr (((Rng.youngS rBr ((((((rBr.ext m1).ext m2).ext m3).ext m4).ext m5).ext m6) m7 (allge_cons (lT (lT (lT (lT (lT m1.size m2.size) m3.size) m4.size) m5.size) lR) allge_nil)).ext m8).ext m9) m10 (allge_cons (lT (lT (lT (lT (lT (lT (lT (lT m1.size m2.size) m3.size) m4.size) m5.size) m6.size) m7.size) m8.size) lR) allge_nil)).ext m11).ext m12).ext m13) m14 (allge_cons (lT (lT (lT (lT (lT (lT (lT (lT (lT (lT (lT (lT m1.size m2.size) m3.size) m4.size) m5.size) m6.size) m7.size) m8.size) m9.size) m10.size) m11.size) m12.size) lR) allge_nil)).ext m15).ext m16).ext md1).ext m17)), ?_⟩
  rintro _ w19 ⟨bTr'3, bBr'3, rfl, r23, r24, ge13, ge14, ne9, m18⟩
  refine ⟨(((Mod.refl [] w17).nt m17).nt m18), ?_⟩
  refine DR.done rfl ?_
  intro w20 m19
  refine WO.call rfl (.free rfl) rfl (ltb rfl) (oc_call (vs := [.agg #[vS bTr'2 0 nTr nTr, vI ((i : Nat) : Int), vS bBr'2 0 nBr nBr, vI ((h : Nat) : Int), vI Lk, vF Lc0, vF Lc1, vF Lc2, vF Ls0, vF Ls1, vI Dk, vF Dc0, vF Dc1, vF Dc2, vF Ds0, vF Ds1, vF ne, vF fa], .agg #[vS bTr'3 0 nTr nTr, vI ((i : Nat) : Int), vS bBr'3 0 nBr nBr, vI ((h : Nat) : Int), vI Lk, vF Lc0, vF Lc1, vF Lc2, vF Ls0, vF Ls1, vI Dk, vF Dc0, vF Dc1, vF Dc2, vF Ds0, vF Ds1, vF ne, vF fa]]) (cap := []) rfl rfl rfl Try.call34 (c_eqJet nTr nTr (some ⟨bTr'2, 0, none⟩) bTr'2 0 xTr ((i : Nat) : Int) nBr nBr (some ⟨bBr'2, 0, none⟩) bBr'2 0 xBr ((h : Nat) : Int) Lk Lc0 Lc0 Lc1 Lc1 Lc2 Lc2 Ls0 Ls0 Ls1 Ls1 Dk Dc0 Dc0 Dc1 Dc1 Dc2 Dc2 Ds0 Ds0 Ds1 Ds1 ne ne fa fa nTr (some ⟨bTr'3, 0, none⟩) bTr'3 0 nBr (some ⟨bBr'3, 0, none⟩) bBr'3 0 Lc0 Lc1 Lc2 Ls0 Ls1 Dc0 Dc1 Dc2 Ds0 Ds1 ne fa lnTr (fun _ => rfl) lnBr (fun _ => rfl) (fun _ => rfl) (fun _ => rfl) rfl rfl rfl rfl rfl rfl rfl rfl rfl rfl rfl rfl rfl rfl rfl rfl rfl rfl rfl rfl rfl rfl rfl rfl (by omega) (by omega) w20 ((((((((((((r11.ext m9).mod m10 (nC (lE (lL r11.lt lR)) nN)).ext m11).ext m12).ext m13).mod m14 (nC (lE (lL (lL r11.lt (lT (lT (lT m9.size m10.size) m11.size) m12.size)) lR)) nN)).ext m15).ext m16).ext md1).ext m17).ext m18).ext m19).rng ((((((((((((r12.ext m9).mod m10 (nC (lE (lL r12.lt lR)) nN)).ext m11).ext m12).ext m13).mod m14 (nC (lE (lL (lL r12.lt (lT (lT (lT m9.size m10.size) m11.size) m12.size)) lR)) nN)).ext m15).ext m16).ext md1).ext m17).ext m18).ext m19).rng (r23.ext m19).rng (r24.ext m19).rng)) ?_
  rintro _ w21 ⟨rfl, m20⟩
  refine WO.det (op_not rfl) rfl (.free rfl) rfl rfl ?_
  refine WO.end ?_
  refine NE.code ?_
  refine CE.cond_f rfl rfl ?_
  refine CE.skip' ?_
  refine NE.code ?_
  refine CE.seq ?_
  refine CE.seq ?_
  refine CE.region ?_
  refine WL.det (op_move rfl) rfl rfl rfl ?_
  refine WL.det (op_move rfl) rfl rfl rfl ?_
  refine WL.call (oc_call (vs := [.slice Al l cl]) (cap := []) rfl rfl rfl Try.call41 (c_to32 l cl Al bl ol ss ls hAl (by omega) w21 ((((((((Rng.youngS rl ((((Rng.youngS rl (((Rng.youngS rl ((((((rl.ext m1).ext m2).ext m3).ext m4).ext m5).ext m6) m7 (allge_cons (lT (lT (lT (lT (lT m1.size m2.size) m3.size) m4.size) m5.size) lR) allge_nil)).ext m8).ext m9) m10 (allge_cons (lT (lT (lT (lT (lT (lT (lT (lT m1.size m2.size) m3.size) m4.size) m5.size) m6.size) m7.size) m8.size) lR) allge_nil)).ext m11).ext m12).ext m13) m14 (allge_cons (lT (lT (lT (lT (lT (lT (lT (lT (lT (lT (lT (lT m1.size m2.size) m3.size) m4.size) m5.size) m6.size) m7.size) m8.size) m9.size) m10.size) m11.size) m12.size) lR) allge_nil)).ext m15).ext m16).ext md1).ext m17).ext m18).ext m19).ext m20))) rfl rfl (ltb rfl) ?_
  rintro _ w22 ⟨b'5, rfl, r25, ge15, m21⟩
  refine WL.call (oc_call (vs := [vS b'3 0 l l, vS b'5 0 l l]) (cap := []) rfl rfl rfl Try.call43 (c_eq32_same l l (some ⟨b'3, 0, none⟩) b'3 0 ss l (some ⟨b'5, 0, none⟩) b'5 0 ls (fun _ => rfl) (fun _ => rfl) (by omega) w22 (((((((((((r16.ext m12).ext m13).mod m14 (nC (lE (lL (lL r16.lt m12.size) lR)) nN)).ext m15).ext m16).ext md1).ext m17).ext m18).ext m19).ext m20).ext m21).rng r25.rng)) rfl rfl (ltb rfl) ?_
  rintro _ w23 ⟨rfl, m22⟩
  refine WL.det (op_not rfl) rfl rfl rfl ?_
  refine WL.end ?_
  refine NE.code ?_
  refine CE.cond_f rfl rfl ?_
  refine CE.skip' ?_
  refine NE.code ?_
  refine CE.seq ?_
  refine CE.region ?_
  refine WL.det (op_assign rfl) rfl rfl rfl ?_
  refine WL.end ?_
  refine NE.code ?_
  refine CE.seq ?_
  refine CE.region ?_
  refine WL.det (op_loadA (i := 0) (cs := [vS bTr'2 0 nTr nTr, vI ((i : Nat) : Int), vS bBr'2 0 nBr nBr, vI ((h : Nat) : Int), vI Lk, vF Lc0, vF Lc1, vF Lc2, vF Ls0, vF Ls1, vI Dk, vF Dc0, vF Dc1, vF Dc2, vF Ds0, vF Ds1, vF ne, vF fa]) rfl Try.isAgg61 Try.sizeOf61 (((((((((((((r15.ext m11).ext m12).ext m13).mod m14 (nC (lE (lL (lL r13.lt (lT (lT m10.size m11.size) m12.size)) lR)) nN)).ext m15).ext m16).ext md1).ext m17).ext m18).ext m19).ext m20).ext m21).ext m22).rng rfl rfl rfl) rfl rfl rfl ?_
  refine WL.det (op_move rfl) rfl rfl rfl ?_
  refine WL.call (oc_call (vs := [.agg #[vS bTr'2 0 nTr nTr, vI ((i : Nat) : Int), vS bBr'2 0 nBr nBr, vI ((h : Nat) : Int), vI Lk, vF Lc0, vF Lc1, vF Lc2, vF Ls0, vF Ls1, vI Dk, vF Dc0, vF Dc1, vF Dc2, vF Ds0, vF Ds1, vF ne, vF fa], vI 1]) (cap := []) rfl rfl rfl Try.call36 (c_markJet nTr nTr bTr'2 xTr ((i : Nat) : Int) nBr nBr bBr'2 xBr ((h : Nat) : Int) Lk Lc0 Lc1 Lc2 Ls0 Ls1 Dk Dc0 Dc1 Dc2 Ds0 Ds1 ne fa 1 lnTr lnBr (by omega) (by omega) (by omega) w23 (((((((((((((((r11.ext m9).mod m10 (nC (lE (lL r11.lt lR)) nN)).ext m11).ext m12).ext m13).mod m14 (nC (lE (lL (lL r11.lt (lT (lT (lT m9.size m10.size) m11.size) m12.size)) lR)) nN)).ext m15).ext m16).ext md1).ext m17).ext m18).ext m19).ext m20).ext m21).ext m22) (((((((((((((((r12.ext m9).mod m10 (nC (lE (lL r12.lt lR)) nN)).ext m11).ext m12).ext m13).mod m14 (nC (lE (lL (lL r12.lt (lT (lT (lT m9.size m10.size) m11.size) m12.size)) lR)) nN)).ext m15).ext m16).ext md1).ext m17).ext m18).ext m19).ext m20).ext m21).ext m22) ne5)) rfl rfl (ltb rfl) ?_
  rintro _ w24 ⟨rfl, r26, r27, m23⟩
  refine WL.det (op_assign rfl) rfl rfl rfl ?_
  refine WL.end ?_
  refine NE.code ?_
  refine CE.seq ?_
  refine CE.region ?_
  refine WL.det (op_move rfl) rfl rfl rfl ?_
  refine WL.det (op_move rfl) rfl rfl rfl ?_
  refine WL.call (oc_call (vs := [vS b'3 0 l l, vI ((1 + nTr + nBr : Nat) : Int)]) (cap := []) rfl rfl rfl Try.call44 (c_mark32 l l (some ⟨b'3, 0, none⟩) b'3 0 ss (1 + nTr + nBr) ls (fun _ => rfl) (by omega) (by omega) w24 (((((((((((((r16.ext m12).ext m13).mod m14 (nC (lE (lL (lL r16.lt m12.size) lR)) nN)).ext m15).ext m16).ext md1).ext m17).ext m18).ext m19).ext m20).ext m21).ext m22).mod m23 (nC (lG (lL (lL r11.lt (lT m9.size m10.size)) ge9)) (nC (lG (lL (lL r12.lt (lT m9.size m10.size)) ge9)) nN))))) rfl rfl (ltb rfl) ?_
  rintro _ w25 ⟨rfl, r28, m24⟩
  refine WL.det (op_assign rfl) rfl rfl rfl ?_
  refine WL.end ?_
  refine NE.code ?_
  refine CE.seq ?_
  refine CE.seq ?_
  refine CE.region ?_
  refine WL.det (op_move rfl) rfl rfl rfl ?_
  refine WL.det (op_lti_f rfl rfl (by omega)) rfl rfl rfl ?_
  refine WL.det (op_move rfl) rfl rfl rfl ?_
  refine WL.yes rfl rfl rfl (ltb rfl) rfl rfl ?_
  refine WL.det (op_loadA (i := 0) (cs := [vS b'4 0 nTr c'2, vI ((z.i : Nat) : Int), vS d'2 0 nBr c2'2, vI ((z.h : Nat) : Int), vI Lk, vF Lc0, vF Lc1, vF Lc2, vF z.s0, vF z.s1, vI Dk, vF Dc0, vF Dc1, vF Dc2, vF z.t0, vF z.t1, vF ne, vF fa]) rfl Try.isAgg61 Try.sizeOf61 (((((((((((r22.ext m15).ext m16).ext md1).ext m17).ext m18).ext m19).ext m20).ext m21).ext m22).mod m23 (nC (lG (lL (lL r11.lt (lT (lT (lT m9.size m10.size) m11.size) m12.size)) lR)) (nC (lG (lL (lL r12.lt (lT (lT (lT m9.size m10.size) m11.size) m12.size)) lR)) nN))).mod m24 (nC (lG (lL (lL r16.lt m12.size) lR)) nN)).rng rfl rfl rfl) rfl rfl rfl ?_
  refine WL.yes rfl rfl rfl (ltb rfl) rfl rfl ?_
  refine WL.det (op_loadA (i := 0) (cs := [vS b'2 0 nTr c'1, vI ((z.i : Nat) : Int), vS d'1 0 nBr c2'1, vI ((z.h : Nat) : Int), vI Lk, vF Lc0, vF Lc1, vF Lc2, vF z.s0, vF z.s1, vI Dk, vF Dc0, vF Dc1, vF Dc2, vF z.t0, vF z.t1, vF ne, vF fa]) rfl Try.isAgg61 Try.sizeOf61 ((((((((((((((((((r10.ext m8).ext m9).mod m10 (nC (lE (lL (lL r8.lt (lT m7.size m8.size)) lR)) nN)).ext m11).ext m12).ext m13).mod m14 (nC (lE (lL (lL r8.lt (lT (lT (lT (lT (lT m7.size m8.size) m9.size) m10.size) m11.size) m12.size)) lR)) nN)).ext m15).ext m16).ext md1).ext m17).ext m18).ext m19).ext m20).ext m21).ext m22).mod m23 (nC (lE (lL (lL r8.lt m7.size) ge7)) (nC (lE (lL (lL r8.lt m7.size) ge8)) nN))).mod m24 (nC (lE (lL (lL r8.lt (lT (lT (lT m7.size m8.size) m9.size) m10.size)) ge9)) nN)).rng rfl rfl rfl) rfl rfl rfl ?_
  refine WL.yes rfl rfl rfl (ltb rfl) rfl rfl ?_
  refine WL.call (oc_call (vs := [.agg #[vS b'4 0 nTr c'2, vI ((z.i : Nat) : Int), vS d'2 0 nBr c2'2, vI ((z.h : Nat) : Int), vI Lk, vF Lc0, vF Lc1, vF Lc2, vF z.s0, vF z.s1, vI Dk, vF Dc0, vF Dc1, vF Dc2, vF z.t0, vF z.t1, vF ne, vF fa], .agg #[vS b'2 0 nTr c'1, vI ((z.i : Nat) : Int), vS d'1 0 nBr c2'1, vI ((z.h : Nat) : Int), vI Lk, vF Lc0, vF Lc1, vF Lc2, vF z.s0, vF z.s1, vI Dk, vF Dc0, vF Dc1, vF Dc2, vF z.t0, vF z.t1, vF ne, vF fa]]) (cap := []) rfl rfl rfl Try.call34 (c_eqJet nTr c'2 (some ⟨b'4, 0, none⟩) b'4 0 z.xs ((z.i : Nat) : Int) nBr c2'2 (some ⟨d'2, 0, none⟩) d'2 0 z.ys ((z.h : Nat) : Int) Lk Lc0 Lc0 Lc1 Lc1 Lc2 Lc2 z.s0 z.s0 z.s1 z.s1 Dk Dc0 Dc0 Dc1 Dc1 Dc2 Dc2 z.t0 z.t0 z.t1 z.t1 ne ne fa fa c'1 (some ⟨b'2, 0, none⟩) b'2 0 c2'1 (some ⟨d'1, 0, none⟩) d'1 0 Lc0 Lc1 Lc2 z.s0 z.s1 Dc0 Dc1 Dc2 z.t0 z.t1 ne fa h1 (fun _ => rfl) h2 (fun _ => rfl) (fun _ => rfl) (fun _ => rfl) rfl rfl rfl rfl rfl rfl rfl rfl rfl rfl rfl rfl rfl rfl rfl rfl rfl rfl rfl rfl rfl rfl rfl rfl (by omega) (by omega) w25 (((((((((((((r17.ext m13).mod m14 (nC (lE (lL r17.lt lR)) nN)).ext m15).ext m16).ext md1).ext m17).ext m18).ext m19).ext m20).ext m21).ext m22).mod m23 (nC (lG (lL (lL r11.lt (lT (lT m9.size m10.size) m11.size)) ge10)) (nC (lG (lL (lL r12.lt (lT (lT m9.size m10.size) m11.size)) ge10)) nN))).mod m24 (nC (lG (lL r16.lt ge10)) nN)).rng (((((((((((((r18.ext m13).mod m14 (nC (lE (lL r18.lt lR)) nN)).ext m15).ext m16).ext md1).ext m17).ext m18).ext m19).ext m20).ext m21).ext m22).mod m23 (nC (lG (lL (lL r11.lt (lT (lT m9.size m10.size) m11.size)) ge11)) (nC (lG (lL (lL r12.lt (lT (lT m9.size m10.size) m11.size)) ge11)) nN))).mod m24 (nC (lG (lL r16.lt ge11)) nN)).rng ((((((((((((((((((((r5.ext m6).mod m7 (nC (lE (lL r5.lt lR)) nN)).ext m8).ext m9).mod m10 (nC (lE (lL (lL r5.lt (lT (lT m6.size m7.size) m8.size)) lR)) nN)).ext m11).ext m12).ext m13).mod m14 (nC (lE (lL (lL r5.lt (lT (lT (lT (lT (lT (lT m6.size m7.size) m8.size) m9.size) m10.size) m11.size) m12.size)) lR)) nN)).ext m15).ext m16).ext md1).ext m17).ext m18).ext m19).ext m20).ext m21).ext m22).mod m23 (nC (lE (lL (lL r5.lt (lT m6.size m7.size)) ge7)) (nC (lE (lL (lL r5.lt (lT m6.size m7.size)) ge8)) nN))).mod m24 (nC (lE (lL (lL r5.lt (lT (lT (lT (lT m6.size m7.size) m8.size) m9.size) m10.size)) ge9)) nN)).rng ((((((((((((((((((((r6.ext m6).mod m7 (nC (lE (lL r6.lt lR)) nN)).ext m8).ext m9).mod m10 (nC (lE (lL (lL r6.lt (lT (lT m6.size m7.size) m8.size)) lR)) nN)).ext m11).ext m12).ext m13).mod m14 (nC (lE (lL (lL r6.lt (lT (lT (lT (lT (lT (lT m6.size m7.size) m8.size) m9.size) m10.size) m11.size) m12.size)) lR)) nN)).ext m15).ext m16).ext md1).ext m17).ext m18).ext m19).ext m20).ext m21).ext m22).mod m23 (nC (lE (lL (lL r6.lt (lT m6.size m7.size)) ge7)) (nC (lE (lL (lL r6.lt (lT m6.size m7.size)) ge8)) nN))).mod m24 (nC (lE (lL (lL r6.lt (lT (lT (lT (lT m6.size m7.size) m8.size) m9.size) m10.size)) ge9)) nN)).rng)) rfl rfl (ltb rfl) ?_
  rintro _ w26 ⟨rfl, m25⟩
  refine WL.yes rfl rfl rfl (ltb rfl) rfl rfl ?_
  refine WL.det (op_not rfl) rfl rfl rfl ?_
  refine WL.det (op_pick_f rfl rfl rfl) rfl rfl rfl ?_
  refine WL.det (op_move rfl) rfl rfl rfl ?_
  refine WL.yes rfl rfl rfl (ltb rfl) rfl rfl ?_
  refine WL.det (op_move rfl) rfl rfl rfl ?_
  refine WL.yes rfl rfl rfl (ltb rfl) rfl rfl ?_
  refine WL.det (op_move rfl) rfl rfl rfl ?_
  refine WL.yes rfl rfl rfl (ltb rfl) rfl rfl ?_
  refine WL.call (oc_call (vs := [.slice A'2 l c3'2, .slice A'1 l c3'1]) (cap := []) rfl rfl rfl Try.call43 (c_eq32_same l c3'2 A'2 e'2 0 ou c3'1 A'1 e'1 0 h3 h8 h4 (by omega) w26 ((((((((((((((r19.ext m13).mod m14 (nC (lE (lL r19.lt lR)) nN)).ext m15).ext m16).ext md1).ext m17).ext m18).ext m19).ext m20).ext m21).ext m22).mod m23 (nC (lG (lL (lL r11.lt (lT (lT m9.size m10.size) m11.size)) ge12)) (nC (lG (lL (lL r12.lt (lT (lT m9.size m10.size) m11.size)) ge12)) nN))).mod m24 (nC (lG (lL r16.lt ge12)) nN)).ext m25).rng (((((((((((((((((((((r7.ext m6).mod m7 (nC (lE (lL r7.lt lR)) nN)).ext m8).ext m9).mod m10 (nC (lE (lL (lL r7.lt (lT (lT m6.size m7.size) m8.size)) lR)) nN)).ext m11).ext m12).ext m13).mod m14 (nC (lE (lL (lL r7.lt (lT (lT (lT (lT (lT (lT m6.size m7.size) m8.size) m9.size) m10.size) m11.size) m12.size)) lR)) nN)).ext m15).ext m16).ext md1).ext m17).ext m18).ext m19).ext m20).ext m21).ext m22).mod m23 (nC (lE (lL (lL r7.lt (lT m6.size m7.size)) ge7)) (nC (lE (lL (lL r7.lt (lT m6.size m7.size)) ge8)) nN))).mod m24 (nC (lE (lL (lL r7.lt (lT (lT (lT (lT m6.size m7.size) m8.size) m9.size) m10.size)) ge9)) nN)).ext m25).rng)) rfl rfl (ltb rfl) ?_
  rintro _ w27 ⟨rfl, m26⟩
  refine WL.yes rfl rfl rfl (ltb rfl) rfl rfl ?_
  refine WL.det (op_not rfl) rfl rfl rfl ?_
  refine WL.det (op_pick_f rfl rfl rfl) rfl rfl rfl ?_
  refine WL.det (op_move rfl) rfl rfl rfl ?_
  refine WL.yes rfl rfl rfl (ltb rfl) rfl rfl ?_
  refine WL.det (op_move rfl) rfl rfl rfl ?_
  refine WL.yes rfl rfl rfl (ltb rfl) rfl rfl ?_
  refine WL.det (op_move rfl) rfl rfl rfl ?_
  refine WL.yes rfl rfl rfl (ltb rfl) rfl rfl ?_
  refine WL.det (op_nei rfl rfl) rfl rfl rfl ?_
  refine WL.det (op_pick_f rfl rfl rfl) rfl rfl rfl ?_
  refine WL.end ?_
  refine NE.code ?_
  refine CE.cond_f rfl rfl ?_
  refine CE.skip' ?_
  refine NE.code ?_
  refine CE.seq ?_
  refine CE.region ?_
  refine WL.det (op_assign rfl) rfl rfl rfl ?_
  refine WL.end ?_
  refine NE.code ?_
  refine CE.seq ?_
  refine CE.region ?_
  refine WL.det (op_loadA (i := 0) (cs := [vS b'4 0 nTr c'2, vI ((z.i : Nat) : Int), vS d'2 0 nBr c2'2, vI ((z.h : Nat) : Int), vI Lk, vF Lc0, vF Lc1, vF Lc2, vF z.s0, vF z.s1, vI Dk, vF Dc0, vF Dc1, vF Dc2, vF z.t0, vF z.t1, vF ne, vF fa]) rfl Try.isAgg61 Try.sizeOf61 (((((((((((((r22.ext m15).ext m16).ext md1).ext m17).ext m18).ext m19).ext m20).ext m21).ext m22).mod m23 (nC (lG (lL (lL r11.lt (lT (lT (lT m9.size m10.size) m11.size) m12.size)) lR)) (nC (lG (lL (lL r12.lt (lT (lT (lT m9.size m10.size) m11.size) m12.size)) lR)) nN))).mod m24 (nC (lG (lL (lL r16.lt m12.size) lR)) nN)).ext m25).ext m26).rng rfl rfl rfl) rfl rfl rfl ?_
  refine WL.det (op_move rfl) rfl rfl rfl ?_
  refine WL.call (oc_call (vs := [.agg #[vS b'4 0 nTr c'2, vI ((z.i : Nat) : Int), vS d'2 0 nBr c2'2, vI ((z.h : Nat) : Int), vI Lk, vF Lc0, vF Lc1, vF Lc2, vF z.s0, vF z.s1, vI Dk, vF Dc0, vF Dc1, vF Dc2, vF z.t0, vF z.t1, vF ne, vF fa], vI 1]) (cap := []) rfl rfl rfl Try.call36 (c_markJet nTr c'2 b'4 z.xs ((z.i : Nat) : Int) nBr c2'2 d'2 z.ys ((z.h : Nat) : Int) Lk Lc0 Lc1 Lc2 z.s0 z.s1 Dk Dc0 Dc1 Dc2 z.t0 z.t1 ne fa 1 h5 h6 (by omega) (by omega) (by omega) w27 (((((((((((((((r17.ext m13).mod m14 (nC (lE (lL r17.lt lR)) nN)).ext m15).ext m16).ext md1).ext m17).ext m18).ext m19).ext m20).ext m21).ext m22).mod m23 (nC (lG (lL (lL r11.lt (lT (lT m9.size m10.size) m11.size)) ge10)) (nC (lG (lL (lL r12.lt (lT (lT m9.size m10.size) m11.size)) ge10)) nN))).mod m24 (nC (lG (lL r16.lt ge10)) nN)).ext m25).ext m26) (((((((((((((((r18.ext m13).mod m14 (nC (lE (lL r18.lt lR)) nN)).ext m15).ext m16).ext md1).ext m17).ext m18).ext m19).ext m20).ext m21).ext m22).mod m23 (nC (lG (lL (lL r11.lt (lT (lT m9.size m10.size) m11.size)) ge11)) (nC (lG (lL (lL r12.lt (lT (lT m9.size m10.size) m11.size)) ge11)) nN))).mod m24 (nC (lG (lL r16.lt ge11)) nN)).ext m25).ext m26) ne6)) rfl rfl (ltb rfl) ?_
  rintro _ w28 ⟨rfl, r29, r30, m27⟩
  refine WL.det (op_assign rfl) rfl rfl rfl ?_
  refine WL.end ?_
  refine NE.code ?_
  refine CE.seq ?_
  refine CE.region ?_
  refine WL.det (op_move rfl) rfl rfl rfl ?_
  refine WL.det (op_move rfl) rfl rfl rfl ?_
  refine WL.call (oc_call (vs := [.slice A'2 l c3'2, vI ((1 + nTr + nBr : Nat) : Int)]) (cap := []) rfl rfl rfl Try.call44 (c_mark32 l c3'2 A'2 e'2 0 ou (1 + nTr + nBr) h7 h8 (by omega) (by omega) w28 ((((((((((((((((r19.ext m13).mod m14 (nC (lE (lL r19.lt lR)) nN)).ext m15).ext m16).ext md1).ext m17).ext m18).ext m19).ext m20).ext m21).ext m22).mod m23 (nC (lG (lL (lL r11.lt (lT (lT m9.size m10.size) m11.size)) ge12)) (nC (lG (lL (lL r12.lt (lT (lT m9.size m10.size) m11.size)) ge12)) nN))).mod m24 (nC (lG (lL r16.lt ge12)) nN)).ext m25).ext m26).mod m27 (nC (Ne.symm ne7) (nC (Ne.symm ne8) nN))))) rfl rfl (ltb rfl) ?_
  rintro _ w29 ⟨rfl, r31, m28⟩
  refine WL.det (op_assign rfl) rfl rfl rfl ?_
  refine WL.end ?_
  refine NE.code ?_
  refine CE.seq ?_
  refine CE.region ?_
  refine WL.det (op_assign rfl) rfl rfl rfl ?_
  refine WL.end ?_
  refine NE.code ?_
  refine CE.seq ?_
  refine CE.region ?_
  refine WL.det (op_loadA (i := 0) (cs := [vS b'4 0 nTr c'2, vI ((z.i : Nat) : Int), vS d'2 0 nBr c2'2, vI ((z.h : Nat) : Int), vI Lk, vF Lc0, vF Lc1, vF Lc2, vF z.s0, vF z.s1, vI Dk, vF Dc0, vF Dc1, vF Dc2, vF z.t0, vF z.t1, vF ne, vF fa]) rfl Try.isAgg61 Try.sizeOf61 (((((((((((((((r22.ext m15).ext m16).ext md1).ext m17).ext m18).ext m19).ext m20).ext m21).ext m22).mod m23 (nC (lG (lL (lL r11.lt (lT (lT (lT m9.size m10.size) m11.size) m12.size)) lR)) (nC (lG (lL (lL r12.lt (lT (lT (lT m9.size m10.size) m11.size) m12.size)) lR)) nN))).mod m24 (nC (lG (lL (lL r16.lt m12.size) lR)) nN)).ext m25).ext m26).mod m27 (nC (lG (lL r17.lt lR)) (nC (lG (lL r18.lt lR)) nN))).mod m28 (nC (lG (lL r19.lt lR)) nN)).rng rfl rfl rfl) rfl rfl rfl ?_
  refine WL.det (op_move rfl) rfl rfl rfl ?_
  refine WL.call (oc_call (vs := [.agg #[vS b'4 0 nTr c'2, vI ((z.i : Nat) : Int), vS d'2 0 nBr c2'2, vI ((z.h : Nat) : Int), vI Lk, vF Lc0, vF Lc1, vF Lc2, vF z.s0, vF z.s1, vI Dk, vF Dc0, vF Dc1, vF Dc2, vF z.t0, vF z.t1, vF ne, vF fa], vI 1]) (cap := []) rfl rfl rfl Try.call37 (c_heldJet nTr c'2 b'4 (marks z.xs 1 nTr) ((z.i : Nat) : Int) nBr c2'2 d'2 (marks z.ys (1 + nTr) nBr) ((z.h : Nat) : Int) Lk Lc0 Lc1 Lc2 z.s0 z.s1 Dk Dc0 Dc1 Dc2 z.t0 z.t1 ne fa 1 (marks_len h5 (Nat.le_refl _)) (marks_len h6 (Nat.le_refl _)) (by omega) (by omega) (by omega) (by first | assumption | exact marks_held _ _ _) (by first | assumption | exact marks_held _ _ _) w29 (r29.mod m28 (nC ne7 nN)).rng (r30.mod m28 (nC ne8 nN)).rng)) rfl rfl (ltb rfl) ?_
  rintro _ w30 ⟨rfl, m29⟩
  refine WL.det (op_assign rfl) rfl rfl rfl ?_
  refine WL.end ?_
  refine NE.code ?_
  refine CE.seq ?_
  refine CE.seq ?_
  refine CE.region ?_
  refine WL.det (op_move rfl) rfl rfl rfl ?_
  refine WL.det (op_lti_f rfl rfl (by omega)) rfl rfl rfl ?_
  refine WL.end ?_
  refine NE.code ?_
  refine CE.cond_f rfl rfl ?_
  refine CE.skip' ?_
  refine NE.code ?_
  refine CE.seq ?_
  refine CE.region ?_
  refine WL.det (op_move rfl) rfl rfl rfl ?_
  refine WL.det (op_move rfl) rfl rfl rfl ?_
  refine WL.call (oc_call (vs := [.slice A'2 l c3'2, vI ((1 + nTr + nBr : Nat) : Int)]) (cap := []) rfl rfl rfl Try.call45 (c_held32 l c3'2 A'2 e'2 0 (marks ou (1 + nTr + nBr) l) (1 + nTr + nBr) (marks_len h7 (Nat.le_refl _)) h8 (by omega) (by omega) (by first | assumption | exact marks_held _ _ _) w30 (r31.ext m29).rng)) rfl rfl (ltb rfl) ?_
  rintro _ w31 ⟨rfl, m30⟩
  refine WL.det (op_assign rfl) rfl rfl rfl ?_
  refine WL.end ?_
  refine NE.code ?_
  refine CE.seq ?_
  refine CE.seq ?_
  refine CE.region ?_
  refine WL.det (op_move rfl) rfl rfl rfl ?_
  refine WL.det (op_lti_f rfl rfl (by omega)) rfl rfl rfl ?_
  refine WL.end ?_
  refine NE.code ?_
  refine CE.cond_f rfl rfl ?_
  refine CE.skip' ?_
  refine NE.code ?_
  refine CE.seq ?_
  refine CE.seq ?_
  refine CE.region ?_
  refine WL.det (op_move rfl) rfl rfl rfl ?_
  refine WL.det (op_move rfl) rfl rfl rfl ?_
  refine WL.det (op_nei_f rfl rfl rfl) rfl rfl rfl ?_
  refine WL.end ?_
  refine NE.code ?_
  refine CE.cond_f rfl rfl ?_
  refine CE.skip' ?_
  refine NE.code ?_
  refine CE.seq ?_
  refine CE.region ?_
  refine WL.det (op_loadA (i := 0) (cs := [.slice ATr nTr cTr, vI ((i : Nat) : Int), .slice ABr nBr cBr, vI ((h : Nat) : Int), vI Lk, vF Lc0, vF Lc1, vF Lc2, vF Ls0, vF Ls1, vI Dk, vF Dc0, vF Dc1, vF Dc2, vF Ds0, vF Ds1, vF ne, vF fa]) rfl Try.isAgg58 Try.sizeOf58 ((((((((((((((((((((((((((((((r1.ext m2).ext m3).ext m4).ext m5).ext m6).mod m7 (nC (lE (lL (lL r1.lt (lT (lT (lT m2.size m3.size) m4.size) m5.size)) lR)) nN)).ext m8).ext m9).mod m10 (nC (lE (lL (lL r1.lt (lT (lT (lT (lT (lT (lT m2.size m3.size) m4.size) m5.size) m6.size) m7.size) m8.size)) lR)) nN)).ext m11).ext m12).ext m13).mod m14 (nC (lE (lL (lL r1.lt (lT (lT (lT (lT (lT (lT (lT (lT (lT (lT m2.size m3.size) m4.size) m5.size) m6.size) m7.size) m8.size) m9.size) m10.size) m11.size) m12.size)) lR)) nN)).ext m15).ext m16).ext md1).ext m17).ext m18).ext m19).ext m20).ext m21).ext m22).mod m23 (nC (lE (lL (lL r1.lt (lT (lT (lT (lT (lT m2.size m3.size) m4.size) m5.size) m6.size) m7.size)) ge7)) (nC (lE (lL (lL r1.lt (lT (lT (lT (lT (lT m2.size m3.size) m4.size) m5.size) m6.size) m7.size)) ge8)) nN))).mod m24 (nC (lE (lL (lL r1.lt (lT (lT (lT (lT (lT (lT (lT (lT m2.size m3.size) m4.size) m5.size) m6.size) m7.size) m8.size) m9.size) m10.size)) ge9)) nN)).ext m25).ext m26).mod m27 (nC (lE (lL (lL r1.lt (lT (lT (lT (lT (lT (lT (lT (lT (lT m2.size m3.size) m4.size) m5.size) m6.size) m7.size) m8.size) m9.size) m10.size) m11.size)) ge10)) (nC (lE (lL (lL r1.lt (lT (lT (lT (lT (lT (lT (lT (lT (lT m2.size m3.size) m4.size) m5.size) m6.size) m7.size) m8.size) m9.size) m10.size) m11.size)) ge11)) nN))).mod m28 (nC (lE (lL (lL r1.lt (lT (lT (lT (lT (lT (lT (lT (lT (lT m2.size m3.size) m4.size) m5.size) m6.size) m7.size) m8.size) m9.size) m10.size) m11.size)) ge12)) nN)).ext m29).ext m30).rng rfl rfl rfl) rfl rfl rfl ?_
  refine WL.call (oc_call (vs := [.agg #[.slice ATr nTr cTr, vI ((i : Nat) : Int), .slice ABr nBr cBr, vI ((h : Nat) : Int), vI Lk, vF Lc0, vF Lc1, vF Lc2, vF Ls0, vF Ls1, vI Dk, vF Dc0, vF Dc1, vF Dc2, vF Ds0, vF Ds1, vF ne, vF fa]]) (cap := []) rfl rfl rfl Try.call32 (c_toJet nTr cTr ATr bTr oTr xTr ((i : Nat) : Int) nBr cBr ABr bBr oBr xBr ((h : Nat) : Int) Lk Lc0 Lc1 Lc2 Ls0 Ls1 Dk Dc0 Dc1 Dc2 Ds0 Ds1 ne fa lnTr hATr lnBr hABr (by omega) (by omega) w31 (((Rng.youngS rTr (Rng.youngS rTr (((Rng.youngS rTr (Rng.youngS rTr ((((((((((Rng.youngS rTr ((((Rng.youngS rTr (((Rng.youngS rTr ((((((rTr.ext m1).ext m2).ext m3).ext m4).ext m5).ext m6) m7 (allge_cons (lT (lT (lT (lT (lT m1.size m2.size) m3.size) m4.size) m5.size) lR) allge_nil)).ext m8).ext m9) m10 (allge_cons (lT (lT (lT (lT (lT (lT (lT (lT m1.size m2.size) m3.size) m4.size) m5.size) m6.size) m7.size) m8.size) lR) allge_nil)).ext m11).ext m12).ext m13) m14 (allge_cons (lT (lT (lT (lT (lT (lT (lT (lT (lT (lT (lT (lT m1.size m2.size) m3.size) m4.size) m5.size) m6.size) m7.size) m8.size) m9.size) m10.size) m11.size) m12.size) lR) allge_nil)).ext m15).ext m16).ext md1).ext m17).ext m18).ext m19).ext m20).ext m21).ext m22) m23 (allge_cons (lT (lT (lT (lT (lT (lT (lT m1.size m2.size) m3.size) m4.size) m5.size) m6.size) m7.size) ge7) (allge_cons (lT (lT (lT (lT (lT (lT (lT m1.size m2.size) m3.size) m4.size) m5.size) m6.size) m7.size) ge8) allge_nil))) m24 (allge_cons (lT (lT (lT (lT (lT (lT (lT (lT (lT (lT m1.size m2.size) m3.size) m4.size) m5.size) m6.size) m7.size) m8.size) m9.size) m10.size) ge9) allge_nil)).ext m25).ext m26) m27 (allge_cons (lT (lT (lT (lT (lT (lT (lT (lT (lT (lT (lT m1.size m2.size) m3.size) m4.size) m5.size) m6.size) m7.size) m8.size) m9.size) m10.size) m11.size) ge10) (allge_cons (lT (lT (lT (lT (lT (lT (lT (lT (lT (lT (lT m1.size m2.size) m3.size) m4.size) m5.size) m6.size) m7.size) m8.size) m9.size) m10.size) m11.size) ge11) allge_nil))) m28 (allge_cons (lT (lT (lT (lT (lT (lT (lT (lT (lT (lT (lT m1.size m2.size) m3.size) m4.size) m5.size) m6.size) m7.size) m8.size) m9.size) m10.size) m11.size) ge12) allge_nil)).ext m29).ext m30) (((Rng.youngS rBr (Rng.youngS rBr (((Rng.youngS rBr (Rng.youngS rBr ((((((((((Rng.youngS rBr ((((Rng.youngS rBr (((Rng.youngS rBr ((((((rBr.ext m1).ext m2).ext m3).ext m4).ext m5).ext m6) m7 (allge_cons (lT (lT (lT (lT (lT m1.size m2.size) m3.size) m4.size) m5.size) lR) allge_nil)).ext m8).ext m9) m10 (allge_cons (lT (lT (lT (lT (lT (lT (lT (lT m1.size m2.size) m3.size) m4.size) m5.size) m6.size) m7.size) m8.size) lR) allge_nil)).ext m11).ext m12).ext m13) m14 (allge_cons (lT (lT (lT (lT (lT (lT (lT (lT (lT (lT (lT (lT m1.size m2.size) m3.size) m4.size) m5.size) m6.size) m7.size) m8.size) m9.size) m10.size) m11.size) m12.size) lR) allge_nil)).ext m15).ext m16).ext md1).ext m17).ext m18).ext m19).ext m20).ext m21).ext m22) m23 (allge_cons (lT (lT (lT (lT (lT (lT (lT m1.size m2.size) m3.size) m4.size) m5.size) m6.size) m7.size) ge7) (allge_cons (lT (lT (lT (lT (lT (lT (lT m1.size m2.size) m3.size) m4.size) m5.size) m6.size) m7.size) ge8) allge_nil))) m24 (allge_cons (lT (lT (lT (lT (lT (lT (lT (lT (lT (lT m1.size m2.size) m3.size) m4.size) m5.size) m6.size) m7.size) m8.size) m9.size) m10.size) ge9) allge_nil)).ext m25).ext m26) m27 (allge_cons (lT (lT (lT (lT (lT (lT (lT (lT (lT (lT (lT m1.size m2.size) m3.size) m4.size) m5.size) m6.size) m7.size) m8.size) m9.size) m10.size) m11.size) ge10) (allge_cons (lT (lT (lT (lT (lT (lT (lT (lT (lT (lT (lT m1.size m2.size) m3.size) m4.size) m5.size) m6.size) m7.size) m8.size) m9.size) m10.size) m11.size) ge11) allge_nil))) m28 (allge_cons (lT (lT (lT (lT (lT (lT (lT (lT (lT (lT (lT m1.size m2.size) m3.size) m4.size) m5.size) m6.size) m7.size) m8.size) m9.size) m10.size) m11.size) ge12) allge_nil)).ext m29).ext m30))) rfl rfl (ltb rfl) ?_
  rintro _ w32 ⟨bTr'4, bBr'4, rfl, r32, r33, ge16, ge17, ne10, m31⟩
  refine WL.det (op_move rfl) rfl rfl rfl ?_
  refine WL.call (oc_call (vs := [.slice Al l cl]) (cap := []) rfl rfl rfl Try.call41 (c_to32 l cl Al bl ol ss ls hAl (by omega) w32 ((((Rng.youngS rl (Rng.youngS rl (((Rng.youngS rl (Rng.youngS rl ((((((((((Rng.youngS rl ((((Rng.youngS rl (((Rng.youngS rl ((((((rl.ext m1).ext m2).ext m3).ext m4).ext m5).ext m6) m7 (allge_cons (lT (lT (lT (lT (lT m1.size m2.size) m3.size) m4.size) m5.size) lR) allge_nil)).ext m8).ext m9) m10 (allge_cons (lT (lT (lT (lT (lT (lT (lT (lT m1.size m2.size) m3.size) m4.size) m5.size) m6.size) m7.size) m8.size) lR) allge_nil)).ext m11).ext m12).ext m13) m14 (allge_cons (lT (lT (lT (lT (lT (lT (lT (lT (lT (lT (lT (lT m1.size m2.size) m3.size) m4.size) m5.size) m6.size) m7.size) m8.size) m9.size) m10.size) m11.size) m12.size) lR) allge_nil)).ext m15).ext m16).ext md1).ext m17).ext m18).ext m19).ext m20).ext m21).ext m22) m23 (allge_cons (lT (lT (lT (lT (lT (lT (lT m1.size m2.size) m3.size) m4.size) m5.size) m6.size) m7.size) ge7) (allge_cons (lT (lT (lT (lT (lT (lT (lT m1.size m2.size) m3.size) m4.size) m5.size) m6.size) m7.size) ge8) allge_nil))) m24 (allge_cons (lT (lT (lT (lT (lT (lT (lT (lT (lT (lT m1.size m2.size) m3.size) m4.size) m5.size) m6.size) m7.size) m8.size) m9.size) m10.size) ge9) allge_nil)).ext m25).ext m26) m27 (allge_cons (lT (lT (lT (lT (lT (lT (lT (lT (lT (lT (lT m1.size m2.size) m3.size) m4.size) m5.size) m6.size) m7.size) m8.size) m9.size) m10.size) m11.size) ge10) (allge_cons (lT (lT (lT (lT (lT (lT (lT (lT (lT (lT (lT m1.size m2.size) m3.size) m4.size) m5.size) m6.size) m7.size) m8.size) m9.size) m10.size) m11.size) ge11) allge_nil))) m28 (allge_cons (lT (lT (lT (lT (lT (lT (lT (lT (lT (lT (lT m1.size m2.size) m3.size) m4.size) m5.size) m6.size) m7.size) m8.size) m9.size) m10.size) m11.size) ge12) allge_nil)).ext m29).ext m30).ext m31))) rfl rfl (ltb rfl) ?_
  rintro _ w33 ⟨b'6, rfl, r34, ge18, m32⟩
  refine WL.call (oc_call (vs := [.agg #[vS bTr'4 0 nTr nTr, vI ((i : Nat) : Int), vS bBr'4 0 nBr nBr, vI ((h : Nat) : Int), vI Lk, vF Lc0, vF Lc1, vF Lc2, vF Ls0, vF Ls1, vI Dk, vF Dc0, vF Dc1, vF Dc2, vF Ds0, vF Ds1, vF ne, vF fa], vS b'6 0 l l]) (cap := []) rfl rfl rfl Try.call42 (c_iPlayJet nTr nTr bTr'4 xTr nBr nBr bBr'4 xBr i h Lk Lc0 Lc1 Lc2 Ls0 Ls1 Dk Dc0 Dc1 Dc2 Ds0 Ds1 ne fa l l (some ⟨b'6, 0, none⟩) b'6 0 ss z ou lnTr lnBr (by omega) (by omega) (by omega) (by omega) (by first | assumption | exact W32.set (by assumption) (by first | assumption | exact wid_lt (by assumption)) | exact W32.zeros _ | exact W32.nil) (by first | assumption | exact W32.set (by assumption) (by first | assumption | exact wid_lt (by assumption)) | exact W32.zeros _ | exact W32.nil) (by first | assumption | exact W32.get (by assumption) _ | decide +kernel) (by first | assumption | exact W32.get (by assumption) _ | decide +kernel) (by first | assumption | exact W32.get (by assumption) _ | decide +kernel) (by first | assumption | exact W32.get (by assumption) _ | decide +kernel) ls (fun _ => rfl) (by first | assumption | exact W32.set (by assumption) (by first | assumption | exact wid_lt (by assumption)) | exact W32.zeros _ | exact W32.nil) (by assumption) (by assumption) (by omega) (by assumption) w33 (r32.ext m32).rng (r33.ext m32).rng r34.rng)) rfl rfl (ltb rfl) ?_
  rintro _ w34 ⟨b'7, c'3, d'3, c2'3, e'3, c3'3, A'3, rfl, h9, h10, h11, h12, r35, r36, r37, ge19, ge20, ge21, ne11, ne12, ne13, m33⟩
  refine WL.det (op_move rfl) rfl rfl rfl ?_
  refine WL.det (op_extract rfl rfl) rfl rfl rfl ?_
  refine WL.det (op_extract rfl rfl) rfl rfl rfl ?_
  refine WL.det (op_extract rfl rfl) rfl rfl rfl ?_
  refine WL.op (op_alloc (cs := [.slice none 0 0, vI 0, .slice none 0 0, vI 0, vI 0, vF 0, vF 0, vF 0, vF 0, vF 0, vI 0, vF 0, vF 0, vF 0, vF 0, vF 0, vF 0, vF 0]) Try.zeroValue61 rfl) rfl rfl (ltb rfl) ?_
  rintro _ w35 ⟨rfl, r38, m34, z8⟩
  refine WL.op0 (op_store (i := 0) (cs := [vS b'7 0 nTr c'3, vI ((z.i : Nat) : Int), vS d'3 0 nBr c2'3, vI ((z.h : Nat) : Int), vI Lk, vF Lc0, vF Lc1, vF Lc2, vF z.s0, vF z.s1, vI Dk, vF Dc0, vF Dc1, vF Dc2, vF z.t0, vF z.t1, vF ne, vF fa]) rfl rfl rfl Try.sizeOf61 rfl r38 rfl (lB rfl) rfl) rfl rfl ?_
  rintro _ w36 ⟨r39, m35, z9⟩
  have r40 : Row w36 w34.heap.size 0 [vS b'7 0 nTr c'3, vI ((z.i : Nat) : Int), vS d'3 0 nBr c2'3, vI ((z.h : Nat) : Int), vI Lk, vF Lc0, vF Lc1, vF Lc2, vF z.s0, vF z.s1, vI Dk, vF Dc0, vF Dc1, vF Dc2, vF z.t0, vF z.t1, vF ne, vF fa] := Row.congr r39 rfl
  refine WL.det (op_assign rfl) rfl rfl rfl ?_
  refine WL.det (op_assign rfl) rfl rfl rfl ?_
  refine WL.end ?_
  refine NE.code ?_
  refine CE.seq ?_
  refine CE.seq ?_
  refine CE.region ?_
  refine WL.det (op_loadA (i := 0) (cs := [vS b'7 0 nTr c'3, vI ((z.i : Nat) : Int), vS d'3 0 nBr c2'3, vI ((z.h : Nat) : Int), vI Lk, vF Lc0, vF Lc1, vF Lc2, vF z.s0, vF z.s1, vI Dk, vF Dc0, vF Dc1, vF Dc2, vF z.t0, vF z.t1, vF ne, vF fa]) rfl Try.isAgg61 Try.sizeOf61 r40.rng rfl rfl rfl) rfl rfl rfl ?_
  refine WL.det (op_loadA (i := 0) (cs := [vS b'2 0 nTr c'1, vI ((z.i : Nat) : Int), vS d'1 0 nBr c2'1, vI ((z.h : Nat) : Int), vI Lk, vF Lc0, vF Lc1, vF Lc2, vF z.s0, vF z.s1, vI Dk, vF Dc0, vF Dc1, vF Dc2, vF z.t0, vF z.t1, vF ne, vF fa]) rfl Try.isAgg61 Try.sizeOf61 (((((((((((((((((((((((((((((r10.ext m8).ext m9).mod m10 (nC (lE (lL (lL r8.lt (lT m7.size m8.size)) lR)) nN)).ext m11).ext m12).ext m13).mod m14 (nC (lE (lL (lL r8.lt (lT (lT (lT (lT (lT m7.size m8.size) m9.size) m10.size) m11.size) m12.size)) lR)) nN)).ext m15).ext m16).ext md1).ext m17).ext m18).ext m19).ext m20).ext m21).ext m22).mod m23 (nC (lE (lL (lL r8.lt m7.size) ge7)) (nC (lE (lL (lL r8.lt m7.size) ge8)) nN))).mod m24 (nC (lE (lL (lL r8.lt (lT (lT (lT m7.size m8.size) m9.size) m10.size)) ge9)) nN)).ext m25).ext m26).mod m27 (nC (lE (lL (lL r8.lt (lT (lT (lT (lT m7.size m8.size) m9.size) m10.size) m11.size)) ge10)) (nC (lE (lL (lL r8.lt (lT (lT (lT (lT m7.size m8.size) m9.size) m10.size) m11.size)) ge11)) nN))).mod m28 (nC (lE (lL (lL r8.lt (lT (lT (lT (lT m7.size m8.size) m9.size) m10.size) m11.size)) ge12)) nN)).ext m29).ext m30).ext m31).ext m32).ext m33).ext m34).mod m35 (nC (lE (lL (lL r8.lt (lT (lT (lT (lT (lT (lT (lT (lT (lT (lT (lT (lT (lT (lT (lT (lT (lT (lT (lT (lT (lT (lT (lT (lT (lT (lT (lT m7.size m8.size) m9.size) m10.size) m11.size) m12.size) m13.size) m14.size) m15.size) m16.size) md1.size) m17.size) m18.size) m19.size) m20.size) m21.size) m22.size) m23.size) m24.size) m25.size) m26.size) m27.size) m28.size) m29.size) m30.size) m31.size) m32.size) m33.size)) lR)) nN)).rng rfl rfl rfl) rfl rfl rfl ?_
  refine WL.call (oc_call (vs := [.agg #[vS b'7 0 nTr c'3, vI ((z.i : Nat) : Int), vS d'3 0 nBr c2'3, vI ((z.h : Nat) : Int), vI Lk, vF Lc0, vF Lc1, vF Lc2, vF z.s0, vF z.s1, vI Dk, vF Dc0, vF Dc1, vF Dc2, vF z.t0, vF z.t1, vF ne, vF fa], .agg #[vS b'2 0 nTr c'1, vI ((z.i : Nat) : Int), vS d'1 0 nBr c2'1, vI ((z.h : Nat) : Int), vI Lk, vF Lc0, vF Lc1, vF Lc2, vF z.s0, vF z.s1, vI Dk, vF Dc0, vF Dc1, vF Dc2, vF z.t0, vF z.t1, vF ne, vF fa]]) (cap := []) rfl rfl rfl Try.call34 (c_eqJet nTr c'3 (some ⟨b'7, 0, none⟩) b'7 0 z.xs ((z.i : Nat) : Int) nBr c2'3 (some ⟨d'3, 0, none⟩) d'3 0 z.ys ((z.h : Nat) : Int) Lk Lc0 Lc0 Lc1 Lc1 Lc2 Lc2 z.s0 z.s0 z.s1 z.s1 Dk Dc0 Dc0 Dc1 Dc1 Dc2 Dc2 z.t0 z.t0 z.t1 z.t1 ne ne fa fa c'1 (some ⟨b'2, 0, none⟩) b'2 0 c2'1 (some ⟨d'1, 0, none⟩) d'1 0 Lc0 Lc1 Lc2 z.s0 z.s1 Dc0 Dc1 Dc2 z.t0 z.t1 ne fa h1 (fun _ => rfl) h2 (fun _ => rfl) (fun _ => rfl) (fun _ => rfl) rfl rfl rfl rfl rfl rfl rfl rfl rfl rfl rfl rfl rfl rfl rfl rfl rfl rfl rfl rfl rfl rfl rfl rfl (by omega) (by omega) w36 ((r35.ext m34).mod m35 (nC (lE (lL r35.lt lR)) nN)).rng ((r36.ext m34).mod m35 (nC (lE (lL r36.lt lR)) nN)).rng (((((((((((((((((((((((((((((((r5.ext m6).mod m7 (nC (lE (lL r5.lt lR)) nN)).ext m8).ext m9).mod m10 (nC (lE (lL (lL r5.lt (lT (lT m6.size m7.size) m8.size)) lR)) nN)).ext m11).ext m12).ext m13).mod m14 (nC (lE (lL (lL r5.lt (lT (lT (lT (lT (lT (lT m6.size m7.size) m8.size) m9.size) m10.size) m11.size) m12.size)) lR)) nN)).ext m15).ext m16).ext md1).ext m17).ext m18).ext m19).ext m20).ext m21).ext m22).mod m23 (nC (lE (lL (lL r5.lt (lT m6.size m7.size)) ge7)) (nC (lE (lL (lL r5.lt (lT m6.size m7.size)) ge8)) nN))).mod m24 (nC (lE (lL (lL r5.lt (lT (lT (lT (lT m6.size m7.size) m8.size) m9.size) m10.size)) ge9)) nN)).ext m25).ext m26).mod m27 (nC (lE (lL (lL r5.lt (lT (lT (lT (lT (lT m6.size m7.size) m8.size) m9.size) m10.size) m11.size)) ge10)) (nC (lE (lL (lL r5.lt (lT (lT (lT (lT (lT m6.size m7.size) m8.size) m9.size) m10.size) m11.size)) ge11)) nN))).mod m28 (nC (lE (lL (lL r5.lt (lT (lT (lT (lT (lT m6.size m7.size) m8.size) m9.size) m10.size) m11.size)) ge12)) nN)).ext m29).ext m30).ext m31).ext m32).ext m33).ext m34).mod m35 (nC (lE (lL (lL r5.lt (lT (lT (lT (lT (lT (lT (lT (lT (lT (lT (lT (lT (lT (lT (lT (lT (lT (lT (lT (lT (lT (lT (lT (lT (lT (lT (lT (lT m6.size m7.size) m8.size) m9.size) m10.size) m11.size) m12.size) m13.size) m14.size) m15.size) m16.size) md1.size) m17.size) m18.size) m19.size) m20.size) m21.size) m22.size) m23.size) m24.size) m25.size) m26.size) m27.size) m28.size) m29.size) m30.size) m31.size) m32.size) m33.size)) lR)) nN)).rng (((((((((((((((((((((((((((((((r6.ext m6).mod m7 (nC (lE (lL r6.lt lR)) nN)).ext m8).ext m9).mod m10 (nC (lE (lL (lL r6.lt (lT (lT m6.size m7.size) m8.size)) lR)) nN)).ext m11).ext m12).ext m13).mod m14 (nC (lE (lL (lL r6.lt (lT (lT (lT (lT (lT (lT m6.size m7.size) m8.size) m9.size) m10.size) m11.size) m12.size)) lR)) nN)).ext m15).ext m16).ext md1).ext m17).ext m18).ext m19).ext m20).ext m21).ext m22).mod m23 (nC (lE (lL (lL r6.lt (lT m6.size m7.size)) ge7)) (nC (lE (lL (lL r6.lt (lT m6.size m7.size)) ge8)) nN))).mod m24 (nC (lE (lL (lL r6.lt (lT (lT (lT (lT m6.size m7.size) m8.size) m9.size) m10.size)) ge9)) nN)).ext m25).ext m26).mod m27 (nC (lE (lL (lL r6.lt (lT (lT (lT (lT (lT m6.size m7.size) m8.size) m9.size) m10.size) m11.size)) ge10)) (nC (lE (lL (lL r6.lt (lT (lT (lT (lT (lT m6.size m7.size) m8.size) m9.size) m10.size) m11.size)) ge11)) nN))).mod m28 (nC (lE (lL (lL r6.lt (lT (lT (lT (lT (lT m6.size m7.size) m8.size) m9.size) m10.size) m11.size)) ge12)) nN)).ext m29).ext m30).ext m31).ext m32).ext m33).ext m34).mod m35 (nC (lE (lL (lL r6.lt (lT (lT (lT (lT (lT (lT (lT (lT (lT (lT (lT (lT (lT (lT (lT (lT (lT (lT (lT (lT (lT (lT (lT (lT (lT (lT (lT (lT m6.size m7.size) m8.size) m9.size) m10.size) m11.size) m12.size) m13.size) m14.size) m15.size) m16.size) md1.size) m17.size) m18.size) m19.size) m20.size) m21.size) m22.size) m23.size) m24.size) m25.size) m26.size) m27.size) m28.size) m29.size) m30.size) m31.size) m32.size) m33.size)) lR)) nN)).rng)) rfl rfl (ltb rfl) ?_
  rintro _ w37 ⟨rfl, m36⟩
  refine WL.det (op_not rfl) rfl rfl rfl ?_
  refine WL.det (op_move rfl) rfl rfl rfl ?_
  refine WL.yes rfl rfl rfl (ltb rfl) rfl rfl ?_
  refine WL.det (op_move rfl) rfl rfl rfl ?_
  refine WL.yes rfl rfl rfl (ltb rfl) rfl rfl ?_
  refine WL.det (op_move rfl) rfl rfl rfl ?_
  refine WL.yes rfl rfl rfl (ltb rfl) rfl rfl ?_
  refine WL.call (oc_call (vs := [.slice A'3 l c3'3, .slice A'1 l c3'1]) (cap := []) rfl rfl rfl Try.call43 (c_eq32_same l c3'3 A'3 e'3 0 ou c3'1 A'1 e'1 0 h3 h12 h4 (by omega) w37 (((r37.ext m34).mod m35 (nC (lE (lL r37.lt lR)) nN)).ext m36).rng ((((((((((((((((((((((((((((((((r7.ext m6).mod m7 (nC (lE (lL r7.lt lR)) nN)).ext m8).ext m9).mod m10 (nC (lE (lL (lL r7.lt (lT (lT m6.size m7.size) m8.size)) lR)) nN)).ext m11).ext m12).ext m13).mod m14 (nC (lE (lL (lL r7.lt (lT (lT (lT (lT (lT (lT m6.size m7.size) m8.size) m9.size) m10.size) m11.size) m12.size)) lR)) nN)).ext m15).ext m16).ext md1).ext m17).ext m18).ext m19).ext m20).ext m21).ext m22).mod m23 (nC (lE (lL (lL r7.lt (lT m6.size m7.size)) ge7)) (nC (lE (lL (lL r7.lt (lT m6.size m7.size)) ge8)) nN))).mod m24 (nC (lE (lL (lL r7.lt (lT (lT (lT (lT m6.size m7.size) m8.size) m9.size) m10.size)) ge9)) nN)).ext m25).ext m26).mod m27 (nC (lE (lL (lL r7.lt (lT (lT (lT (lT (lT m6.size m7.size) m8.size) m9.size) m10.size) m11.size)) ge10)) (nC (lE (lL (lL r7.lt (lT (lT (lT (lT (lT m6.size m7.size) m8.size) m9.size) m10.size) m11.size)) ge11)) nN))).mod m28 (nC (lE (lL (lL r7.lt (lT (lT (lT (lT (lT m6.size m7.size) m8.size) m9.size) m10.size) m11.size)) ge12)) nN)).ext m29).ext m30).ext m31).ext m32).ext m33).ext m34).mod m35 (nC (lE (lL (lL r7.lt (lT (lT (lT (lT (lT (lT (lT (lT (lT (lT (lT (lT (lT (lT (lT (lT (lT (lT (lT (lT (lT (lT (lT (lT (lT (lT (lT (lT m6.size m7.size) m8.size) m9.size) m10.size) m11.size) m12.size) m13.size) m14.size) m15.size) m16.size) md1.size) m17.size) m18.size) m19.size) m20.size) m21.size) m22.size) m23.size) m24.size) m25.size) m26.size) m27.size) m28.size) m29.size) m30.size) m31.size) m32.size) m33.size)) lR)) nN)).ext m36).rng)) rfl rfl (ltb rfl) ?_
  rintro _ w38 ⟨rfl, m37⟩
  refine WL.yes rfl rfl rfl (ltb rfl) rfl rfl ?_
  refine WL.det (op_not rfl) rfl rfl rfl ?_
  refine WL.det (op_pick_f rfl rfl rfl) rfl rfl rfl ?_
  refine WL.det (op_move rfl) rfl rfl rfl ?_
  refine WL.yes rfl rfl rfl (ltb rfl) rfl rfl ?_
  refine WL.det (op_move rfl) rfl rfl rfl ?_
  refine WL.yes rfl rfl rfl (ltb rfl) rfl rfl ?_
  refine WL.det (op_move rfl) rfl rfl rfl ?_
  refine WL.yes rfl rfl rfl (ltb rfl) rfl rfl ?_
  refine WL.det (op_nei rfl rfl) rfl rfl rfl ?_
  refine WL.det (op_pick_f rfl rfl rfl) rfl rfl rfl ?_
  refine WL.end ?_
  refine NE.code ?_
  refine CE.cond_f rfl rfl ?_
  refine CE.skip' ?_
  refine NE.code ?_
  refine CE.seq ?_
  refine CE.region ?_
  refine WL.det (op_assign rfl) rfl rfl rfl ?_
  refine WL.end ?_
  refine NE.code ?_
  refine CE.seq ?_
  refine CE.region ?_
  refine WL.det (op_loadA (i := 0) (cs := [vS b'4 0 nTr c'2, vI ((z.i : Nat) : Int), vS d'2 0 nBr c2'2, vI ((z.h : Nat) : Int), vI Lk, vF Lc0, vF Lc1, vF Lc2, vF z.s0, vF z.s1, vI Dk, vF Dc0, vF Dc1, vF Dc2, vF z.t0, vF z.t1, vF ne, vF fa]) rfl Try.isAgg61 Try.sizeOf61 ((((((((((((((((((((((((r22.ext m15).ext m16).ext md1).ext m17).ext m18).ext m19).ext m20).ext m21).ext m22).mod m23 (nC (lG (lL (lL r11.lt (lT (lT (lT m9.size m10.size) m11.size) m12.size)) lR)) (nC (lG (lL (lL r12.lt (lT (lT (lT m9.size m10.size) m11.size) m12.size)) lR)) nN))).mod m24 (nC (lG (lL (lL r16.lt m12.size) lR)) nN)).ext m25).ext m26).mod m27 (nC (lG (lL r17.lt lR)) (nC (lG (lL r18.lt lR)) nN))).mod m28 (nC (lG (lL r19.lt lR)) nN)).ext m29).ext m30).ext m31).ext m32).ext m33).ext m34).mod m35 (nC (lE (lL (lL r20.lt (lT (lT (lT (lT (lT (lT (lT (lT (lT (lT (lT (lT (lT (lT (lT (lT (lT (lT (lT (lT m14.size m15.size) m16.size) md1.size) m17.size) m18.size) m19.size) m20.size) m21.size) m22.size) m23.size) m24.size) m25.size) m26.size) m27.size) m28.size) m29.size) m30.size) m31.size) m32.size) m33.size)) lR)) nN)).ext m36).ext m37).rng rfl rfl rfl) rfl rfl rfl ?_
  refine WL.det (op_move rfl) rfl rfl rfl ?_
  refine WL.call (oc_call (vs := [.agg #[vS b'4 0 nTr c'2, vI ((z.i : Nat) : Int), vS d'2 0 nBr c2'2, vI ((z.h : Nat) : Int), vI Lk, vF Lc0, vF Lc1, vF Lc2, vF z.s0, vF z.s1, vI Dk, vF Dc0, vF Dc1, vF Dc2, vF z.t0, vF z.t1, vF ne, vF fa], vI 1]) (cap := []) rfl rfl rfl Try.call37 (c_heldJet nTr c'2 b'4 (marks z.xs 1 nTr) ((z.i : Nat) : Int) nBr c2'2 d'2 (marks z.ys (1 + nTr) nBr) ((z.h : Nat) : Int) Lk Lc0 Lc1 Lc2 z.s0 z.s1 Dk Dc0 Dc1 Dc2 z.t0 z.t1 ne fa 1 (marks_len h5 (Nat.le_refl _)) (marks_len h6 (Nat.le_refl _)) (by omega) (by omega) (by omega) (by first | assumption | exact marks_held _ _ _) (by first | assumption | exact marks_held _ _ _) w38 ((((((((((r29.mod m28 (nC ne7 nN)).ext m29).ext m30).ext m31).ext m32).ext m33).ext m34).mod m35 (nC (lE (lL (lL r17.lt (lT (lT (lT (lT (lT (lT (lT (lT (lT (lT (lT (lT (lT (lT (lT (lT (lT (lT (lT (lT (lT m13.size m14.size) m15.size) m16.size) md1.size) m17.size) m18.size) m19.size) m20.size) m21.size) m22.size) m23.size) m24.size) m25.size) m26.size) m27.size) m28.size) m29.size) m30.size) m31.size) m32.size) m33.size)) lR)) nN)).ext m36).ext m37).rng ((((((((((r30.mod m28 (nC ne8 nN)).ext m29).ext m30).ext m31).ext m32).ext m33).ext m34).mod m35 (nC (lE (lL (lL r18.lt (lT (lT (lT (lT (lT (lT (lT (lT (lT (lT (lT (lT (lT (lT (lT (lT (lT (lT (lT (lT (lT m13.size m14.size) m15.size) m16.size) md1.size) m17.size) m18.size) m19.size) m20.size) m21.size) m22.size) m23.size) m24.size) m25.size) m26.size) m27.size) m28.size) m29.size) m30.size) m31.size) m32.size) m33.size)) lR)) nN)).ext m36).ext m37).rng)) rfl rfl (ltb rfl) ?_
  rintro _ w39 ⟨rfl, m38⟩
  refine WL.det (op_assign rfl) rfl rfl rfl ?_
  refine WL.end ?_
  refine NE.code ?_
  refine CE.seq ?_
  refine CE.seq ?_
  refine CE.region ?_
  refine WL.det (op_move rfl) rfl rfl rfl ?_
  refine WL.det (op_lti_f rfl rfl (by omega)) rfl rfl rfl ?_
  refine WL.end ?_
  refine NE.code ?_
  refine CE.cond_f rfl rfl ?_
  refine CE.skip' ?_
  refine NE.code ?_
  refine CE.seq ?_
  refine CE.region ?_
  refine WL.det (op_move rfl) rfl rfl rfl ?_
  refine WL.det (op_move rfl) rfl rfl rfl ?_
  refine WL.call (oc_call (vs := [.slice A'2 l c3'2, vI ((1 + nTr + nBr : Nat) : Int)]) (cap := []) rfl rfl rfl Try.call45 (c_held32 l c3'2 A'2 e'2 0 (marks ou (1 + nTr + nBr) l) (1 + nTr + nBr) (marks_len h7 (Nat.le_refl _)) h8 (by omega) (by omega) (by first | assumption | exact marks_held _ _ _) w39 ((((((((((r31.ext m29).ext m30).ext m31).ext m32).ext m33).ext m34).mod m35 (nC (lE (lL (lL r19.lt (lT (lT (lT (lT (lT (lT (lT (lT (lT (lT (lT (lT (lT (lT (lT (lT (lT (lT (lT (lT (lT m13.size m14.size) m15.size) m16.size) md1.size) m17.size) m18.size) m19.size) m20.size) m21.size) m22.size) m23.size) m24.size) m25.size) m26.size) m27.size) m28.size) m29.size) m30.size) m31.size) m32.size) m33.size)) lR)) nN)).ext m36).ext m37).ext m38).rng)) rfl rfl (ltb rfl) ?_
  rintro _ w40 ⟨rfl, m39⟩
  refine WL.det (op_assign rfl) rfl rfl rfl ?_
  refine WL.end ?_
  refine NE.code ?_
  refine CE.seq ?_
  refine CE.seq ?_
  refine CE.region ?_
  refine WL.det (op_move rfl) rfl rfl rfl ?_
  refine WL.det (op_lti_f rfl rfl (by omega)) rfl rfl rfl ?_
  refine WL.end ?_
  refine NE.code ?_
  refine CE.cond_f rfl rfl ?_
  refine CE.skip' ?_
  refine NE.code ?_
  refine CE.seq ?_
  refine CE.seq ?_
  refine CE.region ?_
  refine WL.det (op_move rfl) rfl rfl rfl ?_
  refine WL.det (op_move rfl) rfl rfl rfl ?_
  refine WL.det (op_nei_f rfl rfl rfl) rfl rfl rfl ?_
  refine WL.end ?_
  refine NE.code ?_
  refine CE.cond_f rfl rfl ?_
  refine CE.skip' ?_
  refine NE.code ?_
  refine CE.seq ?_
  refine CE.region ?_
  refine WL.det (op_assign rfl) rfl rfl rfl ?_
  refine WL.end ?_
  refine NE.code ?_
  refine CE.ret' ?_
  refine XE.leave1 Try.results8 rfl ?_
  refine ⟨rfl, (((((((((((((((((((((((((((((((((((((((((Mod.refl [] w).nt m1).nt m2).nt m3).nt m4).nt m5).nt m6).then m7 ((aC (.inr (lT (lT (lT (lT (lT m1.size m2.size) m3.size) m4.size) m5.size) lR)) aN))).nt m8).nt m9).then m10 ((aC (.inr (lT (lT (lT (lT (lT (lT (lT (lT m1.size m2.size) m3.size) m4.size) m5.size) m6.size) m7.size) m8.size) lR)) aN))).nt m11).nt m12).nt m13).then m14 ((aC (.inr (lT (lT (lT (lT (lT (lT (lT (lT (lT (lT (lT (lT m1.size m2.size) m3.size) m4.size) m5.size) m6.size) m7.size) m8.size) m9.size) m10.size) m11.size) m12.size) lR)) aN))).nt m15).nt m16).nt md1).nt m17).nt m18).nt m19).nt m20).nt m21).nt m22).then m23 ((aC (.inr (lT (lT (lT (lT (lT (lT (lT m1.size m2.size) m3.size) m4.size) m5.size) m6.size) m7.size) ge7)) (aC (.inr (lT (lT (lT (lT (lT (lT (lT m1.size m2.size) m3.size) m4.size) m5.size) m6.size) m7.size) ge8)) aN)))).then m24 ((aC (.inr (lT (lT (lT (lT (lT (lT (lT (lT (lT (lT m1.size m2.size) m3.size) m4.size) m5.size) m6.size) m7.size) m8.size) m9.size) m10.size) ge9)) aN))).nt m25).nt m26).then m27 ((aC (.inr (lT (lT (lT (lT (lT (lT (lT (lT (lT (lT (lT m1.size m2.size) m3.size) m4.size) m5.size) m6.size) m7.size) m8.size) m9.size) m10.size) m11.size) ge10)) (aC (.inr (lT (lT (lT (lT (lT (lT (lT (lT (lT (lT (lT m1.size m2.size) m3.size) m4.size) m5.size) m6.size) m7.size) m8.size) m9.size) m10.size) m11.size) ge11)) aN)))).then m28 ((aC (.inr (lT (lT (lT (lT (lT (lT (lT (lT (lT (lT (lT m1.size m2.size) m3.size) m4.size) m5.size) m6.size) m7.size) m8.size) m9.size) m10.size) m11.size) ge12)) aN))).nt m29).nt m30).nt m31).nt m32).nt m33).nt m34).then m35 ((aC (.inr (lT (lT (lT (lT (lT (lT (lT (lT (lT (lT (lT (lT (lT (lT (lT (lT (lT (lT (lT (lT (lT (lT (lT (lT (lT (lT (lT (lT (lT (lT (lT (lT (lT (lT m1.size m2.size) m3.size) m4.size) m5.size) m6.size) m7.size) m8.size) m9.size) m10.size) m11.size) m12.size) m13.size) m14.size) m15.size) m16.size) md1.size) m17.size) m18.size) m19.size) m20.size) m21.size) m22.size) m23.size) m24.size) m25.size) m26.size) m27.size) m28.size) m29.size) m30.size) m31.size) m32.size) m33.size) lR)) aN))).nt m36).nt m37).nt m38).nt m39)⟩

end Go.Proofs.Ytkgdhlhmckdcmaa
