/- The law on the blocks of pipes, walked. -/
import Derived.Test.YtnahhdnkbbdceaaN12
import Derived.Test.YtnahhdnkbbdceaaE34
import Derived.Test.YtnahhdnkbbdceaaE26
import Derived.Test.YtnahhdnkbbdceaaE14
import Derived.Test.YtnahhdnkbbdceaaE8
import Derived.Test.YtnahhdnkbbdceaaE20
set_option linter.unusedVariables false
set_option linter.unusedSimpArgs false
set_option maxRecDepth 100000
set_option maxHeartbeats 8000000
namespace Go.Proofs.Ytnahhdnkbbdceaa

theorem law_pbl_b1 (nu : Nat) (cu : Nat) (Au : Option Addr) (bu : Nat) (ou : Nat) (xsu : List Nat) (nv : Nat) (cv : Nat) (Av : Option Addr) (bv : Nat) (ov : Nat) (xsv : List Nat) (lnu : xsu.length = nu) (hAu : 0 < nu → Au = some ⟨bu, ou, none⟩) (hBu : ∀ i, xsu.getD i 0 < 256) (lnv : xsv.length = nv) (hAv : 0 < nv → Av = some ⟨bv, ov, none⟩) (hBv : ∀ i, xsv.getD i 0 < 256) (hnu : 4096 < nu) (w : World) (ru : Rng w bu ou (bys xsu)) (rv : Rng w bv ov (bys xsv)) : Cl Try.prog 9 #[.slice Au nu cu, .slice Av nv cv] w fun v w' => v = .bool true ∧ Mod [] w w' := by
 refine Cl.of Try.func9 Try.ntmps9 rfl rfl (ρ := [(0, .slice Au nu cu), (1, .slice Av nv cv)]) rfl ?_
 refine CE.seq (CE.region ?_)
 refine WD (op_assign rfl) rfl ?_
 refine WL.end (NE.code (CE.seq (CE.seq (CE.region ?_))))
 refine WD (op_move rfl) rfl ?_
 refine WL.call (oc_call (vs := [.slice Au nu cu]) (cap := []) rfl rfl rfl Try.call13 (c_f6big nu cu Au w)) rfl rfl (ltb rfl) ?_
 rintro _ _ ⟨rfl, rfl⟩
 refine WD (op_move rfl) rfl ?_
 iterate 2 refine WL.no rfl rfl rfl (ltb rfl) rfl (decide_eq_true (by omega)) rfl (ltb rfl) ?_
 refine WD (op_pick_t rfl (decide_eq_true (by omega)) rfl) rfl ?_
 refine WL.end (NE.code ?_)
 refine CE.cond_t rfl rfl ?_
 refine CE.seq (CE.region ?_)
 refine WD (op_assign rfl) rfl ?_
 refine WL.end (NE.code (CE.ret' (XE.ret_then ?_)))
 refine XE.leave1 Try.results9 rfl ?_
 refine ⟨rfl, (Mod.refl [] w)⟩

theorem law_pbl_b2 (nu : Nat) (cu : Nat) (Au : Option Addr) (bu : Nat) (ou : Nat) (xsu : List Nat) (nv : Nat) (cv : Nat) (Av : Option Addr) (bv : Nat) (ov : Nat) (xsv : List Nat) (lnu : xsu.length = nu) (hAu : 0 < nu → Au = some ⟨bu, ou, none⟩) (hBu : ∀ i, xsu.getD i 0 < 256) (lnv : xsv.length = nv) (hAv : 0 < nv → Av = some ⟨bv, ov, none⟩) (hBv : ∀ i, xsv.getD i 0 < 256) (hnu : nu ≤ 4096) (hnv : 4096 < nv) (w : World) (ru : Rng w bu ou (bys xsu)) (rv : Rng w bv ov (bys xsv)) : Cl Try.prog 9 #[.slice Au nu cu, .slice Av nv cv] w fun v w' => v = .bool true ∧ Mod [] w w' := by
 refine Cl.of Try.func9 Try.ntmps9 rfl rfl (ρ := [(0, .slice Au nu cu), (1, .slice Av nv cv)]) rfl ?_
 refine CE.seq (CE.region ?_)
 refine WD (op_assign rfl) rfl ?_
 refine WL.end (NE.code (CE.seq (CE.seq (CE.region ?_))))
 refine WD (op_move rfl) rfl ?_
 refine WL.call (oc_call (vs := [.slice Au nu cu]) (cap := []) rfl rfl rfl Try.call13 (c_f6big nu cu Au w)) rfl rfl (ltb rfl) ?_
 rintro _ _ ⟨rfl, rfl⟩
 refine WD (op_move rfl) rfl ?_
 refine WL.yes rfl rfl rfl (ltb rfl) rfl (decide_eq_false (by omega)) ?_
 refine WD (op_move rfl) rfl ?_
 refine WL.yes rfl rfl rfl (ltb rfl) rfl (decide_eq_false (by omega)) ?_
 refine WL.call (oc_call (vs := [.slice Av nv cv]) (cap := []) rfl rfl rfl Try.call13 (c_f6big nv cv Av w)) rfl rfl (ltb rfl) ?_
 rintro _ _ ⟨rfl, rfl⟩
 refine WD (op_pick_f rfl (decide_eq_false (by omega)) rfl) rfl ?_
 refine WL.end (NE.code ?_)
 refine CE.cond_t rfl (decide_eq_true (by omega)) ?_
 refine CE.seq (CE.region ?_)
 refine WD (op_assign rfl) rfl ?_
 refine WL.end (NE.code (CE.ret' (XE.ret_then ?_)))
 refine XE.leave1 Try.results9 rfl ?_
 refine ⟨rfl, (Mod.refl [] w)⟩

theorem law_pbl (nu : Nat) (cu : Nat) (Au : Option Addr) (bu : Nat) (ou : Nat) (xsu : List Nat) (nv : Nat) (cv : Nat) (Av : Option Addr) (bv : Nat) (ov : Nat) (xsv : List Nat) (lnu : xsu.length = nu) (hAu : 0 < nu → Au = some ⟨bu, ou, none⟩) (hBu : ∀ i, xsu.getD i 0 < 256) (lnv : xsv.length = nv) (hAv : 0 < nv → Av = some ⟨bv, ov, none⟩) (hBv : ∀ i, xsv.getD i 0 < 256) (hnu : nu ≤ 4096) (hnv : nv ≤ 4096) (w : World) (ru : Rng w bu ou (bys xsu)) (rv : Rng w bv ov (bys xsv)) : Cl Try.prog 9 #[.slice Au nu cu, .slice Av nv cv] w fun v w' => v = .bool true ∧ Mod [] w w' := by
 refine Cl.of Try.func9 Try.ntmps9 rfl rfl (ρ := [(0, .slice Au nu cu), (1, .slice Av nv cv)]) rfl ?_
 refine CE.seq (CE.region ?_)
 refine WD (op_assign rfl) rfl ?_
 refine WL.end (NE.code (CE.seq (CE.seq (CE.region ?_))))
 refine WD (op_move rfl) rfl ?_
 refine WL.call (oc_call (vs := [.slice Au nu cu]) (cap := []) rfl rfl rfl Try.call13 (c_f6big nu cu Au w)) rfl rfl (ltb rfl) ?_
 rintro _ _ ⟨rfl, rfl⟩
 refine WD (op_move rfl) rfl ?_
 refine WL.yes rfl rfl rfl (ltb rfl) rfl (decide_eq_false (by omega)) ?_
 refine WD (op_move rfl) rfl ?_
 refine WL.yes rfl rfl rfl (ltb rfl) rfl (decide_eq_false (by omega)) ?_
 refine WL.call (oc_call (vs := [.slice Av nv cv]) (cap := []) rfl rfl rfl Try.call13 (c_f6big nv cv Av w)) rfl rfl (ltb rfl) ?_
 rintro _ _ ⟨rfl, rfl⟩
 refine WD (op_pick_f rfl (decide_eq_false (by omega)) rfl) rfl ?_
 refine WL.end (NE.code ?_)
 refine CE.cond_f rfl (decide_eq_false (by omega)) ?_
 refine CE.skip' (NE.code (CE.seq (CE.region ?_)))
 refine WD (op_move rfl) rfl ?_
 refine WL.call (oc_call (vs := [.slice Au nu cu]) (cap := []) rfl rfl rfl Try.call33 (c_P6Pipe nu cu Au bu ou xsu lnu hAu hBu (by omega) w ru)) rfl rfl (ltb rfl) ?_
 rintro _ w1 ⟨bR'1, cR'1, PR'1, bL'1, cL'1, PL'1, bS'1, cS'1, nR1, nS1, xS1, kc1, kc2, op1, lo1, re1, sl1, zz1, rfl, h1, h2, h3, h4, h5, h6, r1, r2, r3, ge1, ge2, ge3, ne1, ne2, ne3, fm1, fn1, fn2, fn3, fn4, fm2, fn5, fn6, fn7, m1⟩
 refine WL.op (op_alloc (cs := [.slice none 0 0, .slice none 0 0, .slice none 0 0, vI 0, vF 0, vF 0, vF 0, vF 0, vF 0, .bool false, vF 0, vF 0, vF 0]) Try.zeroValue33 rfl) rfl rfl (ltb rfl) ?_
 rintro _ w2 ⟨rfl, r4, m2, z1⟩
 refine WL.op0 (op_store (i := 0) (cs := [vS bR'1 0 nR1 cR'1, vS bL'1 0 nR1 cL'1, vS bS'1 0 nS1 cS'1, vI 1, vF kc1, vF kc2, vF 0, vF (zz1.s0), vF (zz1.s1), .bool op1, vF lo1, vF re1, vF sl1]) rfl rfl rfl Try.sizeOf33 rfl r4 rfl (lB rfl) rfl) rfl rfl ?_
 rintro _ w3 ⟨r5, m3, z2⟩
 have r6 : Row w3 w1.heap.size 0 [vS bR'1 0 nR1 cR'1, vS bL'1 0 nR1 cL'1, vS bS'1 0 nS1 cS'1, vI 1, vF kc1, vF kc2, vF 0, vF (zz1.s0), vF (zz1.s1), .bool op1, vF lo1, vF re1, vF sl1] := Row.congr r5 rfl
 refine WL.end (NE.code (CE.seq (CE.region ?_)))
 refine WD (op_move rfl) rfl ?_
 have r7 := (Rng.youngS rv ((rv.ext m1).ext m2) m3 (allge_cons (lT m1.size lR) allge_nil))
 refine WL.call (oc_call (vs := [.slice Av nv cv, vI 16]) (cap := []) rfl rfl rfl Try.call18 (c_P6PlainsV nv cv Av bv ov xsv lnv hAv hBv (by omega) w3 r7)) rfl rfl (ltb rfl) ?_
 rintro _ w4 ⟨Lq1, b'1, c'1, rfl, h7, h8, h9, h10, r8, ge4, m4⟩
 refine WD (op_assign rfl) rfl ?_
 refine WL.end (NE.code (CE.seq (CE.region ?_)))
 refine WD (op_loadA (i := 0) (cs := [vS bR'1 0 nR1 cR'1, vS bL'1 0 nR1 cL'1, vS bS'1 0 nS1 cS'1, vI 1, vF kc1, vF kc2, vF 0, vF (zz1.s0), vF (zz1.s1), .bool op1, vF lo1, vF re1, vF sl1]) rfl Try.isAgg33 Try.sizeOf33 (r6.ext m4).rng rfl rfl rfl) rfl ?_
 refine WD (op_move rfl) rfl ?_
 have r9 := (((r1.ext m2).mod m3 (nC (lE (lL r1.lt lR)) nN)).ext m4)
 have r10 := (((r2.ext m2).mod m3 (nC (lE (lL r2.lt lR)) nN)).ext m4)
 have r11 := (((r3.ext m2).mod m3 (nC (lE (lL r3.lt lR)) nN)).ext m4)
 refine WL.call (oc_call (vs := [.agg #[vS bR'1 0 nR1 cR'1, vS bL'1 0 nR1 cL'1, vS bS'1 0 nS1 cS'1, vI 1, vF kc1, vF kc2, vF 0, vF (zz1.s0), vF (zz1.s1), .bool op1, vF lo1, vF re1, vF sl1], vS b'1 0 16 c'1]) (cap := []) rfl rfl rfl Try.call21 (c_iPlayZ nR1 nS1 xS1 kc1 kc2 op1 lo1 re1 sl1 zz1 cR'1 bR'1 PR'1 w.heap.size cL'1 bL'1 PL'1 w.heap.size cS'1 bS'1 16 c'1 (some ⟨b'1, 0, none⟩) b'1 0 Lq1 (by first | with_reducible assumption | exact DPz.mono (by with_reducible assumption) (by omega) | exact zTo_dz (by with_reducible assumption) (by with_reducible assumption) (by with_reducible first | assumption | exact bd_take (by assumption) _) (by omega)) h4 h5 h1 h2 h6 h7 (fun _ => rfl) h8 (by omega) w4 r9.rng r10.rng r11.rng r8.rng (((fm1.ext m2).mod m3 (fun j hj => (nC (lE (lL (OF.lt fm1 (lQ (lQ hj h4) h4.symm)) lR)) nN))).ext m4) (((fm2.ext m2).mod m3 (fun j hj => (nC (lE (lL (OF.lt fm2 (lQ (lQ hj h5) h5.symm)) lR)) nN))).ext m4))) rfl rfl (ltb rfl) ?_
 rintro _ w5 ⟨bR'2, cR'2, PR'2, bL'2, cL'2, PL'2, bS'2, cS'2, zz2, e'1, c3'1, A'1, ys1, rfl, h11, h12, h13, h14, h15, h16, h17, h18, h19, h20, r12, r13, r14, r15, ge5, ge6, ge7, ge8, ne4, ne5, ne6, ne7, ne8, ne9, fm3, fn8, fn9, fn10, fn11, fn12, fm4, fn13, fn14, fn15, fn16, m5⟩
 refine WD (op_move rfl) rfl ?_
 iterate 3 refine WD (op_extract rfl rfl) rfl ?_
 refine WL.op (op_alloc (cs := [.slice none 0 0, .slice none 0 0, .slice none 0 0, vI 0, vF 0, vF 0, vF 0, vF 0, vF 0, .bool false, vF 0, vF 0, vF 0]) Try.zeroValue33 rfl) rfl rfl (ltb rfl) ?_
 rintro _ w6 ⟨rfl, r16, m6, z3⟩
 refine WL.op0 (op_store (i := 0) (cs := [vS bR'2 0 nR1 cR'2, vS bL'2 0 nR1 cL'2, vS bS'2 0 nS1 cS'2, vI 1, vF kc1, vF kc2, vF 0, vF (zz2.s0), vF (zz2.s1), .bool op1, vF lo1, vF re1, vF sl1]) rfl rfl rfl Try.sizeOf33 rfl r16 rfl (lB rfl) rfl) rfl rfl ?_
 rintro _ w7 ⟨r17, m7, z4⟩
 have r18 : Row w7 w5.heap.size 0 [vS bR'2 0 nR1 cR'2, vS bL'2 0 nR1 cL'2, vS bS'2 0 nS1 cS'2, vI 1, vF kc1, vF kc2, vF 0, vF (zz2.s0), vF (zz2.s1), .bool op1, vF lo1, vF re1, vF sl1] := Row.congr r17 rfl
 iterate 2 refine WD (op_assign rfl) rfl ?_
 refine WL.end (NE.code (CE.seq (CE.region ?_)))
 have sz1 := SzLe.mk (lT (lT m3.size m4.size) m5.size)
 have r19 := ((((r6.ext m4).ext m5).ext m6).mod m7 (nC (lE (lL (lL r4.lt sz1) lR)) nN))
 refine WD (op_loadA (i := 0) (cs := [vS bR'1 0 nR1 cR'1, vS bL'1 0 nR1 cL'1, vS bS'1 0 nS1 cS'1, vI 1, vF kc1, vF kc2, vF 0, vF (zz1.s0), vF (zz1.s1), .bool op1, vF lo1, vF re1, vF sl1]) rfl Try.isAgg33 Try.sizeOf33 r19.rng rfl rfl rfl) rfl ?_
 refine WD (op_move rfl) rfl ?_
 have sz2 := SzLe.mk (lT (lT (lT m2.size m3.size) m4.size) m5.size)
 have r20 := (((r9.ext m5).ext m6).mod m7 (nC (lE (lL (lL r1.lt sz2) lR)) nN))
 have r21 := (((r10.ext m5).ext m6).mod m7 (nC (lE (lL (lL r2.lt sz2) lR)) nN))
 have r22 := (((r11.ext m5).ext m6).mod m7 (nC (lE (lL (lL r3.lt sz2) lR)) nN))
 have r23 := (((r8.ext m5).ext m6).mod m7 (nC (lE (lL (lL r8.lt m5.size) lR)) nN))
 refine WL.call (oc_call (vs := [.agg #[vS bR'1 0 nR1 cR'1, vS bL'1 0 nR1 cL'1, vS bS'1 0 nS1 cS'1, vI 1, vF kc1, vF kc2, vF 0, vF (zz1.s0), vF (zz1.s1), .bool op1, vF lo1, vF re1, vF sl1], vS b'1 0 16 c'1]) (cap := []) rfl rfl rfl Try.call17 (c_sPlayZ nR1 nS1 xS1 kc1 kc2 op1 lo1 re1 sl1 zz1 cR'1 bR'1 PR'1 w.heap.size cL'1 bL'1 PL'1 w.heap.size cS'1 bS'1 16 c'1 (some ⟨b'1, 0, none⟩) b'1 0 Lq1 (by first | with_reducible assumption | exact DPz.mono (by with_reducible assumption) (by omega) | exact zTo_dz (by with_reducible assumption) (by with_reducible assumption) (by with_reducible first | assumption | exact bd_take (by assumption) _) (by omega)) h4 h5 h1 h2 h6 h7 (fun _ => rfl) h8 (by omega) w7 r20.rng r21.rng r22.rng r23.rng ((((((fm1.ext m2).mod m3 (fun j hj => (nC (lE (lL (OF.lt fm1 (lQ (lQ hj h4) h4.symm)) lR)) nN))).ext m4).ext m5).ext m6).mod m7 (fun j hj => (nC (lE (lL (OF.lt fm1 (lQ (lQ hj h4) h4.symm)) (lT sz2 lR))) nN))) ((((((fm2.ext m2).mod m3 (fun j hj => (nC (lE (lL (OF.lt fm2 (lQ (lQ hj h5) h5.symm)) lR)) nN))).ext m4).ext m5).ext m6).mod m7 (fun j hj => (nC (lE (lL (OF.lt fm2 (lQ (lQ hj h5) h5.symm)) (lT sz2 lR))) nN))))) rfl rfl (ltb rfl) ?_
 rintro _ w8 ⟨bR'3, cR'3, PR'3, bL'3, cL'3, PL'3, bS'3, cS'3, zz3, e'2, c3'2, A'2, ys2, rfl, h21, h22, h23, h24, h25, h26, h27, h28, h29, h30, r24, r25, r26, r27, ge9, ge10, ge11, ge12, ne10, ne11, ne12, ne13, ne14, ne15, fm5, fn17, fn18, fn19, fn20, fn21, fm6, fn22, fn23, fn24, fn25, m8⟩
 refine WD (op_move rfl) rfl ?_
 iterate 3 refine WD (op_extract rfl rfl) rfl ?_
 refine WL.op (op_alloc (cs := [.slice none 0 0, .slice none 0 0, .slice none 0 0, vI 0, vF 0, vF 0, vF 0, vF 0, vF 0, .bool false, vF 0, vF 0, vF 0]) Try.zeroValue33 rfl) rfl rfl (ltb rfl) ?_
 rintro _ w9 ⟨rfl, r28, m9, z5⟩
 refine WL.op0 (op_store (i := 0) (cs := [vS bR'3 0 nR1 cR'3, vS bL'3 0 nR1 cL'3, vS bS'3 0 nS1 cS'3, vI 1, vF kc1, vF kc2, vF 0, vF (zz3.s0), vF (zz3.s1), .bool op1, vF lo1, vF re1, vF sl1]) rfl rfl rfl Try.sizeOf33 rfl r28 rfl (lB rfl) rfl) rfl rfl ?_
 rintro _ w10 ⟨r29, m10, z6⟩
 have r30 : Row w10 w8.heap.size 0 [vS bR'3 0 nR1 cR'3, vS bL'3 0 nR1 cL'3, vS bS'3 0 nS1 cS'3, vI 1, vF kc1, vF kc2, vF 0, vF (zz3.s0), vF (zz3.s1), .bool op1, vF lo1, vF re1, vF sl1] := Row.congr r29 rfl
 iterate 2 refine WD (op_assign rfl) rfl ?_
 refine WL.end (NE.code (CE.seq (CE.seq (CE.region ?_))))
 iterate 2 refine WD (op_move rfl) rfl ?_
 refine WD (op_nei rfl rfl) rfl ?_
 refine WD (op_move rfl) rfl ?_
 refine WL.yes rfl rfl rfl (ltb rfl) rfl rfl ?_
 refine WD (op_move rfl) rfl ?_
 refine WL.yes rfl rfl rfl (ltb rfl) rfl rfl ?_
 refine WD (op_nei rfl rfl) rfl ?_
 refine WD (op_pick_f rfl rfl rfl) rfl ?_
 refine WD (op_move rfl) rfl ?_
 have r31 := (((r18.ext m8).ext m9).mod m10 (nC (lE (lL (lL r16.lt (lT m7.size m8.size)) lR)) nN))
 refine WL.yes rfl rfl rfl (ltb rfl) rfl rfl ?_
 refine WD (op_loadA (i := 0) (cs := [vS bR'2 0 nR1 cR'2, vS bL'2 0 nR1 cL'2, vS bS'2 0 nS1 cS'2, vI 1, vF kc1, vF kc2, vF 0, vF (zz2.s0), vF (zz2.s1), .bool op1, vF lo1, vF re1, vF sl1]) rfl Try.isAgg33 Try.sizeOf33 r31.rng rfl rfl rfl) rfl ?_
 refine WL.yes rfl rfl rfl (ltb rfl) rfl rfl ?_
 refine WD (op_loadA (i := 0) (cs := [vS bR'3 0 nR1 cR'3, vS bL'3 0 nR1 cL'3, vS bS'3 0 nS1 cS'3, vI 1, vF kc1, vF kc2, vF 0, vF (zz3.s0), vF (zz3.s1), .bool op1, vF lo1, vF re1, vF sl1]) rfl Try.isAgg33 Try.sizeOf33 r30.rng rfl rfl rfl) rfl ?_
 have sz3 := SzLe.mk (lT (lT m6.size m7.size) m8.size)
 have r32 := (((((r12.ext m6).mod m7 (nC (lE (lL r12.lt lR)) nN)).ext m8).ext m9).mod m10 (nC (lE (lL (lL r12.lt sz3) lR)) nN))
 have r33 := (((((r13.ext m6).mod m7 (nC (lE (lL r13.lt lR)) nN)).ext m8).ext m9).mod m10 (nC (lE (lL (lL r13.lt sz3) lR)) nN))
 have r34 := (((((r14.ext m6).mod m7 (nC (lE (lL r14.lt lR)) nN)).ext m8).ext m9).mod m10 (nC (lE (lL (lL r14.lt sz3) lR)) nN))
 refine WL.yes rfl rfl rfl (ltb rfl) rfl rfl ?_
 refine WL.call (oc_call (vs := [.agg #[vS bR'2 0 nR1 cR'2, vS bL'2 0 nR1 cL'2, vS bS'2 0 nS1 cS'2, vI 1, vF kc1, vF kc2, vF 0, vF (zz2.s0), vF (zz2.s1), .bool op1, vF lo1, vF re1, vF sl1], .agg #[vS bR'3 0 nR1 cR'3, vS bL'3 0 nR1 cL'3, vS bS'3 0 nS1 cS'3, vI 1, vF kc1, vF kc2, vF 0, vF (zz3.s0), vF (zz3.s1), .bool op1, vF lo1, vF re1, vF sl1]]) (cap := []) rfl rfl rfl Try.call37 (c_SamePipeX nR1 nS1 xS1 kc1 kc2 op1 lo1 re1 sl1 zz2 cR'2 bR'2 PR'2 w4.heap.size cL'2 bL'2 PL'2 w4.heap.size cS'2 bS'2 zz3 cR'3 bR'3 PR'3 w7.heap.size cL'3 bL'3 PL'3 w7.heap.size cS'3 bS'3 (by first | with_reducible assumption | exact DPz.mono (by with_reducible assumption) (by omega) | exact zTo_dz (by with_reducible assumption) (by with_reducible assumption) (by with_reducible first | assumption | exact bd_take (by assumption) _) (by omega)) h14 h15 h11 h12 h26 h21 h22 (by first | (with_reducible rfl) | with_reducible assumption | exact eqT (by with_reducible assumption) (by with_reducible assumption) | exact zTo_back (by with_reducible assumption) (by with_reducible assumption) (by with_reducible assumption) (by omega) | exact zTo_over (by with_reducible assumption) (by with_reducible assumption) (by omega)) h24 h25 w10 r32.rng r33.rng r34.rng ((r24.ext m9).mod m10 (nC (lE (lL r24.lt lR)) nN)).rng ((r25.ext m9).mod m10 (nC (lE (lL r25.lt lR)) nN)).rng ((r26.ext m9).mod m10 (nC (lE (lL r26.lt lR)) nN)).rng (((((fm3.ext m6).mod m7 (fun j hj => (nC (lE (lL (OF.lt fm3 (lQ (lQ hj h14) h14.symm)) lR)) nN))).ext m8).ext m9).mod m10 (fun j hj => (nC (lE (lL (OF.lt fm3 (lQ (lQ hj h14) h14.symm)) (lT sz3 lR))) nN))) (((((fm4.ext m6).mod m7 (fun j hj => (nC (lE (lL (OF.lt fm4 (lQ (lQ hj h15) h15.symm)) lR)) nN))).ext m8).ext m9).mod m10 (fun j hj => (nC (lE (lL (OF.lt fm4 (lQ (lQ hj h15) h15.symm)) (lT sz3 lR))) nN))) ((fm5.ext m9).mod m10 (fun j hj => (nC (lE (lL (OF.lt fm5 (lQ (lQ hj h24) h24.symm)) lR)) nN))) ((fm6.ext m9).mod m10 (fun j hj => (nC (lE (lL (OF.lt fm6 (lQ (lQ hj h25) h25.symm)) lR)) nN))))) rfl rfl (ltb rfl) ?_
 rintro _ w11 ⟨rfl, m11⟩
 refine WL.yes rfl rfl rfl (ltb rfl) rfl rfl ?_
 refine WD (op_not rfl) rfl ?_
 refine WD (op_pick_f rfl rfl rfl) rfl ?_
 refine WD (op_move rfl) rfl ?_
 refine WL.yes rfl rfl rfl (ltb rfl) rfl rfl ?_
 refine WD (op_move rfl) rfl ?_
 refine WL.yes rfl rfl rfl (ltb rfl) rfl rfl ?_
 refine WD (op_move rfl) rfl ?_
 have r35 := ((((((r15.ext m6).mod m7 (nC (lE (lL r15.lt lR)) nN)).ext m8).ext m9).mod m10 (nC (lE (lL (lL r15.lt sz3) lR)) nN)).ext m11)
 have r36 := (((r27.ext m9).mod m10 (nC (lE (lL r27.lt lR)) nN)).ext m11)
 refine WL.yes rfl rfl rfl (ltb rfl) rfl rfl ?_
 refine WL.call (oc_call (vs := [.slice A'1 16 c3'1, .slice A'2 16 c3'2]) (cap := []) rfl rfl rfl Try.call24 (c_SameRealsX 16 c3'1 A'1 e'1 ys1 c3'2 A'2 e'2 ys2 h17 h27 h18 h28 (by first | with_reducible exact Cn.refl _ | with_reducible assumption | exact Cn.eq2 (by with_reducible assumption) (by with_reducible assumption) | exact cn_parts (by with_reducible assumption) (by with_reducible assumption) (by with_reducible assumption) (by with_reducible assumption) (by omega) | exact cn_over (by with_reducible assumption) (by with_reducible assumption) (by omega) | exact cn_two (by assumption) (by assumption) (by assumption) (by assumption) (by assumption) (by assumption) (by assumption) (by omega) (by omega)) (by omega) w11 r35.rng r36.rng)) rfl rfl (ltb rfl) ?_
 rintro _ w12 ⟨rfl, m12⟩
 refine WL.yes rfl rfl rfl (ltb rfl) rfl rfl ?_
 refine WD (op_not rfl) rfl ?_
 refine WD (op_pick_f rfl rfl rfl) rfl ?_
 refine WD (op_move rfl) rfl ?_
 refine WL.yes rfl rfl rfl (ltb rfl) rfl rfl ?_
 refine WD (op_loadA (i := 0) (cs := [vS bR'3 0 nR1 cR'3, vS bL'3 0 nR1 cL'3, vS bS'3 0 nS1 cS'3, vI 1, vF kc1, vF kc2, vF 0, vF (zz3.s0), vF (zz3.s1), .bool op1, vF lo1, vF re1, vF sl1]) rfl Try.isAgg33 Try.sizeOf33 ((r30.ext m11).ext m12).rng rfl rfl rfl) rfl ?_
 have r37 := ((((r24.ext m9).mod m10 (nC (lE (lL r24.lt lR)) nN)).ext m11).ext m12)
 have r38 := ((((r25.ext m9).mod m10 (nC (lE (lL r25.lt lR)) nN)).ext m11).ext m12)
 have r39 := ((((r26.ext m9).mod m10 (nC (lE (lL r26.lt lR)) nN)).ext m11).ext m12)
 refine WL.yes rfl rfl rfl (ltb rfl) rfl rfl ?_
 refine WL.call (oc_call (vs := [.agg #[vS bR'3 0 nR1 cR'3, vS bL'3 0 nR1 cL'3, vS bS'3 0 nS1 cS'3, vI 1, vF kc1, vF kc2, vF 0, vF (zz3.s0), vF (zz3.s1), .bool op1, vF lo1, vF re1, vF sl1]]) (cap := []) rfl rfl rfl Try.call44 (c_ValidZ nR1 nS1 xS1 kc1 kc2 op1 lo1 re1 sl1 zz3 cR'3 bR'3 PR'3 w7.heap.size cL'3 bL'3 PL'3 w7.heap.size cS'3 bS'3 (by first | with_reducible assumption | exact DPz.mono (by with_reducible assumption) (by omega) | exact zTo_dz (by with_reducible assumption) (by with_reducible assumption) (by with_reducible first | assumption | exact bd_take (by assumption) _) (by omega)) h24 h25 h21 h22 h26 w12 r37.rng r38.rng r39.rng ((((fm5.ext m9).mod m10 (fun j hj => (nC (lE (lL (OF.lt fm5 (lQ (lQ hj h24) h24.symm)) lR)) nN))).ext m11).ext m12) ((((fm6.ext m9).mod m10 (fun j hj => (nC (lE (lL (OF.lt fm6 (lQ (lQ hj h25) h25.symm)) lR)) nN))).ext m11).ext m12))) rfl rfl (ltb rfl) ?_
 rintro _ w13 ⟨rfl, m13⟩
 refine WL.yes rfl rfl rfl (ltb rfl) rfl rfl ?_
 refine WD (op_not rfl) rfl ?_
 refine WD (op_pick_f rfl rfl rfl) rfl ?_
 refine WL.end (NE.code ?_)
 refine CE.cond_f rfl rfl ?_
 refine CE.skip' (NE.code (CE.seq (CE.region ?_)))
 refine WD (op_move rfl) rfl ?_
 have sz4 := SzLe.mk (lT (lT (lT (lT m1.size m2.size) m3.size) m4.size) m5.size)
 have sz5 := SzLe.mk (lT (lT (lT sz4 m6.size) m7.size) m8.size)
 have r40 := ((((Rng.youngS rv (((Rng.youngS rv (((r7.ext m4).ext m5).ext m6) m7 (allge_cons (lT sz4 lR) allge_nil)).ext m8).ext m9) m10 (allge_cons (lT sz5 lR) allge_nil)).ext m11).ext m12).ext m13)
 refine WL.call (oc_call (vs := [.slice Av nv cv, vI 17]) (cap := []) rfl rfl rfl Try.call14 (c_P6Pick nv cv Av bv ov xsv 17 lnv hAv hBv (by omega) (by omega) (by omega) w13 r40)) rfl rfl (ltb rfl) ?_
 rintro _ w14 ⟨u1, rfl, h31, m14⟩
 refine WD (op_assign rfl) rfl ?_
 refine WL.end (NE.code (CE.seq ?_))
 refine CE.drawF (fun | 4 => some (fun _ wA uA wB => ∃ (bR' : Nat) (cR' : Nat) (PR' : List BC) (bL' : Nat) (cL' : Nat) (PL' : List BC) (bS' : Nat) (cS' : Nat) (zz : PipeSt) (e' : Nat) (c3' : Nat) (A' : Option Addr) (ys : List Nat), uA = .tuple #[.agg #[vS bR' 0 nR1 cR', vS bL' 0 nR1 cL', vS bS' 0 nS1 cS', vI 1, vF kc1, vF kc2, vF 0, vF (zz.s0), vF (zz.s1), .bool op1, vF lo1, vF re1, vF sl1], .slice A' u1 c3', vI 0] ∧ (PR'.length = nR1) ∧ (PL'.length = nR1) ∧ (zz = zTo nR1 nS1 xS1 kc1 kc2 op1 lo1 re1 sl1 zz1 (Lq1.take u1) u1) ∧ (zz.R.length = nR1) ∧ (zz.L.length = nR1) ∧ (xS1.length = nS1) ∧ (0 < u1 → A' = some ⟨e', 0, none⟩) ∧ (ys.length = u1) ∧ (W32 ys) ∧ (Cn ys (oTo nR1 nS1 xS1 kc1 kc2 op1 lo1 re1 sl1 zz1 (Lq1.take u1) u1)) ∧ Row wB bR' 0 (olc zz.R PR') ∧ Row wB bL' 0 (olc zz.L PL') ∧ Row wB bS' 0 (fl xS1) ∧ Row wB e' 0 (fl ys) ∧ wA.heap.size ≤ bR' ∧ wA.heap.size ≤ bL' ∧ wA.heap.size ≤ bS' ∧ wA.heap.size ≤ e' ∧ bR' ≠ bL' ∧ bR' ≠ bS' ∧ bL' ≠ bS' ∧ bR' ≠ e' ∧ bL' ≠ e' ∧ bS' ≠ e' ∧ OF wA.heap.size wB zz.R PR' ∧ (∀ i, i < nR1 → (PR'.getD i BC.d).b ≠ bR') ∧ (∀ i, i < nR1 → (PR'.getD i BC.d).b ≠ bL') ∧ (∀ i, i < nR1 → (PR'.getD i BC.d).b ≠ bS') ∧ (∀ i j, i < nR1 → j < nR1 → (PR'.getD i BC.d).b ≠ (PL'.getD j BC.d).b) ∧ (∀ i, i < nR1 → (PR'.getD i BC.d).b ≠ e') ∧ OF wA.heap.size wB zz.L PL' ∧ (∀ i, i < nR1 → (PL'.getD i BC.d).b ≠ bR') ∧ (∀ i, i < nR1 → (PL'.getD i BC.d).b ≠ bL') ∧ (∀ i, i < nR1 → (PL'.getD i BC.d).b ≠ bS') ∧ (∀ i, i < nR1 → (PL'.getD i BC.d).b ≠ e') ∧ Mod [] wA wB) | _ => none) [0, 1, 2, 3, 4, 5, 6, 7, 8, 9, 10, 11] [12] [] (fun ρ W => ∃ (e1_4_0 : Nat) (e1_4_1 : Nat) (e1_4_2 : List BC) (e1_4_3 : Nat) (e1_4_4 : Nat) (e1_4_5 : List BC) (e1_4_6 : Nat) (e1_4_7 : Nat) (e1_4_8 : PipeSt) (e1_4_9 : Nat) (e1_4_10 : Nat) (e1_4_11 : Option Addr) (e1_4_12 : List Nat) (e1_9_0 : Nat), ρ = [(4, .bool false), (5, vP w1.heap.size 0), (6, vS b'1 0 16 c'1), (10, vP w8.heap.size 0), (11, .slice A'2 16 c3'2), (13, vI ((u1 : Nat) : Int)), (14, vP e1_9_0 0), (15, .slice e1_4_11 u1 e1_4_10), (89, vI 0)] ∧ Row W e1_4_0 0 (olc e1_4_8.R e1_4_2) ∧ Row W e1_4_3 0 (olc e1_4_8.L e1_4_5) ∧ Row W e1_4_6 0 (fl xS1) ∧ Row W e1_4_9 0 (fl e1_4_12) ∧ Row W e1_9_0 0 [vS e1_4_0 0 nR1 e1_4_1, vS e1_4_3 0 nR1 e1_4_4, vS e1_4_6 0 nS1 e1_4_7, vI 1, vF kc1, vF kc2, vF 0, vF (e1_4_8.s0), vF (e1_4_8.s1), .bool op1, vF lo1, vF re1, vF sl1] ∧ w14.heap.size ≤ e1_4_0 ∧ w14.heap.size ≤ e1_4_3 ∧ w14.heap.size ≤ e1_4_6 ∧ w14.heap.size ≤ e1_4_9 ∧ w14.heap.size ≤ e1_9_0 ∧ e1_4_0 ≠ e1_4_3 ∧ e1_4_0 ≠ e1_4_6 ∧ e1_4_0 ≠ e1_4_9 ∧ e1_4_0 ≠ e1_9_0 ∧ e1_4_3 ≠ e1_4_6 ∧ e1_4_3 ≠ e1_4_9 ∧ e1_4_3 ≠ e1_9_0 ∧ e1_4_6 ≠ e1_4_9 ∧ e1_4_6 ≠ e1_9_0 ∧ e1_4_9 ≠ e1_9_0 ∧ (e1_4_2.length = nR1) ∧ (e1_4_5.length = nR1) ∧ (e1_4_8 = zTo nR1 nS1 xS1 kc1 kc2 op1 lo1 re1 sl1 zz1 (Lq1.take u1) u1) ∧ (e1_4_8.R.length = nR1) ∧ (e1_4_8.L.length = nR1) ∧ (xS1.length = nS1) ∧ (0 < u1 → e1_4_11 = some ⟨e1_4_9, 0, none⟩) ∧ (e1_4_12.length = u1) ∧ (W32 e1_4_12) ∧ (Cn e1_4_12 (oTo nR1 nS1 xS1 kc1 kc2 op1 lo1 re1 sl1 zz1 (Lq1.take u1) u1)) ∧ OF w14.heap.size W e1_4_8.R e1_4_2 ∧ (∀ i, i < nR1 → (e1_4_2.getD i BC.d).b ≠ e1_4_0) ∧ (∀ i, i < nR1 → (e1_4_2.getD i BC.d).b ≠ e1_4_3) ∧ (∀ i, i < nR1 → (e1_4_2.getD i BC.d).b ≠ e1_4_6) ∧ (∀ i, i < nR1 → (e1_4_2.getD i BC.d).b ≠ e1_4_9) ∧ (∀ i, i < nR1 → (e1_4_2.getD i BC.d).b ≠ e1_9_0) ∧ (∀ i j, i < nR1 → j < nR1 → (e1_4_2.getD i BC.d).b ≠ (e1_4_5.getD j BC.d).b) ∧ OF w14.heap.size W e1_4_8.L e1_4_5 ∧ (∀ i, i < nR1 → (e1_4_5.getD i BC.d).b ≠ e1_4_0) ∧ (∀ i, i < nR1 → (e1_4_5.getD i BC.d).b ≠ e1_4_3) ∧ (∀ i, i < nR1 → (e1_4_5.getD i BC.d).b ≠ e1_4_6) ∧ (∀ i, i < nR1 → (e1_4_5.getD i BC.d).b ≠ e1_4_9) ∧ (∀ i, i < nR1 → (e1_4_5.getD i BC.d).b ≠ e1_9_0) ∧ Mod [] w14 W) (by kernel_rfl) (by kernel_rfl) ?_ ?_
 have md1 : Mod [] w14 w14.drew := (Mod.refl _ _).drew
 generalize w14.drew = w15 at md1 ⊢
 ·refine DD 0 rfl (by kernel_rfl) rfl (fun wD mD => op_loadA (i := 0) (cs := [vS bR'1 0 nR1 cR'1, vS bL'1 0 nR1 cL'1, vS bS'1 0 nS1 cS'1, vI 1, vF kc1, vF kc2, vF 0, vF (zz1.s0), vF (zz1.s1), .bool op1, vF lo1, vF re1, vF sl1]) rfl Try.isAgg33 Try.sizeOf33 (((((((((r19.ext m8).ext m9).mod m10 (nC (lE (lL (lL r4.lt (lT (lT (lT sz1 m6.size) m7.size) m8.size)) lR)) nN)).ext m11).ext m12).ext m13).ext m14).ext md1).ext mD).rng rfl rfl rfl) ?_
  refine DD 1 rfl (by kernel_rfl) rfl (fun wD mD => op_move rfl) ?_
  refine DD 2 rfl (by kernel_rfl) rfl (fun wD mD => op_move rfl) ?_
  refine DD 3 rfl (by kernel_rfl) rfl (fun wD mD => op_slHi (j := u1) rfl rfl rfl Try.runUnderlying26 Try.sizeOf27 (by omega)) ?_
  refine DR.fork (is := [4, 9]) (by kernel_rfl) (by decide) (all2 ?_ ?_)
  ·refine DP.call (i := 4) rfl rfl (.free rfl) rfl (ltb rfl) (vs := [.func (.func 21) #[] #[], .agg #[vS bR'1 0 nR1 cR'1, vS bL'1 0 nR1 cL'1, vS bS'1 0 nS1 cS'1, vI 1, vF kc1, vF kc2, vF 0, vF (zz1.s0), vF (zz1.s1), .bool op1, vF lo1, vF re1, vF sl1], vS b'1 0 u1 c'1]) rfl ?_
   intro w16 m15
   refine ⟨oc_call (vs := [.agg #[vS bR'1 0 nR1 cR'1, vS bL'1 0 nR1 cL'1, vS bS'1 0 nS1 cS'1, vI 1, vF kc1, vF kc2, vF 0, vF (zz1.s0), vF (zz1.s1), .bool op1, vF lo1, vF re1, vF sl1], vS b'1 0 u1 c'1]) (cap := []) rfl rfl rfl Try.call21 (c_iPlayZ nR1 nS1 xS1 kc1 kc2 op1 lo1 re1 sl1 zz1 cR'1 bR'1 PR'1 w.heap.size cL'1 bL'1 PL'1 w.heap.size cS'1 bS'1 u1 c'1 (some ⟨b'1, 0, none⟩) b'1 0 (Lq1.take u1) (by first | with_reducible assumption | exact DPz.mono (by with_reducible assumption) (by omega) | exact zTo_dz (by with_reducible assumption) (by with_reducible assumption) (by with_reducible first | assumption | exact bd_take (by assumption) _) (by omega)) h4 h5 h1 h2 h6 (head_len h7 (by omega)) (fun _ => rfl) (w32_take h8) (by omega) w16 (((((((((r20.ext m8).ext m9).mod m10 (nC (lE (lL (lL r1.lt (lT (lT (lT sz2 m6.size) m7.size) m8.size)) lR)) nN)).ext m11).ext m12).ext m13).ext m14).ext md1).ext m15).rng (((((((((r21.ext m8).ext m9).mod m10 (nC (lE (lL (lL r2.lt (lT (lT (lT sz2 m6.size) m7.size) m8.size)) lR)) nN)).ext m11).ext m12).ext m13).ext m14).ext md1).ext m15).rng (((((((((r22.ext m8).ext m9).mod m10 (nC (lE (lL (lL r3.lt (lT (lT (lT sz2 m6.size) m7.size) m8.size)) lR)) nN)).ext m11).ext m12).ext m13).ext m14).ext md1).ext m15).rng (rng_head (((((((((r23.ext m8).ext m9).mod m10 (nC (lE (lL (lL r8.lt (lT (lT (lT m5.size m6.size) m7.size) m8.size)) lR)) nN)).ext m11).ext m12).ext m13).ext m14).ext md1).ext m15).rng u1) (((((((((((((((fm1.ext m2).mod m3 (fun j hj => (nC (lE (lL (OF.lt fm1 (lQ (lQ hj h4) h4.symm)) lR)) nN))).ext m4).ext m5).ext m6).mod m7 (fun j hj => (nC (lE (lL (OF.lt fm1 (lQ (lQ hj h4) h4.symm)) (lT sz2 lR))) nN))).ext m8).ext m9).mod m10 (fun j hj => (nC (lE (lL (OF.lt fm1 (lQ (lQ hj h4) h4.symm)) (lT (lT (lT (lT sz2 m6.size) m7.size) m8.size) lR))) nN))).ext m11).ext m12).ext m13).ext m14).ext md1).ext m15) (((((((((((((((fm2.ext m2).mod m3 (fun j hj => (nC (lE (lL (OF.lt fm2 (lQ (lQ hj h5) h5.symm)) lR)) nN))).ext m4).ext m5).ext m6).mod m7 (fun j hj => (nC (lE (lL (OF.lt fm2 (lQ (lQ hj h5) h5.symm)) (lT sz2 lR))) nN))).ext m8).ext m9).mod m10 (fun j hj => (nC (lE (lL (OF.lt fm2 (lQ (lQ hj h5) h5.symm)) (lT (lT (lT (lT sz2 m6.size) m7.size) m8.size) lR))) nN))).ext m11).ext m12).ext m13).ext m14).ext md1).ext m15)), ?_⟩
   rintro _ w17 ⟨bR'4, cR'4, PR'4, bL'4, cL'4, PL'4, bS'4, cS'4, zz4, e'3, c3'3, A'3, ys3, rfl, h32, h33, h34, h35, h36, h37, h38, h39, h40, h41, r41, r42, r43, r44, ge13, ge14, ge15, ge16, ne16, ne17, ne18, ne19, ne20, ne21, fm7, fn26, fn27, fn28, fn29, fn30, fm8, fn31, fn32, fn33, fn34, m16⟩
   refine ⟨(((Mod.refl [] w15).nt m15).nt m16), ?_⟩
   refine DD 5 rfl (by kernel_rfl) rfl (fun wD mD => op_move rfl) ?_
   refine DD 6 rfl (by kernel_rfl) rfl (fun wD mD => op_extract rfl rfl) ?_
   refine DD 7 rfl (by kernel_rfl) rfl (fun wD mD => op_extract rfl rfl) ?_
   refine DD 8 rfl (by kernel_rfl) rfl (fun wD mD => op_extract rfl rfl) ?_
   refine DR.one1 (i := 9) rfl rfl (by kernel_rfl) (.free rfl) rfl (ltb rfl) ?_
   intro w18 m17
   refine Op1.mono (op_alloc (cs := [.slice none 0 0, .slice none 0 0, .slice none 0 0, vI 0, vF 0, vF 0, vF 0, vF 0, vF 0, .bool false, vF 0, vF 0, vF 0]) Try.zeroValue33 rfl) ?_
   rintro _ w19 ⟨rfl, r45, m18, z7⟩
   refine ⟨(((((Mod.refl [] w15).nt m15).nt m16).nt m17).nt m18), ?_⟩
   refine DR.st1 (i := 10) rfl rfl (by kernel_rfl) (.free rfl) rfl ?_
   intro w20 m19
   refine Op1.mono (op_store (i := 0) (cs := [vS bR'4 0 nR1 cR'4, vS bL'4 0 nR1 cL'4, vS bS'4 0 nS1 cS'4, vI 1, vF kc1, vF kc2, vF 0, vF (zz4.s0), vF (zz4.s1), .bool op1, vF lo1, vF re1, vF sl1]) rfl rfl rfl Try.sizeOf33 rfl (r45.ext m19) rfl (lB rfl) rfl) ?_
   rintro _ w21 ⟨r46, m20, z8⟩
   have r47 : Row w21 w18.heap.size 0 [vS bR'4 0 nR1 cR'4, vS bL'4 0 nR1 cL'4, vS bS'4 0 nS1 cS'4, vI 1, vF kc1, vF kc2, vF 0, vF (zz4.s0), vF (zz4.s1), .bool op1, vF lo1, vF re1, vF sl1] := Row.congr r46 rfl
   have sz6 := SzLe.mk (lT (lT m15.size m16.size) m17.size)
   refine ⟨(((((((Mod.refl [] w15).nt m15).nt m16).nt m17).nt m18).nt m19).then m20 ((aC (.inr (lT sz6 lR)) aN))), ?_⟩
   refine DR.rebase ?_
   refine DD 11 rfl (by kernel_rfl) rfl (fun wD mD => op_assign rfl) ?_
   refine DR.sub [(4, .bool false), (5, vP w1.heap.size 0), (6, vS b'1 0 16 c'1), (10, vP w8.heap.size 0), (11, .slice A'2 16 c3'2), (13, vI ((u1 : Nat) : Int)), (14, vP w18.heap.size 0), (15, .slice A'3 u1 c3'3), (89, vI 0)] ⟨rfl, rfl, rfl, rfl, rfl, rfl, rfl, rfl, rfl, trivial⟩ ?_
   refine DR.meet rfl ?_
   intro w22 m21
   have r48 := (((((r41.ext m17).ext m18).ext m19).mod m20 (nC (lE (lL (lL r41.lt m17.size) lR)) nN)).ext m21)
   have r49 := (((((r42.ext m17).ext m18).ext m19).mod m20 (nC (lE (lL (lL r42.lt m17.size) lR)) nN)).ext m21)
   have r50 := (((((r43.ext m17).ext m18).ext m19).mod m20 (nC (lE (lL (lL r43.lt m17.size) lR)) nN)).ext m21)
   have r51 := (((((r44.ext m17).ext m18).ext m19).mod m20 (nC (lE (lL (lL r44.lt m17.size) lR)) nN)).ext m21)
   have sz7 := SzLe.mk (lT (lT (lT md1.size m15.size) m16.size) m17.size)
   exact ⟨bR'4, cR'4, PR'4, bL'4, cL'4, PL'4, bS'4, cS'4, zz4, e'3, c3'3, A'3, ys3, w18.heap.size, rfl, r48, r49, r50, r51, (r47.ext m21), (lT (lT md1.size m15.size) ge13), (lT (lT md1.size m15.size) ge14), (lT (lT md1.size m15.size) ge15), (lT (lT md1.size m15.size) ge16), (lT sz7 lR), ne16, ne17, ne19, (lE (lL (lL r41.lt m17.size) lR)), ne18, ne20, (lE (lL (lL r42.lt m17.size) lR)), ne21, (lE (lL (lL r43.lt m17.size) lR)), (lE (lL (lL r44.lt m17.size) lR)), h32, h33, h34, h35, h36, h37, h38, h39, h40, h41, (OF.low (((((fm7.ext m17).ext m18).ext m19).mod m20 (fun j hj => (nC (lE (lL (OF.lt fm7 (lQ (lQ hj h35) h35.symm)) (lT m17.size lR))) nN))).ext m21) (lT md1.size m15.size)), (fun j hj => (fn26 j (show j < nR1 by omega))), (fun j hj => (fn27 j (show j < nR1 by omega))), (fun j hj => (fn28 j (show j < nR1 by omega))), (fun j hj => (fn30 j (show j < nR1 by omega))), (fun j hj => (lE (lL (OF.lt fm7 (lQ (show j < nR1 by omega) h35.symm)) (lT m17.size lR)))), (fun j q hj hq => (fn29 j q (show j < nR1 by omega) (show q < nR1 by omega))), (OF.low (((((fm8.ext m17).ext m18).ext m19).mod m20 (fun j hj => (nC (lE (lL (OF.lt fm8 (lQ (lQ hj h36) h36.symm)) (lT m17.size lR))) nN))).ext m21) (lT md1.size m15.size)), (fun j hj => (fn31 j (show j < nR1 by omega))), (fun j hj => (fn32 j (show j < nR1 by omega))), (fun j hj => (fn33 j (show j < nR1 by omega))), (fun j hj => (fn34 j (show j < nR1 by omega))), (fun j hj => (lE (lL (OF.lt fm8 (lQ (show j < nR1 by omega) h36.symm)) (lT m17.size lR)))), (((((((((Mod.refl [] w14).nt md1).nt m15).nt m16).nt m17).nt m18).nt m19).then m20 ((aC (.inr (lT sz7 lR)) aN))).nt m21)⟩
  ·refine DP.op (i := 9) rfl rfl (.free rfl) rfl (ltb rfl) ?_
   intro w23 m22
   refine Op1.mono (op_alloc (cs := [.slice none 0 0, .slice none 0 0, .slice none 0 0, vI 0, vF 0, vF 0, vF 0, vF 0, vF 0, .bool false, vF 0, vF 0, vF 0]) Try.zeroValue33 rfl) ?_
   rintro _ w24 ⟨rfl, r52, m23, z9⟩
   refine ⟨(((Mod.refl [] w15).nt m22).nt m23), ?_⟩
   refine DR.one (i := 4) rfl rfl (by kernel_rfl) (.free rfl) rfl (ltb rfl) (vs := [.func (.func 21) #[] #[], .agg #[vS bR'1 0 nR1 cR'1, vS bL'1 0 nR1 cL'1, vS bS'1 0 nS1 cS'1, vI 1, vF kc1, vF kc2, vF 0, vF (zz1.s0), vF (zz1.s1), .bool op1, vF lo1, vF re1, vF sl1], vS b'1 0 u1 c'1]) rfl ?_
   intro w25 m24
   refine ⟨oc_call (vs := [.agg #[vS bR'1 0 nR1 cR'1, vS bL'1 0 nR1 cL'1, vS bS'1 0 nS1 cS'1, vI 1, vF kc1, vF kc2, vF 0, vF (zz1.s0), vF (zz1.s1), .bool op1, vF lo1, vF re1, vF sl1], vS b'1 0 u1 c'1]) (cap := []) rfl rfl rfl Try.call21 (c_iPlayZ nR1 nS1 xS1 kc1 kc2 op1 lo1 re1 sl1 zz1 cR'1 bR'1 PR'1 w.heap.size cL'1 bL'1 PL'1 w.heap.size cS'1 bS'1 u1 c'1 (some ⟨b'1, 0, none⟩) b'1 0 (Lq1.take u1) (by first | with_reducible assumption | exact DPz.mono (by with_reducible assumption) (by omega) | exact zTo_dz (by with_reducible assumption) (by with_reducible assumption) (by with_reducible first | assumption | exact bd_take (by assumption) _) (by omega)) h4 h5 h1 h2 h6 (head_len h7 (by omega)) (fun _ => rfl) (w32_take h8) (by omega) w25 (((((((((((r20.ext m8).ext m9).mod m10 (nC (lE (lL (lL r1.lt (lT (lT (lT sz2 m6.size) m7.size) m8.size)) lR)) nN)).ext m11).ext m12).ext m13).ext m14).ext md1).ext m22).ext m23).ext m24).rng (((((((((((r21.ext m8).ext m9).mod m10 (nC (lE (lL (lL r2.lt (lT (lT (lT sz2 m6.size) m7.size) m8.size)) lR)) nN)).ext m11).ext m12).ext m13).ext m14).ext md1).ext m22).ext m23).ext m24).rng (((((((((((r22.ext m8).ext m9).mod m10 (nC (lE (lL (lL r3.lt (lT (lT (lT sz2 m6.size) m7.size) m8.size)) lR)) nN)).ext m11).ext m12).ext m13).ext m14).ext md1).ext m22).ext m23).ext m24).rng (rng_head (((((((((((r23.ext m8).ext m9).mod m10 (nC (lE (lL (lL r8.lt (lT (lT (lT m5.size m6.size) m7.size) m8.size)) lR)) nN)).ext m11).ext m12).ext m13).ext m14).ext md1).ext m22).ext m23).ext m24).rng u1) (((((((((((((((((fm1.ext m2).mod m3 (fun j hj => (nC (lE (lL (OF.lt fm1 (lQ (lQ hj h4) h4.symm)) lR)) nN))).ext m4).ext m5).ext m6).mod m7 (fun j hj => (nC (lE (lL (OF.lt fm1 (lQ (lQ hj h4) h4.symm)) (lT sz2 lR))) nN))).ext m8).ext m9).mod m10 (fun j hj => (nC (lE (lL (OF.lt fm1 (lQ (lQ hj h4) h4.symm)) (lT (lT (lT (lT sz2 m6.size) m7.size) m8.size) lR))) nN))).ext m11).ext m12).ext m13).ext m14).ext md1).ext m22).ext m23).ext m24) (((((((((((((((((fm2.ext m2).mod m3 (fun j hj => (nC (lE (lL (OF.lt fm2 (lQ (lQ hj h5) h5.symm)) lR)) nN))).ext m4).ext m5).ext m6).mod m7 (fun j hj => (nC (lE (lL (OF.lt fm2 (lQ (lQ hj h5) h5.symm)) (lT sz2 lR))) nN))).ext m8).ext m9).mod m10 (fun j hj => (nC (lE (lL (OF.lt fm2 (lQ (lQ hj h5) h5.symm)) (lT (lT (lT (lT sz2 m6.size) m7.size) m8.size) lR))) nN))).ext m11).ext m12).ext m13).ext m14).ext md1).ext m22).ext m23).ext m24)), ?_⟩
   rintro _ w26 ⟨bR'5, cR'5, PR'5, bL'5, cL'5, PL'5, bS'5, cS'5, zz5, e'4, c3'4, A'4, ys4, rfl, h42, h43, h44, h45, h46, h47, h48, h49, h50, h51, r53, r54, r55, r56, ge17, ge18, ge19, ge20, ne22, ne23, ne24, ne25, ne26, ne27, fm9, fn35, fn36, fn37, fn38, fn39, fm10, fn40, fn41, fn42, fn43, m25⟩
   refine ⟨(((((Mod.refl [] w15).nt m22).nt m23).nt m24).nt m25), ?_⟩
   refine DD 5 rfl (by kernel_rfl) rfl (fun wD mD => op_move rfl) ?_
   refine DD 6 rfl (by kernel_rfl) rfl (fun wD mD => op_extract rfl rfl) ?_
   refine DD 7 rfl (by kernel_rfl) rfl (fun wD mD => op_extract rfl rfl) ?_
   refine DD 8 rfl (by kernel_rfl) rfl (fun wD mD => op_extract rfl rfl) ?_
   refine DR.st1 (i := 10) rfl rfl (by kernel_rfl) (.free rfl) rfl ?_
   intro w27 m26
   refine Op1.mono (op_store (i := 0) (cs := [vS bR'5 0 nR1 cR'5, vS bL'5 0 nR1 cL'5, vS bS'5 0 nS1 cS'5, vI 1, vF kc1, vF kc2, vF 0, vF (zz5.s0), vF (zz5.s1), .bool op1, vF lo1, vF re1, vF sl1]) rfl rfl rfl Try.sizeOf33 rfl (((r52.ext m24).ext m25).ext m26) rfl (lB rfl) rfl) ?_
   rintro _ w28 ⟨r57, m27, z10⟩
   have r58 : Row w28 w23.heap.size 0 [vS bR'5 0 nR1 cR'5, vS bL'5 0 nR1 cL'5, vS bS'5 0 nS1 cS'5, vI 1, vF kc1, vF kc2, vF 0, vF (zz5.s0), vF (zz5.s1), .bool op1, vF lo1, vF re1, vF sl1] := Row.congr r57 rfl
   refine ⟨(((((((Mod.refl [] w15).nt m22).nt m23).nt m24).nt m25).nt m26).then m27 ((aC (.inr (lT m22.size lR)) aN))), ?_⟩
   refine DR.rebase ?_
   refine DD 11 rfl (by kernel_rfl) rfl (fun wD mD => op_assign rfl) ?_
   refine DR.sub [(4, .bool false), (5, vP w1.heap.size 0), (6, vS b'1 0 16 c'1), (10, vP w8.heap.size 0), (11, .slice A'2 16 c3'2), (13, vI ((u1 : Nat) : Int)), (14, vP w23.heap.size 0), (15, .slice A'4 u1 c3'4), (89, vI 0)] ⟨rfl, rfl, rfl, rfl, rfl, rfl, rfl, rfl, rfl, trivial⟩ ?_
   refine DR.meet rfl ?_
   intro w29 m28
   have r59 := (((r53.ext m26).mod m27 (nC (lG (lL (lL r52.lt m24.size) ge17)) nN)).ext m28)
   have r60 := (((r54.ext m26).mod m27 (nC (lG (lL (lL r52.lt m24.size) ge18)) nN)).ext m28)
   have r61 := (((r55.ext m26).mod m27 (nC (lG (lL (lL r52.lt m24.size) ge19)) nN)).ext m28)
   have r62 := (((r56.ext m26).mod m27 (nC (lG (lL (lL r52.lt m24.size) ge20)) nN)).ext m28)
   have sz8 := SzLe.mk (lT (lT (lT md1.size m22.size) m23.size) m24.size)
   exact ⟨bR'5, cR'5, PR'5, bL'5, cL'5, PL'5, bS'5, cS'5, zz5, e'4, c3'4, A'4, ys4, w23.heap.size, rfl, r59, r60, r61, r62, (r58.ext m28), (lT sz8 ge17), (lT sz8 ge18), (lT sz8 ge19), (lT sz8 ge20), (lT (lT md1.size m22.size) lR), ne22, ne23, ne25, (lG (lL (lL r52.lt m24.size) ge17)), ne24, ne26, (lG (lL (lL r52.lt m24.size) ge18)), ne27, (lG (lL (lL r52.lt m24.size) ge19)), (lG (lL (lL r52.lt m24.size) ge20)), h42, h43, h44, h45, h46, h47, h48, h49, h50, h51, (OF.low (((fm9.ext m26).mod m27 (fun j hj => (nC (lG (lL (lL r52.lt m24.size) (fm9.ge j (lQ (lQ hj h45) h45.symm)))) nN))).ext m28) sz8), (fun j hj => (fn35 j (show j < nR1 by omega))), (fun j hj => (fn36 j (show j < nR1 by omega))), (fun j hj => (fn37 j (show j < nR1 by omega))), (fun j hj => (fn39 j (show j < nR1 by omega))), (fun j hj => (lG (lL (lL r52.lt m24.size) (fm9.ge j (lQ (show j < nR1 by omega) h45.symm))))), (fun j q hj hq => (fn38 j q (show j < nR1 by omega) (show q < nR1 by omega))), (OF.low (((fm10.ext m26).mod m27 (fun j hj => (nC (lG (lL (lL r52.lt m24.size) (fm10.ge j (lQ (lQ hj h46) h46.symm)))) nN))).ext m28) sz8), (fun j hj => (fn40 j (show j < nR1 by omega))), (fun j hj => (fn41 j (show j < nR1 by omega))), (fun j hj => (fn42 j (show j < nR1 by omega))), (fun j hj => (fn43 j (show j < nR1 by omega))), (fun j hj => (lG (lL (lL r52.lt m24.size) (fm10.ge j (lQ (show j < nR1 by omega) h46.symm))))), (((((((((Mod.refl [] w14).nt md1).nt m22).nt m23).nt m24).nt m25).nt m26).then m27 ((aC (.inr (lT (lT md1.size m22.size) lR)) aN))).nt m28)⟩
 ·rintro _ w30 ⟨e1_4_0, e1_4_1, e1_4_2, e1_4_3, e1_4_4, e1_4_5, e1_4_6, e1_4_7, e1_4_8, e1_4_9, e1_4_10, e1_4_11, e1_4_12, e1_9_0, rfl, rr1_0, rr1_1, rr1_2, rr1_3, rr1_4, ge21, ge22, ge23, ge24, ge25, ne28, ne29, ne30, ne31, ne32, ne33, ne34, ne35, ne36, ne37, hp1_4_0, hp1_4_1, hp1_4_2, hp1_4_3, hp1_4_4, hp1_4_5, hp1_4_6, hp1_4_7, hp1_4_8, hp1_4_9, fr1_0, fa1_0_0, fa1_0_1, fa1_0_2, fa1_0_3, fa1_0_4, fb1_0_0, fr1_1, fa1_1_0, fa1_1_1, fa1_1_2, fa1_1_3, fa1_1_4, m29⟩
  refine WO.det (op_assign rfl) rfl (.free rfl) rfl rfl ?_
  refine WO.end (NE.code (CE.seq ?_))
  refine CE.drawF (fun | 4 => some (fun _ wA uA wB => ∃ (bR' : Nat) (cR' : Nat) (PR' : List BC) (bL' : Nat) (cL' : Nat) (PL' : List BC) (bS' : Nat) (cS' : Nat) (zz : PipeSt) (e' : Nat) (c3' : Nat) (A' : Option Addr) (ys : List Nat), uA = .tuple #[.agg #[vS bR' 0 nR1 cR', vS bL' 0 nR1 cL', vS bS' 0 nS1 cS', vI 1, vF kc1, vF kc2, vF 0, vF (zz.s0), vF (zz.s1), .bool op1, vF lo1, vF re1, vF sl1], .slice A' (16 - u1) c3', vI 0] ∧ (PR'.length = nR1) ∧ (PL'.length = nR1) ∧ (zz = zTo nR1 nS1 xS1 kc1 kc2 op1 lo1 re1 sl1 e1_4_8 ((Lq1.drop u1).take (16 - u1)) (16 - u1)) ∧ (zz.R.length = nR1) ∧ (zz.L.length = nR1) ∧ (xS1.length = nS1) ∧ (0 < (16 - u1) → A' = some ⟨e', 0, none⟩) ∧ (ys.length = (16 - u1)) ∧ (W32 ys) ∧ (Cn ys (oTo nR1 nS1 xS1 kc1 kc2 op1 lo1 re1 sl1 e1_4_8 ((Lq1.drop u1).take (16 - u1)) (16 - u1))) ∧ Row wB bR' 0 (olc zz.R PR') ∧ Row wB bL' 0 (olc zz.L PL') ∧ Row wB bS' 0 (fl xS1) ∧ Row wB e' 0 (fl ys) ∧ wA.heap.size ≤ bR' ∧ wA.heap.size ≤ bL' ∧ wA.heap.size ≤ bS' ∧ wA.heap.size ≤ e' ∧ bR' ≠ bL' ∧ bR' ≠ bS' ∧ bL' ≠ bS' ∧ bR' ≠ e' ∧ bL' ≠ e' ∧ bS' ≠ e' ∧ OF wA.heap.size wB zz.R PR' ∧ (∀ i, i < nR1 → (PR'.getD i BC.d).b ≠ bR') ∧ (∀ i, i < nR1 → (PR'.getD i BC.d).b ≠ bL') ∧ (∀ i, i < nR1 → (PR'.getD i BC.d).b ≠ bS') ∧ (∀ i j, i < nR1 → j < nR1 → (PR'.getD i BC.d).b ≠ (PL'.getD j BC.d).b) ∧ (∀ i, i < nR1 → (PR'.getD i BC.d).b ≠ e') ∧ OF wA.heap.size wB zz.L PL' ∧ (∀ i, i < nR1 → (PL'.getD i BC.d).b ≠ bR') ∧ (∀ i, i < nR1 → (PL'.getD i BC.d).b ≠ bL') ∧ (∀ i, i < nR1 → (PL'.getD i BC.d).b ≠ bS') ∧ (∀ i, i < nR1 → (PL'.getD i BC.d).b ≠ e') ∧ Mod [] wA wB) | _ => none) [0, 1, 2, 3, 4, 5, 6, 7, 8, 9, 10, 11] [12] [] (fun ρ W => ∃ (e2_4_0 : Nat) (e2_4_1 : Nat) (e2_4_2 : List BC) (e2_4_3 : Nat) (e2_4_4 : Nat) (e2_4_5 : List BC) (e2_4_6 : Nat) (e2_4_7 : Nat) (e2_4_8 : PipeSt) (e2_4_9 : Nat) (e2_4_10 : Nat) (e2_4_11 : Option Addr) (e2_4_12 : List Nat) (e2_9_0 : Nat), ρ = [(4, .bool false), (5, vP w1.heap.size 0), (6, vS b'1 0 16 c'1), (10, vP w8.heap.size 0), (11, .slice A'2 16 c3'2), (15, .slice e1_4_11 u1 e1_4_10), (16, vI 0), (17, vP e2_9_0 0), (18, .slice e2_4_11 (16 - u1) e2_4_10), (98, vI 0)] ∧ Row W e2_4_0 0 (olc e2_4_8.R e2_4_2) ∧ Row W e2_4_3 0 (olc e2_4_8.L e2_4_5) ∧ Row W e2_4_6 0 (fl xS1) ∧ Row W e2_4_9 0 (fl e2_4_12) ∧ Row W e2_9_0 0 [vS e2_4_0 0 nR1 e2_4_1, vS e2_4_3 0 nR1 e2_4_4, vS e2_4_6 0 nS1 e2_4_7, vI 1, vF kc1, vF kc2, vF 0, vF (e2_4_8.s0), vF (e2_4_8.s1), .bool op1, vF lo1, vF re1, vF sl1] ∧ w30.heap.size ≤ e2_4_0 ∧ w30.heap.size ≤ e2_4_3 ∧ w30.heap.size ≤ e2_4_6 ∧ w30.heap.size ≤ e2_4_9 ∧ w30.heap.size ≤ e2_9_0 ∧ e2_4_0 ≠ e2_4_3 ∧ e2_4_0 ≠ e2_4_6 ∧ e2_4_0 ≠ e2_4_9 ∧ e2_4_0 ≠ e2_9_0 ∧ e2_4_3 ≠ e2_4_6 ∧ e2_4_3 ≠ e2_4_9 ∧ e2_4_3 ≠ e2_9_0 ∧ e2_4_6 ≠ e2_4_9 ∧ e2_4_6 ≠ e2_9_0 ∧ e2_4_9 ≠ e2_9_0 ∧ (e2_4_2.length = nR1) ∧ (e2_4_5.length = nR1) ∧ (e2_4_8 = zTo nR1 nS1 xS1 kc1 kc2 op1 lo1 re1 sl1 e1_4_8 ((Lq1.drop u1).take (16 - u1)) (16 - u1)) ∧ (e2_4_8.R.length = nR1) ∧ (e2_4_8.L.length = nR1) ∧ (xS1.length = nS1) ∧ (0 < (16 - u1) → e2_4_11 = some ⟨e2_4_9, 0, none⟩) ∧ (e2_4_12.length = (16 - u1)) ∧ (W32 e2_4_12) ∧ (Cn e2_4_12 (oTo nR1 nS1 xS1 kc1 kc2 op1 lo1 re1 sl1 e1_4_8 ((Lq1.drop u1).take (16 - u1)) (16 - u1))) ∧ OF w30.heap.size W e2_4_8.R e2_4_2 ∧ (∀ i, i < nR1 → (e2_4_2.getD i BC.d).b ≠ e2_4_0) ∧ (∀ i, i < nR1 → (e2_4_2.getD i BC.d).b ≠ e2_4_3) ∧ (∀ i, i < nR1 → (e2_4_2.getD i BC.d).b ≠ e2_4_6) ∧ (∀ i, i < nR1 → (e2_4_2.getD i BC.d).b ≠ e2_4_9) ∧ (∀ i, i < nR1 → (e2_4_2.getD i BC.d).b ≠ e2_9_0) ∧ (∀ i j, i < nR1 → j < nR1 → (e2_4_2.getD i BC.d).b ≠ (e2_4_5.getD j BC.d).b) ∧ OF w30.heap.size W e2_4_8.L e2_4_5 ∧ (∀ i, i < nR1 → (e2_4_5.getD i BC.d).b ≠ e2_4_0) ∧ (∀ i, i < nR1 → (e2_4_5.getD i BC.d).b ≠ e2_4_3) ∧ (∀ i, i < nR1 → (e2_4_5.getD i BC.d).b ≠ e2_4_6) ∧ (∀ i, i < nR1 → (e2_4_5.getD i BC.d).b ≠ e2_4_9) ∧ (∀ i, i < nR1 → (e2_4_5.getD i BC.d).b ≠ e2_9_0) ∧ Mod [] w30 W) (by kernel_rfl) (by kernel_rfl) ?_ ?_
  have md2 : Mod [] w30 w30.drew := (Mod.refl _ _).drew
  generalize w30.drew = w31 at md2 ⊢
  ·refine DD 0 rfl (by kernel_rfl) rfl (fun wD mD => op_loadA (i := 0) (cs := [vS e1_4_0 0 nR1 e1_4_1, vS e1_4_3 0 nR1 e1_4_4, vS e1_4_6 0 nS1 e1_4_7, vI 1, vF kc1, vF kc2, vF 0, vF (e1_4_8.s0), vF (e1_4_8.s1), .bool op1, vF lo1, vF re1, vF sl1]) rfl Try.isAgg33 Try.sizeOf33 ((rr1_4.ext md2).ext mD).rng rfl rfl rfl) ?_
   refine DD 1 rfl (by kernel_rfl) rfl (fun wD mD => op_move rfl) ?_
   refine DD 2 rfl (by kernel_rfl) rfl (fun wD mD => op_move rfl) ?_
   refine DD 3 rfl (by kernel_rfl) rfl (fun wD mD => op_slLoX (i := u1) rfl rfl rfl Try.runUnderlying26 Try.sizeOf27 (by omega) (by omega)) ?_
   refine DR.fork (is := [4, 9]) (by kernel_rfl) (by decide) (all2 ?_ ?_)
   ·refine DP.call (i := 4) rfl rfl (.free rfl) rfl (ltb rfl) (vs := [.func (.func 21) #[] #[], .agg #[vS e1_4_0 0 nR1 e1_4_1, vS e1_4_3 0 nR1 e1_4_4, vS e1_4_6 0 nS1 e1_4_7, vI 1, vF kc1, vF kc2, vF 0, vF (e1_4_8.s0), vF (e1_4_8.s1), .bool op1, vF lo1, vF re1, vF sl1], .slice (slA b'1 0 c'1 u1) (16 - u1) (c'1 - u1)]) rfl ?_
    intro w32 m30
    refine ⟨oc_call (vs := [.agg #[vS e1_4_0 0 nR1 e1_4_1, vS e1_4_3 0 nR1 e1_4_4, vS e1_4_6 0 nS1 e1_4_7, vI 1, vF kc1, vF kc2, vF 0, vF (e1_4_8.s0), vF (e1_4_8.s1), .bool op1, vF lo1, vF re1, vF sl1], .slice (slA b'1 0 c'1 u1) (16 - u1) (c'1 - u1)]) (cap := []) rfl rfl rfl Try.call21 (c_iPlayZ nR1 nS1 xS1 kc1 kc2 op1 lo1 re1 sl1 e1_4_8 e1_4_1 e1_4_0 e1_4_2 w14.heap.size e1_4_4 e1_4_3 e1_4_5 w14.heap.size e1_4_7 e1_4_6 (16 - u1) (c'1 - u1) (slA b'1 0 c'1 u1) b'1 (0 + u1) ((Lq1.drop u1).take (16 - u1)) (by first | with_reducible assumption | exact DPz.mono (by with_reducible assumption) (by omega) | exact zTo_dz (by with_reducible assumption) (by with_reducible assumption) (by with_reducible first | assumption | exact bd_take (by assumption) _) (by omega)) hp1_4_3 hp1_4_4 hp1_4_0 hp1_4_1 hp1_4_5 (part_len h7 (by omega)) (slA_eq (by omega)) (w32_part h8) (by omega) w32 ((rr1_0.ext md2).ext m30).rng ((rr1_1.ext md2).ext m30).rng ((rr1_2.ext md2).ext m30).rng (rng_part ((((((((((r23.ext m8).ext m9).mod m10 (nC (lE (lL (lL r8.lt (lT (lT (lT m5.size m6.size) m7.size) m8.size)) lR)) nN)).ext m11).ext m12).ext m13).ext m14).ext m29).ext md2).ext m30).rng u1 (16 - u1)) ((fr1_0.ext md2).ext m30) ((fr1_1.ext md2).ext m30)), ?_⟩
    rintro _ w33 ⟨bR'6, cR'6, PR'6, bL'6, cL'6, PL'6, bS'6, cS'6, zz6, e'5, c3'5, A'5, ys5, rfl, h52, h53, h54, h55, h56, h57, h58, h59, h60, h61, r63, r64, r65, r66, ge26, ge27, ge28, ge29, ne38, ne39, ne40, ne41, ne42, ne43, fm11, fn44, fn45, fn46, fn47, fn48, fm12, fn49, fn50, fn51, fn52, m31⟩
    refine ⟨(((Mod.refl [] w31).nt m30).nt m31), ?_⟩
    refine DD 5 rfl (by kernel_rfl) rfl (fun wD mD => op_move rfl) ?_
    refine DD 6 rfl (by kernel_rfl) rfl (fun wD mD => op_extract rfl rfl) ?_
    refine DD 7 rfl (by kernel_rfl) rfl (fun wD mD => op_extract rfl rfl) ?_
    refine DD 8 rfl (by kernel_rfl) rfl (fun wD mD => op_extract rfl rfl) ?_
    refine DR.one1 (i := 9) rfl rfl (by kernel_rfl) (.free rfl) rfl (ltb rfl) ?_
    intro w34 m32
    refine Op1.mono (op_alloc (cs := [.slice none 0 0, .slice none 0 0, .slice none 0 0, vI 0, vF 0, vF 0, vF 0, vF 0, vF 0, .bool false, vF 0, vF 0, vF 0]) Try.zeroValue33 rfl) ?_
    rintro _ w35 ⟨rfl, r67, m33, z11⟩
    refine ⟨(((((Mod.refl [] w31).nt m30).nt m31).nt m32).nt m33), ?_⟩
    refine DR.st1 (i := 10) rfl rfl (by kernel_rfl) (.free rfl) rfl ?_
    intro w36 m34
    refine Op1.mono (op_store (i := 0) (cs := [vS bR'6 0 nR1 cR'6, vS bL'6 0 nR1 cL'6, vS bS'6 0 nS1 cS'6, vI 1, vF kc1, vF kc2, vF 0, vF (zz6.s0), vF (zz6.s1), .bool op1, vF lo1, vF re1, vF sl1]) rfl rfl rfl Try.sizeOf33 rfl (r67.ext m34) rfl (lB rfl) rfl) ?_
    rintro _ w37 ⟨r68, m35, z12⟩
    have r69 : Row w37 w34.heap.size 0 [vS bR'6 0 nR1 cR'6, vS bL'6 0 nR1 cL'6, vS bS'6 0 nS1 cS'6, vI 1, vF kc1, vF kc2, vF 0, vF (zz6.s0), vF (zz6.s1), .bool op1, vF lo1, vF re1, vF sl1] := Row.congr r68 rfl
    have sz9 := SzLe.mk (lT (lT m30.size m31.size) m32.size)
    refine ⟨(((((((Mod.refl [] w31).nt m30).nt m31).nt m32).nt m33).nt m34).then m35 ((aC (.inr (lT sz9 lR)) aN))), ?_⟩
    refine DR.rebase ?_
    refine DD 11 rfl (by kernel_rfl) rfl (fun wD mD => op_assign rfl) ?_
    refine DR.sub [(4, .bool false), (5, vP w1.heap.size 0), (6, vS b'1 0 16 c'1), (10, vP w8.heap.size 0), (11, .slice A'2 16 c3'2), (15, .slice e1_4_11 u1 e1_4_10), (16, vI 0), (17, vP w34.heap.size 0), (18, .slice A'5 (16 - u1) c3'5), (98, vI 0)] ⟨rfl, rfl, rfl, rfl, rfl, rfl, rfl, rfl, rfl, rfl, trivial⟩ ?_
    refine DR.meet rfl ?_
    intro w38 m36
    have r70 := (((((r63.ext m32).ext m33).ext m34).mod m35 (nC (lE (lL (lL r63.lt m32.size) lR)) nN)).ext m36)
    have r71 := (((((r64.ext m32).ext m33).ext m34).mod m35 (nC (lE (lL (lL r64.lt m32.size) lR)) nN)).ext m36)
    have r72 := (((((r65.ext m32).ext m33).ext m34).mod m35 (nC (lE (lL (lL r65.lt m32.size) lR)) nN)).ext m36)
    have r73 := (((((r66.ext m32).ext m33).ext m34).mod m35 (nC (lE (lL (lL r66.lt m32.size) lR)) nN)).ext m36)
    have sz10 := SzLe.mk (lT (lT (lT md2.size m30.size) m31.size) m32.size)
    exact ⟨bR'6, cR'6, PR'6, bL'6, cL'6, PL'6, bS'6, cS'6, zz6, e'5, c3'5, A'5, ys5, w34.heap.size, rfl, r70, r71, r72, r73, (r69.ext m36), (lT (lT md2.size m30.size) ge26), (lT (lT md2.size m30.size) ge27), (lT (lT md2.size m30.size) ge28), (lT (lT md2.size m30.size) ge29), (lT sz10 lR), ne38, ne39, ne41, (lE (lL (lL r63.lt m32.size) lR)), ne40, ne42, (lE (lL (lL r64.lt m32.size) lR)), ne43, (lE (lL (lL r65.lt m32.size) lR)), (lE (lL (lL r66.lt m32.size) lR)), h52, h53, h54, h55, h56, h57, h58, h59, h60, h61, (OF.low (((((fm11.ext m32).ext m33).ext m34).mod m35 (fun j hj => (nC (lE (lL (OF.lt fm11 (lQ (lQ hj h55) h55.symm)) (lT m32.size lR))) nN))).ext m36) (lT md2.size m30.size)), (fun j hj => (fn44 j (show j < nR1 by omega))), (fun j hj => (fn45 j (show j < nR1 by omega))), (fun j hj => (fn46 j (show j < nR1 by omega))), (fun j hj => (fn48 j (show j < nR1 by omega))), (fun j hj => (lE (lL (OF.lt fm11 (lQ (show j < nR1 by omega) h55.symm)) (lT m32.size lR)))), (fun j q hj hq => (fn47 j q (show j < nR1 by omega) (show q < nR1 by omega))), (OF.low (((((fm12.ext m32).ext m33).ext m34).mod m35 (fun j hj => (nC (lE (lL (OF.lt fm12 (lQ (lQ hj h56) h56.symm)) (lT m32.size lR))) nN))).ext m36) (lT md2.size m30.size)), (fun j hj => (fn49 j (show j < nR1 by omega))), (fun j hj => (fn50 j (show j < nR1 by omega))), (fun j hj => (fn51 j (show j < nR1 by omega))), (fun j hj => (fn52 j (show j < nR1 by omega))), (fun j hj => (lE (lL (OF.lt fm12 (lQ (show j < nR1 by omega) h56.symm)) (lT m32.size lR)))), (((((((((Mod.refl [] w30).nt md2).nt m30).nt m31).nt m32).nt m33).nt m34).then m35 ((aC (.inr (lT sz10 lR)) aN))).nt m36)⟩
   ·refine DP.op (i := 9) rfl rfl (.free rfl) rfl (ltb rfl) ?_
    intro w39 m37
    refine Op1.mono (op_alloc (cs := [.slice none 0 0, .slice none 0 0, .slice none 0 0, vI 0, vF 0, vF 0, vF 0, vF 0, vF 0, .bool false, vF 0, vF 0, vF 0]) Try.zeroValue33 rfl) ?_
    rintro _ w40 ⟨rfl, r74, m38, z13⟩
    refine ⟨(((Mod.refl [] w31).nt m37).nt m38), ?_⟩
    refine DR.one (i := 4) rfl rfl (by kernel_rfl) (.free rfl) rfl (ltb rfl) (vs := [.func (.func 21) #[] #[], .agg #[vS e1_4_0 0 nR1 e1_4_1, vS e1_4_3 0 nR1 e1_4_4, vS e1_4_6 0 nS1 e1_4_7, vI 1, vF kc1, vF kc2, vF 0, vF (e1_4_8.s0), vF (e1_4_8.s1), .bool op1, vF lo1, vF re1, vF sl1], .slice (slA b'1 0 c'1 u1) (16 - u1) (c'1 - u1)]) rfl ?_
    intro w41 m39
    refine ⟨oc_call (vs := [.agg #[vS e1_4_0 0 nR1 e1_4_1, vS e1_4_3 0 nR1 e1_4_4, vS e1_4_6 0 nS1 e1_4_7, vI 1, vF kc1, vF kc2, vF 0, vF (e1_4_8.s0), vF (e1_4_8.s1), .bool op1, vF lo1, vF re1, vF sl1], .slice (slA b'1 0 c'1 u1) (16 - u1) (c'1 - u1)]) (cap := []) rfl rfl rfl Try.call21 (c_iPlayZ nR1 nS1 xS1 kc1 kc2 op1 lo1 re1 sl1 e1_4_8 e1_4_1 e1_4_0 e1_4_2 w14.heap.size e1_4_4 e1_4_3 e1_4_5 w14.heap.size e1_4_7 e1_4_6 (16 - u1) (c'1 - u1) (slA b'1 0 c'1 u1) b'1 (0 + u1) ((Lq1.drop u1).take (16 - u1)) (by first | with_reducible assumption | exact DPz.mono (by with_reducible assumption) (by omega) | exact zTo_dz (by with_reducible assumption) (by with_reducible assumption) (by with_reducible first | assumption | exact bd_take (by assumption) _) (by omega)) hp1_4_3 hp1_4_4 hp1_4_0 hp1_4_1 hp1_4_5 (part_len h7 (by omega)) (slA_eq (by omega)) (w32_part h8) (by omega) w41 ((((rr1_0.ext md2).ext m37).ext m38).ext m39).rng ((((rr1_1.ext md2).ext m37).ext m38).ext m39).rng ((((rr1_2.ext md2).ext m37).ext m38).ext m39).rng (rng_part ((((((((((((r23.ext m8).ext m9).mod m10 (nC (lE (lL (lL r8.lt (lT (lT (lT m5.size m6.size) m7.size) m8.size)) lR)) nN)).ext m11).ext m12).ext m13).ext m14).ext m29).ext md2).ext m37).ext m38).ext m39).rng u1 (16 - u1)) ((((fr1_0.ext md2).ext m37).ext m38).ext m39) ((((fr1_1.ext md2).ext m37).ext m38).ext m39)), ?_⟩
    rintro _ w42 ⟨bR'7, cR'7, PR'7, bL'7, cL'7, PL'7, bS'7, cS'7, zz7, e'6, c3'6, A'6, ys6, rfl, h62, h63, h64, h65, h66, h67, h68, h69, h70, h71, r75, r76, r77, r78, ge30, ge31, ge32, ge33, ne44, ne45, ne46, ne47, ne48, ne49, fm13, fn53, fn54, fn55, fn56, fn57, fm14, fn58, fn59, fn60, fn61, m40⟩
    refine ⟨(((((Mod.refl [] w31).nt m37).nt m38).nt m39).nt m40), ?_⟩
    refine DD 5 rfl (by kernel_rfl) rfl (fun wD mD => op_move rfl) ?_
    refine DD 6 rfl (by kernel_rfl) rfl (fun wD mD => op_extract rfl rfl) ?_
    refine DD 7 rfl (by kernel_rfl) rfl (fun wD mD => op_extract rfl rfl) ?_
    refine DD 8 rfl (by kernel_rfl) rfl (fun wD mD => op_extract rfl rfl) ?_
    refine DR.st1 (i := 10) rfl rfl (by kernel_rfl) (.free rfl) rfl ?_
    intro w43 m41
    refine Op1.mono (op_store (i := 0) (cs := [vS bR'7 0 nR1 cR'7, vS bL'7 0 nR1 cL'7, vS bS'7 0 nS1 cS'7, vI 1, vF kc1, vF kc2, vF 0, vF (zz7.s0), vF (zz7.s1), .bool op1, vF lo1, vF re1, vF sl1]) rfl rfl rfl Try.sizeOf33 rfl (((r74.ext m39).ext m40).ext m41) rfl (lB rfl) rfl) ?_
    rintro _ w44 ⟨r79, m42, z14⟩
    have r80 : Row w44 w39.heap.size 0 [vS bR'7 0 nR1 cR'7, vS bL'7 0 nR1 cL'7, vS bS'7 0 nS1 cS'7, vI 1, vF kc1, vF kc2, vF 0, vF (zz7.s0), vF (zz7.s1), .bool op1, vF lo1, vF re1, vF sl1] := Row.congr r79 rfl
    refine ⟨(((((((Mod.refl [] w31).nt m37).nt m38).nt m39).nt m40).nt m41).then m42 ((aC (.inr (lT m37.size lR)) aN))), ?_⟩
    refine DR.rebase ?_
    refine DD 11 rfl (by kernel_rfl) rfl (fun wD mD => op_assign rfl) ?_
    refine DR.sub [(4, .bool false), (5, vP w1.heap.size 0), (6, vS b'1 0 16 c'1), (10, vP w8.heap.size 0), (11, .slice A'2 16 c3'2), (15, .slice e1_4_11 u1 e1_4_10), (16, vI 0), (17, vP w39.heap.size 0), (18, .slice A'6 (16 - u1) c3'6), (98, vI 0)] ⟨rfl, rfl, rfl, rfl, rfl, rfl, rfl, rfl, rfl, rfl, trivial⟩ ?_
    refine DR.meet rfl ?_
    intro w45 m43
    have r81 := (((r75.ext m41).mod m42 (nC (lG (lL (lL r74.lt m39.size) ge30)) nN)).ext m43)
    have r82 := (((r76.ext m41).mod m42 (nC (lG (lL (lL r74.lt m39.size) ge31)) nN)).ext m43)
    have r83 := (((r77.ext m41).mod m42 (nC (lG (lL (lL r74.lt m39.size) ge32)) nN)).ext m43)
    have r84 := (((r78.ext m41).mod m42 (nC (lG (lL (lL r74.lt m39.size) ge33)) nN)).ext m43)
    have sz11 := SzLe.mk (lT (lT (lT md2.size m37.size) m38.size) m39.size)
    exact ⟨bR'7, cR'7, PR'7, bL'7, cL'7, PL'7, bS'7, cS'7, zz7, e'6, c3'6, A'6, ys6, w39.heap.size, rfl, r81, r82, r83, r84, (r80.ext m43), (lT sz11 ge30), (lT sz11 ge31), (lT sz11 ge32), (lT sz11 ge33), (lT (lT md2.size m37.size) lR), ne44, ne45, ne47, (lG (lL (lL r74.lt m39.size) ge30)), ne46, ne48, (lG (lL (lL r74.lt m39.size) ge31)), ne49, (lG (lL (lL r74.lt m39.size) ge32)), (lG (lL (lL r74.lt m39.size) ge33)), h62, h63, h64, h65, h66, h67, h68, h69, h70, h71, (OF.low (((fm13.ext m41).mod m42 (fun j hj => (nC (lG (lL (lL r74.lt m39.size) (fm13.ge j (lQ (lQ hj h65) h65.symm)))) nN))).ext m43) sz11), (fun j hj => (fn53 j (show j < nR1 by omega))), (fun j hj => (fn54 j (show j < nR1 by omega))), (fun j hj => (fn55 j (show j < nR1 by omega))), (fun j hj => (fn57 j (show j < nR1 by omega))), (fun j hj => (lG (lL (lL r74.lt m39.size) (fm13.ge j (lQ (show j < nR1 by omega) h65.symm))))), (fun j q hj hq => (fn56 j q (show j < nR1 by omega) (show q < nR1 by omega))), (OF.low (((fm14.ext m41).mod m42 (fun j hj => (nC (lG (lL (lL r74.lt m39.size) (fm14.ge j (lQ (lQ hj h66) h66.symm)))) nN))).ext m43) sz11), (fun j hj => (fn58 j (show j < nR1 by omega))), (fun j hj => (fn59 j (show j < nR1 by omega))), (fun j hj => (fn60 j (show j < nR1 by omega))), (fun j hj => (fn61 j (show j < nR1 by omega))), (fun j hj => (lG (lL (lL r74.lt m39.size) (fm14.ge j (lQ (show j < nR1 by omega) h66.symm))))), (((((((((Mod.refl [] w30).nt md2).nt m37).nt m38).nt m39).nt m40).nt m41).then m42 ((aC (.inr (lT (lT md2.size m37.size) lR)) aN))).nt m43)⟩
  ·rintro _ w46 ⟨e2_4_0, e2_4_1, e2_4_2, e2_4_3, e2_4_4, e2_4_5, e2_4_6, e2_4_7, e2_4_8, e2_4_9, e2_4_10, e2_4_11, e2_4_12, e2_9_0, rfl, rr2_0, rr2_1, rr2_2, rr2_3, rr2_4, ge34, ge35, ge36, ge37, ge38, ne50, ne51, ne52, ne53, ne54, ne55, ne56, ne57, ne58, ne59, hp2_4_0, hp2_4_1, hp2_4_2, hp2_4_3, hp2_4_4, hp2_4_5, hp2_4_6, hp2_4_7, hp2_4_8, hp2_4_9, fr2_0, fa2_0_0, fa2_0_1, fa2_0_2, fa2_0_3, fa2_0_4, fb2_0_0, fr2_1, fa2_1_0, fa2_1_1, fa2_1_2, fa2_1_3, fa2_1_4, m44⟩
   refine WO.det (op_assign rfl) rfl (.free rfl) rfl rfl ?_
   refine WO.end (NE.code (CE.seq (CE.region ?_)))
   refine WD (op_build (qs := []) (cells := #[vF 0, vF 0, vF 0, vF 0, vF 0, vF 0, vF 0, vF 0, vF 0, vF 0, vF 0, vF 0, vF 0, vF 0, vF 0, vF 0]) rfl (by kernel_rfl)) rfl ?_
   refine WL.op (op_alloc (cs := fl (List.replicate 16 0)) Try.zeroValue72 rfl) rfl rfl (ltb rfl) ?_
   rintro _ w47 ⟨rfl, r85, m45, z15⟩
   refine WL.op0 (op_store (i := 0) (cs := fl (List.replicate 16 0)) rfl rfl rfl Try.sizeOf72 (fl_len List.length_replicate) r85 rfl (by rw [fl_length, List.length_replicate]; decide) (fl_one _)) rfl rfl ?_
   rintro _ w48 ⟨r86, m46, z16⟩
   have r87 : Row w48 w46.heap.size 0 (fl (List.replicate 16 0)) := Row.congr r86 (splice_all ((fl_len (List.length_replicate)).trans (fl_len (List.length_replicate)).symm))
   refine WL.end (NE.code (CE.seq (CE.seq (CE.region ?_))))
   refine WD (op_assign rfl) rfl ?_
   refine WL.end (NE.code (CE.block ?_))
   refine CE.loop (fun (i : Nat) => [(21, vI ((i : Nat) : Int)), (4, .bool false), (5, vP w1.heap.size 0), (6, vS b'1 0 16 c'1), (10, vP w8.heap.size 0), (11, .slice A'2 16 c3'2), (15, .slice e1_4_11 u1 e1_4_10), (16, vI 0), (17, vP e2_9_0 0), (18, .slice e2_4_11 (16 - u1) e2_4_10), (19, vI 0), (20, vP w46.heap.size 0)]) (fun (i : Nat) => fun W => (i ≤ 16) ∧ Row W w46.heap.size 0 (fl (over (fun j => Lq1.getD j 0) (List.replicate 16 0) i)) ∧ Mod [w46.heap.size] w48 W) (fun (i : Nat) => 16 - i) 0 (⟨rfl, rfl, rfl, rfl, rfl, rfl, rfl, rfl, rfl, rfl, rfl, rfl, trivial⟩) ⟨(by omega), (Row.congr r87 (over_zero _ (List.replicate 16 0))), Mod.refl _ _⟩ ?_
   rintro i w49 ⟨hi, r88, m47⟩
   show CE _ _ _ _ [(21, vI ((i : Nat) : Int)), (4, .bool false), (5, vP w1.heap.size 0), (6, vS b'1 0 16 c'1), (10, vP w8.heap.size 0), (11, .slice A'2 16 c3'2), (15, .slice e1_4_11 u1 e1_4_10), (16, vI 0), (17, vP e2_9_0 0), (18, .slice e2_4_11 (16 - u1) e2_4_10), (19, vI 0), (20, vP w46.heap.size 0)] _
   refine CE.seq (CE.seq (CE.region ?_))
   refine WD (op_move rfl) rfl ?_
   refine WD (op_lti rfl rfl) rfl ?_
   refine WL.end (NE.code ?_)
   rcases Bool.eq_false_or_eq_true (decide (((i : Nat) : Int) < (16 : Int))) with hb1 | hb1
   ·have hp1 := of_decide_eq_true hb1
    refine CE.cond_t rfl hb1 ?_
    refine CE.skip' (NE.code (CE.seq (CE.block (CE.region ?_))))
    iterate 3 refine WD (op_move rfl) rfl ?_
    refine WD (op_indexSl (off' := 0 + i) rfl rfl rfl Try.runUnderlying26 Try.sizeOf27 (by omega) (by omega) (by omega)) rfl ?_
    have sz12 := SzLe.mk (lT (lT (lT m5.size m6.size) m7.size) m8.size)
    have sz13 := SzLe.mk (lT (lT (lT (lT (lT (lT (lT (lT sz12 m9.size) m10.size) m11.size) m12.size) m13.size) m14.size) m29.size) m44.size)
    have r89 := ((((((((((((r23.ext m8).ext m9).mod m10 (nC (lE (lL (lL r8.lt sz12) lR)) nN)).ext m11).ext m12).ext m13).ext m14).ext m29).ext m44).ext m45).mod m46 (nC (lE (lL (lL r8.lt sz13) lR)) nN)).mod m47 (nC (lE (lL (lL r8.lt sz13) lR)) nN))
    refine WD (op_load1 (i := i) rfl Try.isAgg27 r89.rng rfl (fl_get (by have eL : List.length Lq1 = 16 := h7; omega))) rfl ?_
    refine WD (op_indexArr (off' := 0 + i) rfl rfl Try.runUnderlying72 Try.sizeOf27 (by omega) (by omega) (by omega)) rfl ?_
    refine WL.op0 (op_store (i := i) (cs := [vF (Lq1.getD i 0)]) rfl rfl rfl Try.sizeOf27 rfl r88 rfl (by rw [fl_length]; have eL : List.length (over (fun j => Lq1.getD j 0) (List.replicate 16 0) i) = 16 := (over_len List.length_replicate (by omega)); omega) rfl) rfl rfl ?_
    rintro _ w50 ⟨r90, m48, z17⟩
    have r91 : Row w50 w46.heap.size 0 (fl ((over (fun j => Lq1.getD j 0) (List.replicate 16 0) i).set i (Lq1.getD i 0))) := Row.congr r90 (fl_splice (by have eL : List.length (over (fun j => Lq1.getD j 0) (List.replicate 16 0) i) = 16 := (over_len List.length_replicate (by omega)); omega))
    refine WL.end (NE.blk (NE.code (CE.region ?_)))
    refine WD (op_move rfl) rfl ?_
    refine WD (op_add (r := ((i + 1 : Nat) : Int)) rfl rfl (w_i64 (by omega) (by omega))) rfl ?_
    refine WD (op_assign rfl) rfl ?_
    refine WL.end ?_
    exact NE.again (i + 1) (⟨rfl, rfl, rfl, rfl, rfl, rfl, rfl, rfl, rfl, rfl, rfl, rfl, trivial⟩) ⟨(by omega), (Row.congr r91 (over_set (m := 16) List.length_replicate (by omega))), (m47.then m48 ((aC (.inl (by simp)) aN)))⟩ (by first | (dsimp only; omega) | omega)
   ·have hp1 := of_decide_eq_false hb1
    refine CE.cond_f rfl hb1 ?_
    refine CE.exit' (XE.exit_then (XE.exit_then (XE.exit_here (NE.code (CE.seq (CE.region ?_))))))
    have sz14 := SzLe.mk (lT (lT (lT sz1 m6.size) m7.size) m8.size)
    have sz15 := SzLe.mk (lT (lT (lT (lT (lT (lT (lT (lT sz14 m9.size) m10.size) m11.size) m12.size) m13.size) m14.size) m29.size) m44.size)
    have r92 := ((((((((((((r19.ext m8).ext m9).mod m10 (nC (lE (lL (lL r4.lt sz14) lR)) nN)).ext m11).ext m12).ext m13).ext m14).ext m29).ext m44).ext m45).mod m46 (nC (lE (lL (lL r4.lt sz15) lR)) nN)).mod m47 (nC (lE (lL (lL r4.lt sz15) lR)) nN))
    refine WD (op_loadA (i := 0) (cs := [vS bR'1 0 nR1 cR'1, vS bL'1 0 nR1 cL'1, vS bS'1 0 nS1 cS'1, vI 1, vF kc1, vF kc2, vF 0, vF (zz1.s0), vF (zz1.s1), .bool op1, vF lo1, vF re1, vF sl1]) rfl Try.isAgg33 Try.sizeOf33 r92.rng rfl rfl rfl) rfl ?_
    refine WD (op_loadA (i := 0) (cs := fl (over (fun j => Lq1.getD j 0) (List.replicate 16 0) i)) rfl Try.isAgg72 Try.sizeOf72 r88.rng rfl (fl_whole (over_len List.length_replicate (by omega))) (fl_len (over_len List.length_replicate (by omega)))) rfl ?_
    have sz16 := SzLe.mk (lT (lT (lT sz2 m6.size) m7.size) m8.size)
    have sz17 := SzLe.mk (lT (lT (lT (lT (lT (lT (lT (lT sz16 m9.size) m10.size) m11.size) m12.size) m13.size) m14.size) m29.size) m44.size)
    have r93 := ((((((((((((r20.ext m8).ext m9).mod m10 (nC (lE (lL (lL r1.lt sz16) lR)) nN)).ext m11).ext m12).ext m13).ext m14).ext m29).ext m44).ext m45).mod m46 (nC (lE (lL (lL r1.lt sz17) lR)) nN)).mod m47 (nC (lE (lL (lL r1.lt sz17) lR)) nN))
    have r94 := ((((((((((((r21.ext m8).ext m9).mod m10 (nC (lE (lL (lL r2.lt sz16) lR)) nN)).ext m11).ext m12).ext m13).ext m14).ext m29).ext m44).ext m45).mod m46 (nC (lE (lL (lL r2.lt sz17) lR)) nN)).mod m47 (nC (lE (lL (lL r2.lt sz17) lR)) nN))
    have r95 := ((((((((((((r22.ext m8).ext m9).mod m10 (nC (lE (lL (lL r3.lt sz16) lR)) nN)).ext m11).ext m12).ext m13).ext m14).ext m29).ext m44).ext m45).mod m46 (nC (lE (lL (lL r3.lt sz17) lR)) nN)).mod m47 (nC (lE (lL (lL r3.lt sz17) lR)) nN))
    refine WL.call (oc_call (vs := [.agg #[vS bR'1 0 nR1 cR'1, vS bL'1 0 nR1 cL'1, vS bS'1 0 nS1 cS'1, vI 1, vF kc1, vF kc2, vF 0, vF (zz1.s0), vF (zz1.s1), .bool op1, vF lo1, vF re1, vF sl1], .agg (fl (over (fun j => Lq1.getD j 0) (List.replicate 16 0) i)).toArray]) (cap := []) rfl rfl rfl Try.call45 (c_iBlockZ nR1 nS1 xS1 kc1 kc2 op1 lo1 re1 sl1 zz1 cR'1 bR'1 PR'1 w.heap.size cL'1 bL'1 PL'1 w.heap.size cS'1 bS'1 (over (fun j => Lq1.getD j 0) (List.replicate 16 0) i) (by first | with_reducible assumption | exact DPz.mono (by with_reducible assumption) (by omega) | exact zTo_dz (by with_reducible assumption) (by with_reducible assumption) (by with_reducible first | assumption | exact bd_take (by assumption) _) (by omega)) h4 h5 h1 h2 h6 (over_len List.length_replicate (by omega)) (over_w h8 i) w49 r93.rng r94.rng r95.rng ((((((((((((((((((fm1.ext m2).mod m3 (fun j hj => (nC (lE (lL (OF.lt fm1 (lQ (lQ hj h4) h4.symm)) lR)) nN))).ext m4).ext m5).ext m6).mod m7 (fun j hj => (nC (lE (lL (OF.lt fm1 (lQ (lQ hj h4) h4.symm)) (lT sz2 lR))) nN))).ext m8).ext m9).mod m10 (fun j hj => (nC (lE (lL (OF.lt fm1 (lQ (lQ hj h4) h4.symm)) (lT sz16 lR))) nN))).ext m11).ext m12).ext m13).ext m14).ext m29).ext m44).ext m45).mod m46 (fun j hj => (nC (lE (lL (OF.lt fm1 (lQ (lQ hj h4) h4.symm)) (lT sz17 lR))) nN))).mod m47 (fun j hj => (nC (lE (lL (OF.lt fm1 (lQ (lQ hj h4) h4.symm)) (lT sz17 lR))) nN))) ((((((((((((((((((fm2.ext m2).mod m3 (fun j hj => (nC (lE (lL (OF.lt fm2 (lQ (lQ hj h5) h5.symm)) lR)) nN))).ext m4).ext m5).ext m6).mod m7 (fun j hj => (nC (lE (lL (OF.lt fm2 (lQ (lQ hj h5) h5.symm)) (lT sz2 lR))) nN))).ext m8).ext m9).mod m10 (fun j hj => (nC (lE (lL (OF.lt fm2 (lQ (lQ hj h5) h5.symm)) (lT sz16 lR))) nN))).ext m11).ext m12).ext m13).ext m14).ext m29).ext m44).ext m45).mod m46 (fun j hj => (nC (lE (lL (OF.lt fm2 (lQ (lQ hj h5) h5.symm)) (lT sz17 lR))) nN))).mod m47 (fun j hj => (nC (lE (lL (OF.lt fm2 (lQ (lQ hj h5) h5.symm)) (lT sz17 lR))) nN))))) rfl rfl (ltb rfl) ?_
    rintro _ w51 ⟨bR'8, cR'8, PR'8, bL'8, cL'8, PL'8, bS'8, cS'8, zz8, ys7, rfl, h72, h73, h74, h75, h76, h77, h78, h79, h80, r96, r97, r98, ge39, ge40, ge41, ne60, ne61, ne62, fm15, fn62, fn63, fn64, fn65, fm16, fn66, fn67, fn68, m49⟩
    refine WD (op_move rfl) rfl ?_
    iterate 3 refine WD (op_extract rfl rfl) rfl ?_
    refine WL.op (op_alloc (cs := [.slice none 0 0, .slice none 0 0, .slice none 0 0, vI 0, vF 0, vF 0, vF 0, vF 0, vF 0, .bool false, vF 0, vF 0, vF 0]) Try.zeroValue33 rfl) rfl rfl (ltb rfl) ?_
    rintro _ w52 ⟨rfl, r99, m50, z18⟩
    refine WL.op (op_alloc (cs := fl (List.replicate 16 0)) Try.zeroValue72 rfl) rfl rfl (ltb rfl) ?_
    rintro _ w53 ⟨rfl, r100, m51, z19⟩
    refine WL.op0 (op_store (i := 0) (cs := [vS bR'8 0 nR1 cR'8, vS bL'8 0 nR1 cL'8, vS bS'8 0 nS1 cS'8, vI 1, vF kc1, vF kc2, vF 0, vF (zz8.s0), vF (zz8.s1), .bool op1, vF lo1, vF re1, vF sl1]) rfl rfl rfl Try.sizeOf33 rfl (r99.ext m51) rfl (lB rfl) rfl) rfl rfl ?_
    rintro _ w54 ⟨r101, m52, z20⟩
    have r102 : Row w54 w51.heap.size 0 [vS bR'8 0 nR1 cR'8, vS bL'8 0 nR1 cL'8, vS bS'8 0 nS1 cS'8, vI 1, vF kc1, vF kc2, vF 0, vF (zz8.s0), vF (zz8.s1), .bool op1, vF lo1, vF re1, vF sl1] := Row.congr r101 rfl
    refine WL.op0 (op_store (i := 0) (cs := fl ys7) rfl rfl rfl Try.sizeOf72 (fl_len h78) (r100.mod m52 (nC (lG (lL r99.lt lR)) nN)) rfl (by rw [fl_length, List.length_replicate]; decide) (fl_one _)) rfl rfl ?_
    rintro _ w55 ⟨r103, m53, z21⟩
    have r104 : Row w55 w52.heap.size 0 (fl ys7) := Row.congr r103 (splice_all ((fl_len (List.length_replicate)).trans (fl_len (h78)).symm))
    refine WD (op_assign rfl) rfl ?_
    refine WL.end (NE.code (CE.seq (CE.region ?_)))
    have sz18 := SzLe.mk (lT (lT (lT (lT sz15 m45.size) m46.size) m47.size) m49.size)
    have r105 := (((((r92.ext m49).ext m50).ext m51).mod m52 (nC (lE (lL (lL r4.lt sz18) lR)) nN)).mod m53 (nC (lE (lL (lL r4.lt (lT sz18 m50.size)) lR)) nN))
    refine WD (op_loadA (i := 0) (cs := [vS bR'1 0 nR1 cR'1, vS bL'1 0 nR1 cL'1, vS bS'1 0 nS1 cS'1, vI 1, vF kc1, vF kc2, vF 0, vF (zz1.s0), vF (zz1.s1), .bool op1, vF lo1, vF re1, vF sl1]) rfl Try.isAgg33 Try.sizeOf33 r105.rng rfl rfl rfl) rfl ?_
    refine WL.op (op_alloc (cs := [.slice none 0 0, .slice none 0 0, .slice none 0 0, vI 0, vF 0, vF 0, vF 0, vF 0, vF 0, .bool false, vF 0, vF 0, vF 0]) Try.zeroValue33 rfl) rfl rfl (ltb rfl) ?_
    rintro _ w56 ⟨rfl, r106, m54, z22⟩
    refine WL.op0 (op_store (i := 0) (cs := [vS bR'1 0 nR1 cR'1, vS bL'1 0 nR1 cL'1, vS bS'1 0 nS1 cS'1, vI 1, vF kc1, vF kc2, vF 0, vF (zz1.s0), vF (zz1.s1), .bool op1, vF lo1, vF re1, vF sl1]) rfl rfl rfl Try.sizeOf33 rfl r106 rfl (lB rfl) rfl) rfl rfl ?_
    rintro _ w57 ⟨r107, m55, z23⟩
    have r108 : Row w57 w55.heap.size 0 [vS bR'1 0 nR1 cR'1, vS bL'1 0 nR1 cL'1, vS bS'1 0 nS1 cS'1, vI 1, vF kc1, vF kc2, vF 0, vF (zz1.s0), vF (zz1.s1), .bool op1, vF lo1, vF re1, vF sl1] := Row.congr r107 rfl
    refine WL.end (NE.code (CE.seq (CE.region ?_)))
    refine WL.op (op_emptySl rfl Try.runUnderlying26 Try.sizeOf27) rfl rfl (ltb rfl) ?_
    rintro _ w58 ⟨rfl, r109, m56, z24⟩
    refine WD (op_assign rfl) rfl ?_
    refine WL.end (NE.code (CE.seq (CE.seq (CE.region ?_))))
    refine WD (op_assign rfl) rfl ?_
    refine WL.end (NE.code (CE.block ?_))
    have sz19 := SzLe.mk (lT (lT (lT (lT sz17 m45.size) m46.size) m47.size) m49.size)
    have sz20 := SzLe.mk (lT (lT (lT (lT sz19 m50.size) m51.size) m52.size) m53.size)
    have r110 := ((((((((r93.ext m49).ext m50).ext m51).mod m52 (nC (lE (lL (lL r1.lt sz19) lR)) nN)).mod m53 (nC (lE (lL (lL r1.lt (lT sz19 m50.size)) lR)) nN)).ext m54).mod m55 (nC (lE (lL (lL r1.lt sz20) lR)) nN)).ext m56)
    have r111 := ((((((((r94.ext m49).ext m50).ext m51).mod m52 (nC (lE (lL (lL r2.lt sz19) lR)) nN)).mod m53 (nC (lE (lL (lL r2.lt (lT sz19 m50.size)) lR)) nN)).ext m54).mod m55 (nC (lE (lL (lL r2.lt sz20) lR)) nN)).ext m56)
    have r112 := ((((((((r95.ext m49).ext m50).ext m51).mod m52 (nC (lE (lL (lL r3.lt sz19) lR)) nN)).mod m53 (nC (lE (lL (lL r3.lt (lT sz19 m50.size)) lR)) nN)).ext m54).mod m55 (nC (lE (lL (lL r3.lt sz20) lR)) nN)).ext m56)
    refine CE.loop (fun (z : Nat × PipeSt × Nat × Nat × List BC × Nat × Nat × List BC × Nat × Nat × Option Addr × Nat × List Nat) => [(27, vI ((z.1 : Nat) : Int)), (26, .slice z.2.2.2.2.2.2.2.2.2.2.1 z.1 z.2.2.2.2.2.2.2.2.2.2.2.1), (4, .bool false), (6, vS b'1 0 16 c'1), (10, vP w8.heap.size 0), (11, .slice A'2 16 c3'2), (15, .slice e1_4_11 u1 e1_4_10), (16, vI 0), (17, vP e2_9_0 0), (18, .slice e2_4_11 (16 - u1) e2_4_10), (19, vI 0), (22, vP w51.heap.size 0), (23, vP w52.heap.size 0), (24, vI 0), (25, vP w55.heap.size 0)]) (fun (z : Nat × PipeSt × Nat × Nat × List BC × Nat × Nat × List BC × Nat × Nat × Option Addr × Nat × List Nat) => fun W => (z.1 ≤ 16) ∧ (z.2.1 = zTo nR1 nS1 xS1 kc1 kc2 op1 lo1 re1 sl1 zz1 Lq1 z.1) ∧ (z.2.1.R.length = nR1) ∧ (z.2.1.L.length = nR1) ∧ (z.2.2.2.2.1.length = nR1) ∧ (z.2.2.2.2.2.2.2.1.length = nR1) ∧ (z.2.2.2.2.2.2.2.2.2.2.2.2.length = z.1) ∧ (W32 z.2.2.2.2.2.2.2.2.2.2.2.2) ∧ (Cn z.2.2.2.2.2.2.2.2.2.2.2.2 (oTo nR1 nS1 xS1 kc1 kc2 op1 lo1 re1 sl1 zz1 Lq1 z.1)) ∧ Row W w55.heap.size 0 [vS z.2.2.2.1 0 nR1 z.2.2.1, vS z.2.2.2.2.2.2.1 0 nR1 z.2.2.2.2.2.1, vS z.2.2.2.2.2.2.2.2.2.1 0 nS1 z.2.2.2.2.2.2.2.2.1, vI 1, vF kc1, vF kc2, vF 0, vF (z.2.1.s0), vF (z.2.1.s1), .bool op1, vF lo1, vF re1, vF sl1] ∧ Row W z.2.2.2.1 0 (olc z.2.1.R z.2.2.2.2.1) ∧ Row W z.2.2.2.2.2.2.1 0 (olc z.2.1.L z.2.2.2.2.2.2.2.1) ∧ Row W z.2.2.2.2.2.2.2.2.2.1 0 (fl xS1) ∧ Own 27 1 w58.heap.size W z.2.2.2.2.2.2.2.2.2.2.1 z.1 z.2.2.2.2.2.2.2.2.2.2.2.1 (fl z.2.2.2.2.2.2.2.2.2.2.2.2) ∧ OF w.heap.size W z.2.1.R z.2.2.2.2.1 ∧ OF w.heap.size W z.2.1.L z.2.2.2.2.2.2.2.1 ∧ Mod [w55.heap.size] w58 W) (fun (z : Nat × PipeSt × Nat × Nat × List BC × Nat × Nat × List BC × Nat × Nat × Option Addr × Nat × List Nat) => 16 - z.1) (0, zz1, cR'1, bR'1, PR'1, cL'1, bL'1, PL'1, cS'1, bS'1, (some ⟨w57.heap.size, 0, none⟩), 0, []) (⟨rfl, rfl, rfl, rfl, rfl, rfl, rfl, rfl, rfl, rfl, rfl, rfl, rfl, rfl, rfl, trivial⟩) ⟨(by omega), (by exact zTo_zero), (by dsimp only; assumption), (by dsimp only; assumption), (by dsimp only; assumption), (by dsimp only; assumption), (by rfl), (by exact W32.nil), (by exact Cn.refl _), (Row.congr (r108.ext m56) rfl), (Row.congr r110 rfl), (Row.congr r111 rfl), (Row.congr r112 rfl), (Own.congr Own.emp (rfl)), ((((((((((((((((((((((((((fm1.ext m2).mod m3 (fun j hj => (nC (lE (lL (OF.lt fm1 (lQ (lQ hj h4) h4.symm)) lR)) nN))).ext m4).ext m5).ext m6).mod m7 (fun j hj => (nC (lE (lL (OF.lt fm1 (lQ (lQ hj h4) h4.symm)) (lT sz2 lR))) nN))).ext m8).ext m9).mod m10 (fun j hj => (nC (lE (lL (OF.lt fm1 (lQ (lQ hj h4) h4.symm)) (lT sz16 lR))) nN))).ext m11).ext m12).ext m13).ext m14).ext m29).ext m44).ext m45).mod m46 (fun j hj => (nC (lE (lL (OF.lt fm1 (lQ (lQ hj h4) h4.symm)) (lT sz17 lR))) nN))).mod m47 (fun j hj => (nC (lE (lL (OF.lt fm1 (lQ (lQ hj h4) h4.symm)) (lT sz17 lR))) nN))).ext m49).ext m50).ext m51).mod m52 (fun j hj => (nC (lE (lL (OF.lt fm1 (lQ (lQ hj h4) h4.symm)) (lT sz19 lR))) nN))).mod m53 (fun j hj => (nC (lE (lL (OF.lt fm1 (lQ (lQ hj h4) h4.symm)) (lT (lT sz19 m50.size) lR))) nN))).ext m54).mod m55 (fun j hj => (nC (lE (lL (OF.lt fm1 (lQ (lQ hj h4) h4.symm)) (lT sz20 lR))) nN))).ext m56), ((((((((((((((((((((((((((fm2.ext m2).mod m3 (fun j hj => (nC (lE (lL (OF.lt fm2 (lQ (lQ hj h5) h5.symm)) lR)) nN))).ext m4).ext m5).ext m6).mod m7 (fun j hj => (nC (lE (lL (OF.lt fm2 (lQ (lQ hj h5) h5.symm)) (lT sz2 lR))) nN))).ext m8).ext m9).mod m10 (fun j hj => (nC (lE (lL (OF.lt fm2 (lQ (lQ hj h5) h5.symm)) (lT sz16 lR))) nN))).ext m11).ext m12).ext m13).ext m14).ext m29).ext m44).ext m45).mod m46 (fun j hj => (nC (lE (lL (OF.lt fm2 (lQ (lQ hj h5) h5.symm)) (lT sz17 lR))) nN))).mod m47 (fun j hj => (nC (lE (lL (OF.lt fm2 (lQ (lQ hj h5) h5.symm)) (lT sz17 lR))) nN))).ext m49).ext m50).ext m51).mod m52 (fun j hj => (nC (lE (lL (OF.lt fm2 (lQ (lQ hj h5) h5.symm)) (lT sz19 lR))) nN))).mod m53 (fun j hj => (nC (lE (lL (OF.lt fm2 (lQ (lQ hj h5) h5.symm)) (lT (lT sz19 m50.size) lR))) nN))).ext m54).mod m55 (fun j hj => (nC (lE (lL (OF.lt fm2 (lQ (lQ hj h5) h5.symm)) (lT sz20 lR))) nN))).ext m56), Mod.refl _ _⟩ ?_
    rintro ⟨iq, z, cR, bR, PR, cL, bL, PL, cS, bS, Aq, cc, ys⟩ w59 ⟨hiq, hez, lzR, lzL, lzP, lzQ, hly, hwy, hcy, r113, r114, r115, r116, ow1, fm17, fm18, m57⟩
    replace hiq : iq ≤ 16 := hiq
    replace hez : z = zTo nR1 nS1 xS1 kc1 kc2 op1 lo1 re1 sl1 zz1 Lq1 iq := hez
    replace lzR : z.R.length = nR1 := lzR
    replace lzL : z.L.length = nR1 := lzL
    replace lzP : PR.length = nR1 := lzP
    replace lzQ : PL.length = nR1 := lzQ
    replace hly : ys.length = iq := hly
    replace hwy : W32 ys := hwy
    replace hcy : Cn ys (oTo nR1 nS1 xS1 kc1 kc2 op1 lo1 re1 sl1 zz1 Lq1 iq) := hcy
    replace r113 : Row w59 w55.heap.size 0 [vS bR 0 nR1 cR, vS bL 0 nR1 cL, vS bS 0 nS1 cS, vI 1, vF kc1, vF kc2, vF 0, vF (z.s0), vF (z.s1), .bool op1, vF lo1, vF re1, vF sl1] := r113
    replace r114 : Row w59 bR 0 (olc z.R PR) := r114
    replace r115 : Row w59 bL 0 (olc z.L PL) := r115
    replace r116 : Row w59 bS 0 (fl xS1) := r116
    replace ow1 : Own 27 1 w58.heap.size w59 Aq iq cc (fl ys) := ow1
    replace fm17 : OF w.heap.size w59 z.R PR := fm17
    replace fm18 : OF w.heap.size w59 z.L PL := fm18
    show CE _ _ _ _ [(27, vI ((iq : Nat) : Int)), (26, .slice Aq iq cc), (4, .bool false), (6, vS b'1 0 16 c'1), (10, vP w8.heap.size 0), (11, .slice A'2 16 c3'2), (15, .slice e1_4_11 u1 e1_4_10), (16, vI 0), (17, vP e2_9_0 0), (18, .slice e2_4_11 (16 - u1) e2_4_10), (19, vI 0), (22, vP w51.heap.size 0), (23, vP w52.heap.size 0), (24, vI 0), (25, vP w55.heap.size 0)] _
    refine CE.seq (CE.seq (CE.region ?_))
    refine WD (op_move rfl) rfl ?_
    refine WD (op_lti rfl rfl) rfl ?_
    refine WL.end (NE.code ?_)
    rcases Bool.eq_false_or_eq_true (decide (((iq : Nat) : Int) < (16 : Int))) with hb2 | hb2
    ·have hp2 := of_decide_eq_true hb2
     refine CE.cond_t rfl hb2 ?_
     refine CE.skip' (NE.code (CE.seq (CE.block (CE.seq ?_))))
     refine CE.drawF (fun | 5 => some (fun _ wA uA wB => ∃ (bR' : Nat) (cR' : Nat) (PR' : List BC) (bL' : Nat) (cL' : Nat) (PL' : List BC) (bS' : Nat) (cS' : Nat) (zz : PipeSt) (y : Nat), uA = .tuple #[.agg #[vS bR' 0 nR1 cR', vS bL' 0 nR1 cL', vS bS' 0 nS1 cS', vI 1, vF kc1, vF kc2, vF 0, vF (zz.s0), vF (zz.s1), .bool op1, vF lo1, vF re1, vF sl1], vF y, vI 0] ∧ (PR'.length = nR1) ∧ (PL'.length = nR1) ∧ (zz = pipeNext nR1 nS1 xS1 1 kc1 kc2 0 op1 lo1 re1 sl1 z (Lq1.getD iq 0)) ∧ (zz.R.length = nR1) ∧ (zz.L.length = nR1) ∧ (xS1.length = nS1) ∧ (cn .f32 y = cn .f32 (stepY 1 kc1 kc2 0 z.s0 z.s1 (oldD z.R (nR1 - 1)))) ∧ (y < wid .f32) ∧ Row wB bR' 0 (olc zz.R PR') ∧ Row wB bL' 0 (olc zz.L PL') ∧ Row wB bS' 0 (fl xS1) ∧ wA.heap.size ≤ bR' ∧ wA.heap.size ≤ bL' ∧ wA.heap.size ≤ bS' ∧ bR' ≠ bL' ∧ bR' ≠ bS' ∧ bL' ≠ bS' ∧ OF wA.heap.size wB zz.R PR' ∧ (∀ i, i < nR1 → (PR'.getD i BC.d).b ≠ bR') ∧ (∀ i, i < nR1 → (PR'.getD i BC.d).b ≠ bL') ∧ (∀ i, i < nR1 → (PR'.getD i BC.d).b ≠ bS') ∧ (∀ i j, i < nR1 → j < nR1 → (PR'.getD i BC.d).b ≠ (PL'.getD j BC.d).b) ∧ OF wA.heap.size wB zz.L PL' ∧ (∀ i, i < nR1 → (PL'.getD i BC.d).b ≠ bR') ∧ (∀ i, i < nR1 → (PL'.getD i BC.d).b ≠ bL') ∧ (∀ i, i < nR1 → (PL'.getD i BC.d).b ≠ bS') ∧ Mod [] wA wB) | _ => none) [0, 1, 2, 3, 4, 5, 6, 7, 8, 9, 10, 11, 12] [13] [] (fun ρ W => ∃ (e3_5_0 : Nat) (e3_5_1 : Nat) (e3_5_2 : List BC) (e3_5_3 : Nat) (e3_5_4 : Nat) (e3_5_5 : List BC) (e3_5_6 : Nat) (e3_5_7 : Nat) (e3_5_8 : PipeSt) (e3_5_9 : Nat) (e3_10_0 : Nat), ρ = [(4, .bool false), (6, vS b'1 0 16 c'1), (10, vP w8.heap.size 0), (11, .slice A'2 16 c3'2), (15, .slice e1_4_11 u1 e1_4_10), (16, vI 0), (17, vP e2_9_0 0), (18, .slice e2_4_11 (16 - u1) e2_4_10), (19, vI 0), (22, vP w51.heap.size 0), (23, vP w52.heap.size 0), (24, vI 0), (25, vP w55.heap.size 0), (26, .slice Aq iq cc), (27, vI ((iq : Nat) : Int)), (28, vP e3_10_0 0), (29, vF e3_5_9), (132, vI 0)] ∧ Row W e3_5_0 0 (olc e3_5_8.R e3_5_2) ∧ Row W e3_5_3 0 (olc e3_5_8.L e3_5_5) ∧ Row W e3_5_6 0 (fl xS1) ∧ Row W e3_10_0 0 [vS e3_5_0 0 nR1 e3_5_1, vS e3_5_3 0 nR1 e3_5_4, vS e3_5_6 0 nS1 e3_5_7, vI 1, vF kc1, vF kc2, vF 0, vF (e3_5_8.s0), vF (e3_5_8.s1), .bool op1, vF lo1, vF re1, vF sl1] ∧ w59.heap.size ≤ e3_5_0 ∧ w59.heap.size ≤ e3_5_3 ∧ w59.heap.size ≤ e3_5_6 ∧ w59.heap.size ≤ e3_10_0 ∧ e3_5_0 ≠ e3_5_3 ∧ e3_5_0 ≠ e3_5_6 ∧ e3_5_0 ≠ e3_10_0 ∧ e3_5_3 ≠ e3_5_6 ∧ e3_5_3 ≠ e3_10_0 ∧ e3_5_6 ≠ e3_10_0 ∧ (e3_5_2.length = nR1) ∧ (e3_5_5.length = nR1) ∧ (e3_5_8 = pipeNext nR1 nS1 xS1 1 kc1 kc2 0 op1 lo1 re1 sl1 z (Lq1.getD iq 0)) ∧ (e3_5_8.R.length = nR1) ∧ (e3_5_8.L.length = nR1) ∧ (xS1.length = nS1) ∧ (cn .f32 e3_5_9 = cn .f32 (stepY 1 kc1 kc2 0 z.s0 z.s1 (oldD z.R (nR1 - 1)))) ∧ (e3_5_9 < wid .f32) ∧ OF w59.heap.size W e3_5_8.R e3_5_2 ∧ (∀ i, i < nR1 → (e3_5_2.getD i BC.d).b ≠ e3_5_0) ∧ (∀ i, i < nR1 → (e3_5_2.getD i BC.d).b ≠ e3_5_3) ∧ (∀ i, i < nR1 → (e3_5_2.getD i BC.d).b ≠ e3_5_6) ∧ (∀ i, i < nR1 → (e3_5_2.getD i BC.d).b ≠ e3_10_0) ∧ (∀ i j, i < nR1 → j < nR1 → (e3_5_2.getD i BC.d).b ≠ (e3_5_5.getD j BC.d).b) ∧ OF w59.heap.size W e3_5_8.L e3_5_5 ∧ (∀ i, i < nR1 → (e3_5_5.getD i BC.d).b ≠ e3_5_0) ∧ (∀ i, i < nR1 → (e3_5_5.getD i BC.d).b ≠ e3_5_3) ∧ (∀ i, i < nR1 → (e3_5_5.getD i BC.d).b ≠ e3_5_6) ∧ (∀ i, i < nR1 → (e3_5_5.getD i BC.d).b ≠ e3_10_0) ∧ Mod [] w59 W) (by kernel_rfl) (by kernel_rfl) ?_ ?_
     have md3 : Mod [] w59 w59.drew := (Mod.refl _ _).drew
     generalize w59.drew = w60 at md3 ⊢
     ·refine DD 0 rfl (by kernel_rfl) rfl (fun wD mD => op_loadA (i := 0) (cs := [vS bR 0 nR1 cR, vS bL 0 nR1 cL, vS bS 0 nS1 cS, vI 1, vF kc1, vF kc2, vF 0, vF (z.s0), vF (z.s1), .bool op1, vF lo1, vF re1, vF sl1]) rfl Try.isAgg33 Try.sizeOf33 ((r113.ext md3).ext mD).rng rfl rfl rfl) ?_
      refine DD 1 rfl (by kernel_rfl) rfl (fun wD mD => op_move rfl) ?_
      refine DD 2 rfl (by kernel_rfl) rfl (fun wD mD => op_move rfl) ?_
      refine DD 3 rfl (by kernel_rfl) rfl (fun wD mD => op_indexSl (off' := 0 + iq) rfl rfl rfl Try.runUnderlying26 Try.sizeOf27 (by omega) (by omega) (by omega)) ?_
      refine DD 4 rfl (by kernel_rfl) rfl (fun wD mD => op_load1 (i := iq) rfl Try.isAgg27 (((((((((((((((((((((((r23.ext m8).ext m9).mod m10 (nC (lE (lL (lL r8.lt (lT (lT (lT m5.size m6.size) m7.size) m8.size)) lR)) nN)).ext m11).ext m12).ext m13).ext m14).ext m29).ext m44).ext m45).mod m46 (nC (lE (lL (lL r8.lt (lT (lT (lT (lT (lT (lT (lT (lT (lT (lT (lT m5.size m6.size) m7.size) m8.size) m9.size) m10.size) m11.size) m12.size) m13.size) m14.size) m29.size) m44.size)) lR)) nN)).mod m47 (nC (lE (lL (lL r8.lt (lT (lT (lT (lT (lT (lT (lT (lT (lT (lT (lT m5.size m6.size) m7.size) m8.size) m9.size) m10.size) m11.size) m12.size) m13.size) m14.size) m29.size) m44.size)) lR)) nN)).ext m49).ext m50).ext m51).mod m52 (nC (lE (lL (lL r8.lt (lT (lT (lT (lT (lT (lT (lT (lT (lT (lT (lT (lT (lT (lT (lT m5.size m6.size) m7.size) m8.size) m9.size) m10.size) m11.size) m12.size) m13.size) m14.size) m29.size) m44.size) m45.size) m46.size) m47.size) m49.size)) lR)) nN)).mod m53 (nC (lE (lL (lL r8.lt (lT (lT (lT (lT (lT (lT (lT (lT (lT (lT (lT (lT (lT (lT (lT (lT m5.size m6.size) m7.size) m8.size) m9.size) m10.size) m11.size) m12.size) m13.size) m14.size) m29.size) m44.size) m45.size) m46.size) m47.size) m49.size) m50.size)) lR)) nN)).ext m54).mod m55 (nC (lE (lL (lL r8.lt (lT (lT (lT (lT (lT (lT (lT (lT (lT (lT (lT (lT (lT (lT (lT (lT (lT (lT (lT m5.size m6.size) m7.size) m8.size) m9.size) m10.size) m11.size) m12.size) m13.size) m14.size) m29.size) m44.size) m45.size) m46.size) m47.size) m49.size) m50.size) m51.size) m52.size) m53.size)) lR)) nN)).ext m56).mod m57 (nC (lE (lL (lL r8.lt (lT (lT (lT (lT (lT (lT (lT (lT (lT (lT (lT (lT (lT (lT (lT (lT (lT (lT (lT m5.size m6.size) m7.size) m8.size) m9.size) m10.size) m11.size) m12.size) m13.size) m14.size) m29.size) m44.size) m45.size) m46.size) m47.size) m49.size) m50.size) m51.size) m52.size) m53.size)) lR)) nN)).ext md3).ext mD).rng rfl (fl_get (by have eL : List.length Lq1 = 16 := h7; omega))) ?_
      refine DR.fork (is := [5, 10]) (by kernel_rfl) (by decide) (all2 ?_ ?_)
      ·refine DP.call (i := 5) rfl rfl (.free rfl) rfl (ltb rfl) (vs := [.func (.func 46) #[] #[], .agg #[vS bR 0 nR1 cR, vS bL 0 nR1 cL, vS bS 0 nS1 cS, vI 1, vF kc1, vF kc2, vF 0, vF (z.s0), vF (z.s1), .bool op1, vF lo1, vF re1, vF sl1], vF (Lq1.getD iq 0)]) rfl ?_
       intro w61 m58
       refine ⟨oc_call (vs := [.agg #[vS bR 0 nR1 cR, vS bL 0 nR1 cL, vS bS 0 nS1 cS, vI 1, vF kc1, vF kc2, vF 0, vF (z.s0), vF (z.s1), .bool op1, vF lo1, vF re1, vF sl1], vF (Lq1.getD iq 0)]) (cap := []) rfl rfl rfl Try.call46 (c_iStepZ nR1 nS1 xS1 kc1 kc2 op1 lo1 re1 sl1 z cR bR PR w.heap.size cL bL PL w.heap.size cS bS (Lq1.getD iq 0) (by first | with_reducible assumption | exact DPz.mono (by with_reducible assumption) (by omega) | exact zTo_dz (by with_reducible assumption) (by with_reducible assumption) (by with_reducible first | assumption | exact bd_take (by assumption) _) (by omega)) lzR lzL lzP lzQ h6 (h8.get _) w61 ((r114.ext md3).ext m58).rng ((r115.ext md3).ext m58).rng ((r116.ext md3).ext m58).rng ((fm17.ext md3).ext m58) ((fm18.ext md3).ext m58)), ?_⟩
       rintro _ w62 ⟨bR'9, cR'9, PR'9, bL'9, cL'9, PL'9, bS'9, cS'9, zz9, y1, rfl, h81, h82, h83, h84, h85, h86, h87, h88, r117, r118, r119, ge42, ge43, ge44, ne63, ne64, ne65, fm19, fn69, fn70, fn71, fn72, fm20, fn73, fn74, fn75, m59⟩
       refine ⟨(((Mod.refl [] w60).nt m58).nt m59), ?_⟩
       refine DD 6 rfl (by kernel_rfl) rfl (fun wD mD => op_move rfl) ?_
       refine DD 7 rfl (by kernel_rfl) rfl (fun wD mD => op_extract rfl rfl) ?_
       refine DD 8 rfl (by kernel_rfl) rfl (fun wD mD => op_extract rfl rfl) ?_
       refine DD 9 rfl (by kernel_rfl) rfl (fun wD mD => op_extract rfl rfl) ?_
       refine DR.one1 (i := 10) rfl rfl (by kernel_rfl) (.free rfl) rfl (ltb rfl) ?_
       intro w63 m60
       refine Op1.mono (op_alloc (cs := [.slice none 0 0, .slice none 0 0, .slice none 0 0, vI 0, vF 0, vF 0, vF 0, vF 0, vF 0, .bool false, vF 0, vF 0, vF 0]) Try.zeroValue33 rfl) ?_
       rintro _ w64 ⟨rfl, r120, m61, z25⟩
       refine ⟨(((((Mod.refl [] w60).nt m58).nt m59).nt m60).nt m61), ?_⟩
       refine DR.st1 (i := 11) rfl rfl (by kernel_rfl) (.free rfl) rfl ?_
       intro w65 m62
       refine Op1.mono (op_store (i := 0) (cs := [vS bR'9 0 nR1 cR'9, vS bL'9 0 nR1 cL'9, vS bS'9 0 nS1 cS'9, vI 1, vF kc1, vF kc2, vF 0, vF (zz9.s0), vF (zz9.s1), .bool op1, vF lo1, vF re1, vF sl1]) rfl rfl rfl Try.sizeOf33 rfl (r120.ext m62) rfl (lB rfl) rfl) ?_
       rintro _ w66 ⟨r121, m63, z26⟩
       have r122 : Row w66 w63.heap.size 0 [vS bR'9 0 nR1 cR'9, vS bL'9 0 nR1 cL'9, vS bS'9 0 nS1 cS'9, vI 1, vF kc1, vF kc2, vF 0, vF (zz9.s0), vF (zz9.s1), .bool op1, vF lo1, vF re1, vF sl1] := Row.congr r121 rfl
       have sz21 := SzLe.mk (lT (lT m58.size m59.size) m60.size)
       refine ⟨(((((((Mod.refl [] w60).nt m58).nt m59).nt m60).nt m61).nt m62).then m63 ((aC (.inr (lT sz21 lR)) aN))), ?_⟩
       refine DR.rebase ?_
       refine DD 12 rfl (by kernel_rfl) rfl (fun wD mD => op_assign rfl) ?_
       refine DR.sub [(4, .bool false), (6, vS b'1 0 16 c'1), (10, vP w8.heap.size 0), (11, .slice A'2 16 c3'2), (15, .slice e1_4_11 u1 e1_4_10), (16, vI 0), (17, vP e2_9_0 0), (18, .slice e2_4_11 (16 - u1) e2_4_10), (19, vI 0), (22, vP w51.heap.size 0), (23, vP w52.heap.size 0), (24, vI 0), (25, vP w55.heap.size 0), (26, .slice Aq iq cc), (27, vI ((iq : Nat) : Int)), (28, vP w63.heap.size 0), (29, vF y1), (132, vI 0)] ⟨rfl, rfl, rfl, rfl, rfl, rfl, rfl, rfl, rfl, rfl, rfl, rfl, rfl, rfl, rfl, rfl, rfl, rfl, trivial⟩ ?_
       refine DR.meet rfl ?_
       intro w67 m64
       have r123 := (((((r117.ext m60).ext m61).ext m62).mod m63 (nC (lE (lL (lL r117.lt m60.size) lR)) nN)).ext m64)
       have r124 := (((((r118.ext m60).ext m61).ext m62).mod m63 (nC (lE (lL (lL r118.lt m60.size) lR)) nN)).ext m64)
       have r125 := (((((r119.ext m60).ext m61).ext m62).mod m63 (nC (lE (lL (lL r119.lt m60.size) lR)) nN)).ext m64)
       have sz22 := SzLe.mk (lT (lT (lT md3.size m58.size) m59.size) m60.size)
       exact ⟨bR'9, cR'9, PR'9, bL'9, cL'9, PL'9, bS'9, cS'9, zz9, y1, w63.heap.size, rfl, r123, r124, r125, (r122.ext m64), (lT (lT md3.size m58.size) ge42), (lT (lT md3.size m58.size) ge43), (lT (lT md3.size m58.size) ge44), (lT sz22 lR), ne63, ne64, (lE (lL (lL r117.lt m60.size) lR)), ne65, (lE (lL (lL r118.lt m60.size) lR)), (lE (lL (lL r119.lt m60.size) lR)), h81, h82, h83, h84, h85, h86, h87, h88, (OF.low (((((fm19.ext m60).ext m61).ext m62).mod m63 (fun j hj => (nC (lE (lL (OF.lt fm19 (lQ (lQ hj h84) h84.symm)) (lT m60.size lR))) nN))).ext m64) (lT md3.size m58.size)), (fun j hj => (fn69 j (show j < nR1 by omega))), (fun j hj => (fn70 j (show j < nR1 by omega))), (fun j hj => (fn71 j (show j < nR1 by omega))), (fun j hj => (lE (lL (OF.lt fm19 (lQ (show j < nR1 by omega) h84.symm)) (lT m60.size lR)))), (fun j q hj hq => (fn72 j q (show j < nR1 by omega) (show q < nR1 by omega))), (OF.low (((((fm20.ext m60).ext m61).ext m62).mod m63 (fun j hj => (nC (lE (lL (OF.lt fm20 (lQ (lQ hj h85) h85.symm)) (lT m60.size lR))) nN))).ext m64) (lT md3.size m58.size)), (fun j hj => (fn73 j (show j < nR1 by omega))), (fun j hj => (fn74 j (show j < nR1 by omega))), (fun j hj => (fn75 j (show j < nR1 by omega))), (fun j hj => (lE (lL (OF.lt fm20 (lQ (show j < nR1 by omega) h85.symm)) (lT m60.size lR)))), (((((((((Mod.refl [] w59).nt md3).nt m58).nt m59).nt m60).nt m61).nt m62).then m63 ((aC (.inr (lT sz22 lR)) aN))).nt m64)⟩
      ·refine DP.op (i := 10) rfl rfl (.free rfl) rfl (ltb rfl) ?_
       intro w68 m65
       refine Op1.mono (op_alloc (cs := [.slice none 0 0, .slice none 0 0, .slice none 0 0, vI 0, vF 0, vF 0, vF 0, vF 0, vF 0, .bool false, vF 0, vF 0, vF 0]) Try.zeroValue33 rfl) ?_
       rintro _ w69 ⟨rfl, r126, m66, z27⟩
       refine ⟨(((Mod.refl [] w60).nt m65).nt m66), ?_⟩
       refine DR.one (i := 5) rfl rfl (by kernel_rfl) (.free rfl) rfl (ltb rfl) (vs := [.func (.func 46) #[] #[], .agg #[vS bR 0 nR1 cR, vS bL 0 nR1 cL, vS bS 0 nS1 cS, vI 1, vF kc1, vF kc2, vF 0, vF (z.s0), vF (z.s1), .bool op1, vF lo1, vF re1, vF sl1], vF (Lq1.getD iq 0)]) rfl ?_
       intro w70 m67
       refine ⟨oc_call (vs := [.agg #[vS bR 0 nR1 cR, vS bL 0 nR1 cL, vS bS 0 nS1 cS, vI 1, vF kc1, vF kc2, vF 0, vF (z.s0), vF (z.s1), .bool op1, vF lo1, vF re1, vF sl1], vF (Lq1.getD iq 0)]) (cap := []) rfl rfl rfl Try.call46 (c_iStepZ nR1 nS1 xS1 kc1 kc2 op1 lo1 re1 sl1 z cR bR PR w.heap.size cL bL PL w.heap.size cS bS (Lq1.getD iq 0) (by first | with_reducible assumption | exact DPz.mono (by with_reducible assumption) (by omega) | exact zTo_dz (by with_reducible assumption) (by with_reducible assumption) (by with_reducible first | assumption | exact bd_take (by assumption) _) (by omega)) lzR lzL lzP lzQ h6 (h8.get _) w70 ((((r114.ext md3).ext m65).ext m66).ext m67).rng ((((r115.ext md3).ext m65).ext m66).ext m67).rng ((((r116.ext md3).ext m65).ext m66).ext m67).rng ((((fm17.ext md3).ext m65).ext m66).ext m67) ((((fm18.ext md3).ext m65).ext m66).ext m67)), ?_⟩
       rintro _ w71 ⟨bR'10, cR'10, PR'10, bL'10, cL'10, PL'10, bS'10, cS'10, zz10, y2, rfl, h89, h90, h91, h92, h93, h94, h95, h96, r127, r128, r129, ge45, ge46, ge47, ne66, ne67, ne68, fm21, fn76, fn77, fn78, fn79, fm22, fn80, fn81, fn82, m68⟩
       refine ⟨(((((Mod.refl [] w60).nt m65).nt m66).nt m67).nt m68), ?_⟩
       refine DD 6 rfl (by kernel_rfl) rfl (fun wD mD => op_move rfl) ?_
       refine DD 7 rfl (by kernel_rfl) rfl (fun wD mD => op_extract rfl rfl) ?_
       refine DD 8 rfl (by kernel_rfl) rfl (fun wD mD => op_extract rfl rfl) ?_
       refine DD 9 rfl (by kernel_rfl) rfl (fun wD mD => op_extract rfl rfl) ?_
       refine DR.st1 (i := 11) rfl rfl (by kernel_rfl) (.free rfl) rfl ?_
       intro w72 m69
       refine Op1.mono (op_store (i := 0) (cs := [vS bR'10 0 nR1 cR'10, vS bL'10 0 nR1 cL'10, vS bS'10 0 nS1 cS'10, vI 1, vF kc1, vF kc2, vF 0, vF (zz10.s0), vF (zz10.s1), .bool op1, vF lo1, vF re1, vF sl1]) rfl rfl rfl Try.sizeOf33 rfl (((r126.ext m67).ext m68).ext m69) rfl (lB rfl) rfl) ?_
       rintro _ w73 ⟨r130, m70, z28⟩
       have r131 : Row w73 w68.heap.size 0 [vS bR'10 0 nR1 cR'10, vS bL'10 0 nR1 cL'10, vS bS'10 0 nS1 cS'10, vI 1, vF kc1, vF kc2, vF 0, vF (zz10.s0), vF (zz10.s1), .bool op1, vF lo1, vF re1, vF sl1] := Row.congr r130 rfl
       refine ⟨(((((((Mod.refl [] w60).nt m65).nt m66).nt m67).nt m68).nt m69).then m70 ((aC (.inr (lT m65.size lR)) aN))), ?_⟩
       refine DR.rebase ?_
       refine DD 12 rfl (by kernel_rfl) rfl (fun wD mD => op_assign rfl) ?_
       refine DR.sub [(4, .bool false), (6, vS b'1 0 16 c'1), (10, vP w8.heap.size 0), (11, .slice A'2 16 c3'2), (15, .slice e1_4_11 u1 e1_4_10), (16, vI 0), (17, vP e2_9_0 0), (18, .slice e2_4_11 (16 - u1) e2_4_10), (19, vI 0), (22, vP w51.heap.size 0), (23, vP w52.heap.size 0), (24, vI 0), (25, vP w55.heap.size 0), (26, .slice Aq iq cc), (27, vI ((iq : Nat) : Int)), (28, vP w68.heap.size 0), (29, vF y2), (132, vI 0)] ⟨rfl, rfl, rfl, rfl, rfl, rfl, rfl, rfl, rfl, rfl, rfl, rfl, rfl, rfl, rfl, rfl, rfl, rfl, trivial⟩ ?_
       refine DR.meet rfl ?_
       intro w74 m71
       have r132 := (((r127.ext m69).mod m70 (nC (lG (lL (lL r126.lt m67.size) ge45)) nN)).ext m71)
       have r133 := (((r128.ext m69).mod m70 (nC (lG (lL (lL r126.lt m67.size) ge46)) nN)).ext m71)
       have r134 := (((r129.ext m69).mod m70 (nC (lG (lL (lL r126.lt m67.size) ge47)) nN)).ext m71)
       have sz23 := SzLe.mk (lT (lT (lT md3.size m65.size) m66.size) m67.size)
       exact ⟨bR'10, cR'10, PR'10, bL'10, cL'10, PL'10, bS'10, cS'10, zz10, y2, w68.heap.size, rfl, r132, r133, r134, (r131.ext m71), (lT sz23 ge45), (lT sz23 ge46), (lT sz23 ge47), (lT (lT md3.size m65.size) lR), ne66, ne67, (lG (lL (lL r126.lt m67.size) ge45)), ne68, (lG (lL (lL r126.lt m67.size) ge46)), (lG (lL (lL r126.lt m67.size) ge47)), h89, h90, h91, h92, h93, h94, h95, h96, (OF.low (((fm21.ext m69).mod m70 (fun j hj => (nC (lG (lL (lL r126.lt m67.size) (fm21.ge j (lQ (lQ hj h92) h92.symm)))) nN))).ext m71) sz23), (fun j hj => (fn76 j (show j < nR1 by omega))), (fun j hj => (fn77 j (show j < nR1 by omega))), (fun j hj => (fn78 j (show j < nR1 by omega))), (fun j hj => (lG (lL (lL r126.lt m67.size) (fm21.ge j (lQ (show j < nR1 by omega) h92.symm))))), (fun j q hj hq => (fn79 j q (show j < nR1 by omega) (show q < nR1 by omega))), (OF.low (((fm22.ext m69).mod m70 (fun j hj => (nC (lG (lL (lL r126.lt m67.size) (fm22.ge j (lQ (lQ hj h93) h93.symm)))) nN))).ext m71) sz23), (fun j hj => (fn80 j (show j < nR1 by omega))), (fun j hj => (fn81 j (show j < nR1 by omega))), (fun j hj => (fn82 j (show j < nR1 by omega))), (fun j hj => (lG (lL (lL r126.lt m67.size) (fm22.ge j (lQ (show j < nR1 by omega) h93.symm))))), (((((((((Mod.refl [] w59).nt md3).nt m65).nt m66).nt m67).nt m68).nt m69).then m70 ((aC (.inr (lT (lT md3.size m65.size) lR)) aN))).nt m71)⟩
     ·rintro _ w75 ⟨e3_5_0, e3_5_1, e3_5_2, e3_5_3, e3_5_4, e3_5_5, e3_5_6, e3_5_7, e3_5_8, e3_5_9, e3_10_0, rfl, rr3_0, rr3_1, rr3_2, rr3_3, ge48, ge49, ge50, ge51, ne69, ne70, ne71, ne72, ne73, ne74, hp3_5_0, hp3_5_1, hp3_5_2, hp3_5_3, hp3_5_4, hp3_5_5, hp3_5_6, hp3_5_7, fr3_0, fa3_0_0, fa3_0_1, fa3_0_2, fa3_0_3, fb3_0_0, fr3_1, fa3_1_0, fa3_1_1, fa3_1_2, fa3_1_3, m72⟩
      refine WO.det (op_assign rfl) rfl (.free rfl) rfl rfl ?_
      refine WO.end (NE.code (CE.seq (CE.seq (CE.region ?_))))
      refine WD (op_move rfl) rfl ?_
      refine WD (op_nei rfl rfl) rfl ?_
      refine WL.end (NE.code ?_)
      refine CE.cond_f rfl rfl ?_
      refine CE.skip' (NE.code (CE.seq (CE.region ?_)))
      refine WD (op_loadA (i := 0) (cs := [vS e3_5_0 0 nR1 e3_5_1, vS e3_5_3 0 nR1 e3_5_4, vS e3_5_6 0 nS1 e3_5_7, vI 1, vF kc1, vF kc2, vF 0, vF (e3_5_8.s0), vF (e3_5_8.s1), .bool op1, vF lo1, vF re1, vF sl1]) rfl Try.isAgg33 Try.sizeOf33 rr3_3.rng rfl rfl rfl) rfl ?_
      refine WL.op0 (op_store (i := 0) (cs := [vS e3_5_0 0 nR1 e3_5_1, vS e3_5_3 0 nR1 e3_5_4, vS e3_5_6 0 nS1 e3_5_7, vI 1, vF kc1, vF kc2, vF 0, vF (e3_5_8.s0), vF (e3_5_8.s1), .bool op1, vF lo1, vF re1, vF sl1]) rfl rfl rfl Try.sizeOf33 rfl (r113.ext m72) rfl (lB rfl) rfl) rfl rfl ?_
      rintro _ w76 ⟨r135, m73, z29⟩
      have r136 : Row w76 w55.heap.size 0 [vS e3_5_0 0 nR1 e3_5_1, vS e3_5_3 0 nR1 e3_5_4, vS e3_5_6 0 nS1 e3_5_7, vI 1, vF kc1, vF kc2, vF 0, vF (e3_5_8.s0), vF (e3_5_8.s1), .bool op1, vF lo1, vF re1, vF sl1] := Row.congr r135 rfl
      refine WL.end (NE.code (CE.region ?_))
      iterate 2 refine WD (op_move rfl) rfl ?_
      refine WL.op (op_buildSl (qs := [(0, vF e3_5_9)]) (cells := #[vF e3_5_9]) rfl Try.runUnderlying26 Try.sizeOf27 Try.zeroValue27 (by decide) (by decide) (by kernel_rfl)) rfl rfl (ltb rfl) ?_
      rintro _ w77 ⟨rfl, r137, m74, z30⟩
      have sz24 := SzLe.mk (lT (lT (lT m57.size m72.size) m73.size) m74.size)
      refine WL.op (op_appW (i := Try.t27) (m := 1) (bt := 4) (news := [vF e3_5_9]) rfl rfl Try.underlying26 rfl rfl rfl rfl rfl (by decide) r137.rng rfl rfl ow1 (((ow1.ext m72).mod m73 (altC (lL r106.lt (lT m55.size m56.size)) altN)).ext m74) sz24 (by omega) (by decide)) rfl rfl (ltb rfl) ?_
      rintro _ w78 ⟨A1, c1, b1, rfl, ow2, ge52, hd1, m75⟩
      have fq1 : ∀ j, j < nR1 → (e3_5_2.getD j BC.d).b ≠ b1 := (fun j hj => Ne.symm (ap_ne hd1 (fr3_0.ge j (lQ hj hp3_5_3.symm)) (lL (OF.lt fr3_0 (lQ hj hp3_5_3.symm)) (lT m73.size m74.size))))
      have fq2 : ∀ j, j < nR1 → (e3_5_5.getD j BC.d).b ≠ b1 := (fun j hj => Ne.symm (ap_ne hd1 (fr3_1.ge j (lQ hj hp3_5_4.symm)) (lL (OF.lt fr3_1 (lQ hj hp3_5_4.symm)) (lT m73.size m74.size))))
      refine WD (op_assign rfl) rfl ?_
      refine WL.end (NE.blk (NE.code (CE.region ?_)))
      refine WD (op_move rfl) rfl ?_
      refine WD (op_add (r := ((iq + 1 : Nat) : Int)) rfl rfl (w_i64 (by omega) (by omega))) rfl ?_
      refine WD (op_assign rfl) rfl ?_
      refine WL.end ?_
      have r138 := ((r136.ext m74).mod m75 (nC (lE (lL (lL r106.lt (lT m55.size m56.size)) ge52)) nN))
      have sz25 := SzLe.mk (lT (lT m55.size m56.size) m57.size)
      have r139 := (((rr3_0.mod m73 (nC (lG (lL (lL r106.lt sz25) ge48)) nN)).ext m74).mod m75 (nC (Ne.symm (ap_ne hd1 ge48 (lL rr3_0.lt (lT m73.size m74.size)))) nN))
      have r140 := (((rr3_1.mod m73 (nC (lG (lL (lL r106.lt sz25) ge49)) nN)).ext m74).mod m75 (nC (Ne.symm (ap_ne hd1 ge49 (lL rr3_1.lt (lT m73.size m74.size)))) nN))
      have r141 := (((rr3_2.mod m73 (nC (lG (lL (lL r106.lt sz25) ge50)) nN)).ext m74).mod m75 (nC (Ne.symm (ap_ne hd1 ge50 (lL rr3_2.lt (lT m73.size m74.size)))) nN))
      have sz26 := SzLe.mk (lT (lT (lT (lT (lT (lT (lT (lT (lT (lT (lT (lT (lT (lT (lT (lT (lT (lT (lT (lT sz5 m9.size) m10.size) m11.size) m12.size) m13.size) m14.size) m29.size) m44.size) m45.size) m46.size) m47.size) m49.size) m50.size) m51.size) m52.size) m53.size) m54.size) m55.size) m56.size) m57.size)
      exact NE.again ((iq + 1), e3_5_8, e3_5_1, e3_5_0, e3_5_2, e3_5_4, e3_5_3, e3_5_5, e3_5_7, e3_5_6, A1, c1, (ys ++ [e3_5_9])) (⟨rfl, rfl, rfl, rfl, rfl, rfl, rfl, rfl, rfl, rfl, rfl, rfl, rfl, rfl, rfl, trivial⟩) ⟨(by omega), (by exact zTo_step hez (by with_reducible assumption)), (by assumption), (by assumption), (by assumption), (by assumption), (by simp [hly]), (by exact W32.snoc hwy (by with_reducible assumption)), (by exact oTo_snoc hcy hez (by with_reducible assumption)), (Row.congr r138 rfl), (Row.congr r139 rfl), (Row.congr r140 rfl), (Row.congr r141 rfl), (Own.congr ow2 (fl_snoc _ _)), (OF.low (((fr3_0.mod m73 (fun j hj => (nC (lG (lL (lL r106.lt sz25) (fr3_0.ge j (lQ (lQ hj hp3_5_3) hp3_5_3.symm)))) nN))).ext m74).mod m75 (fun j hj => (nC (fq1 j (lQ hj hp3_5_3)) nN))) sz26), (OF.low (((fr3_1.mod m73 (fun j hj => (nC (lG (lL (lL r106.lt sz25) (fr3_1.ge j (lQ (lQ hj hp3_5_4) hp3_5_4.symm)))) nN))).ext m74).mod m75 (fun j hj => (nC (fq2 j (lQ hj hp3_5_4)) nN))) sz26), ((((m57.nt m72).then m73 ((aC (.inl (by simp)) aN))).nt m74).then m75 ((aC (.inr ge52) aN)))⟩ (by first | (dsimp only; omega) | omega)
    ·have hp2 := of_decide_eq_false hb2
     refine CE.cond_f rfl hb2 ?_
     refine CE.exit' (XE.exit_then (XE.exit_then ?_))
     have e16 : iq = 16 := by omega
     subst e16
     refine XE.exit_here (NE.code (CE.seq (CE.region ?_)))
     refine WD (op_move rfl) rfl ?_
     refine WD (op_eqi rfl rfl) rfl ?_
     refine WD (op_move rfl) rfl ?_
     refine WL.yes rfl rfl rfl (ltb rfl) rfl rfl ?_
     refine WD (op_move rfl) rfl ?_
     refine WL.yes rfl rfl rfl (ltb rfl) rfl rfl ?_
     refine WD (op_eqi rfl rfl) rfl ?_
     refine WD (op_pick_t rfl rfl rfl) rfl ?_
     refine WD (op_move rfl) rfl ?_
     refine WL.yes rfl rfl rfl (ltb rfl) rfl rfl ?_
     refine WD (op_move rfl) rfl ?_
     refine WL.yes rfl rfl rfl (ltb rfl) rfl rfl ?_
     refine WD (op_eqi rfl rfl) rfl ?_
     refine WD (op_pick_t rfl rfl rfl) rfl ?_
     refine WD (op_move rfl) rfl ?_
     have sz27 := SzLe.mk (lT (lT (lT m45.size m46.size) m47.size) m49.size)
     have sz28 := SzLe.mk (lT (lT (lT (lT sz27 m50.size) m51.size) m52.size) m53.size)
     have r142 := ((((((((((((rr2_4.ext m45).mod m46 (nC (lE (lL rr2_4.lt lR)) nN)).mod m47 (nC (lE (lL rr2_4.lt lR)) nN)).ext m49).ext m50).ext m51).mod m52 (nC (lE (lL (lL rr2_4.lt sz27) lR)) nN)).mod m53 (nC (lE (lL (lL rr2_4.lt (lT sz27 m50.size)) lR)) nN)).ext m54).mod m55 (nC (lE (lL (lL rr2_4.lt sz28) lR)) nN)).ext m56).mod m57 (nC (lE (lL (lL rr2_4.lt sz28) lR)) nN))
     refine WL.yes rfl rfl rfl (ltb rfl) rfl rfl ?_
     refine WD (op_loadA (i := 0) (cs := [vS e2_4_0 0 nR1 e2_4_1, vS e2_4_3 0 nR1 e2_4_4, vS e2_4_6 0 nS1 e2_4_7, vI 1, vF kc1, vF kc2, vF 0, vF (e2_4_8.s0), vF (e2_4_8.s1), .bool op1, vF lo1, vF re1, vF sl1]) rfl Try.isAgg33 Try.sizeOf33 r142.rng rfl rfl rfl) rfl ?_
     have sz29 := SzLe.mk (lT (lT (lT (lT (lT (lT m10.size m11.size) m12.size) m13.size) m14.size) m29.size) m44.size)
     have sz30 := SzLe.mk (lT (lT (lT (lT sz29 m45.size) m46.size) m47.size) m49.size)
     have sz31 := SzLe.mk (lT (lT (lT (lT sz30 m50.size) m51.size) m52.size) m53.size)
     have r143 := ((((((((((((((((((r30.ext m11).ext m12).ext m13).ext m14).ext m29).ext m44).ext m45).mod m46 (nC (lE (lL (lL r28.lt sz29) lR)) nN)).mod m47 (nC (lE (lL (lL r28.lt sz29) lR)) nN)).ext m49).ext m50).ext m51).mod m52 (nC (lE (lL (lL r28.lt sz30) lR)) nN)).mod m53 (nC (lE (lL (lL r28.lt (lT sz30 m50.size)) lR)) nN)).ext m54).mod m55 (nC (lE (lL (lL r28.lt sz31) lR)) nN)).ext m56).mod m57 (nC (lE (lL (lL r28.lt sz31) lR)) nN))
     refine WL.yes rfl rfl rfl (ltb rfl) rfl rfl ?_
     refine WD (op_loadA (i := 0) (cs := [vS bR'3 0 nR1 cR'3, vS bL'3 0 nR1 cL'3, vS bS'3 0 nS1 cS'3, vI 1, vF kc1, vF kc2, vF 0, vF (zz3.s0), vF (zz3.s1), .bool op1, vF lo1, vF re1, vF sl1]) rfl Try.isAgg33 Try.sizeOf33 r143.rng rfl rfl rfl) rfl ?_
     have r144 := ((((((((((((rr2_0.ext m45).mod m46 (nC (lE (lL rr2_0.lt lR)) nN)).mod m47 (nC (lE (lL rr2_0.lt lR)) nN)).ext m49).ext m50).ext m51).mod m52 (nC (lE (lL (lL rr2_0.lt sz27) lR)) nN)).mod m53 (nC (lE (lL (lL rr2_0.lt (lT sz27 m50.size)) lR)) nN)).ext m54).mod m55 (nC (lE (lL (lL rr2_0.lt sz28) lR)) nN)).ext m56).mod m57 (nC (lE (lL (lL rr2_0.lt sz28) lR)) nN))
     have r145 := ((((((((((((rr2_1.ext m45).mod m46 (nC (lE (lL rr2_1.lt lR)) nN)).mod m47 (nC (lE (lL rr2_1.lt lR)) nN)).ext m49).ext m50).ext m51).mod m52 (nC (lE (lL (lL rr2_1.lt sz27) lR)) nN)).mod m53 (nC (lE (lL (lL rr2_1.lt (lT sz27 m50.size)) lR)) nN)).ext m54).mod m55 (nC (lE (lL (lL rr2_1.lt sz28) lR)) nN)).ext m56).mod m57 (nC (lE (lL (lL rr2_1.lt sz28) lR)) nN))
     have r146 := ((((((((((((rr2_2.ext m45).mod m46 (nC (lE (lL rr2_2.lt lR)) nN)).mod m47 (nC (lE (lL rr2_2.lt lR)) nN)).ext m49).ext m50).ext m51).mod m52 (nC (lE (lL (lL rr2_2.lt sz27) lR)) nN)).mod m53 (nC (lE (lL (lL rr2_2.lt (lT sz27 m50.size)) lR)) nN)).ext m54).mod m55 (nC (lE (lL (lL rr2_2.lt sz28) lR)) nN)).ext m56).mod m57 (nC (lE (lL (lL rr2_2.lt sz28) lR)) nN))
     have sz32 := SzLe.mk (lT (lT (lT (lT (lT (lT (lT m9.size m10.size) m11.size) m12.size) m13.size) m14.size) m29.size) m44.size)
     have sz33 := SzLe.mk (lT (lT (lT (lT sz32 m45.size) m46.size) m47.size) m49.size)
     have sz34 := SzLe.mk (lT (lT (lT (lT sz33 m50.size) m51.size) m52.size) m53.size)
     have r147 := ((((((((((((((((r37.ext m13).ext m14).ext m29).ext m44).ext m45).mod m46 (nC (lE (lL (lL r24.lt sz32) lR)) nN)).mod m47 (nC (lE (lL (lL r24.lt sz32) lR)) nN)).ext m49).ext m50).ext m51).mod m52 (nC (lE (lL (lL r24.lt sz33) lR)) nN)).mod m53 (nC (lE (lL (lL r24.lt (lT sz33 m50.size)) lR)) nN)).ext m54).mod m55 (nC (lE (lL (lL r24.lt sz34) lR)) nN)).ext m56).mod m57 (nC (lE (lL (lL r24.lt sz34) lR)) nN))
     have r148 := ((((((((((((((((r38.ext m13).ext m14).ext m29).ext m44).ext m45).mod m46 (nC (lE (lL (lL r25.lt sz32) lR)) nN)).mod m47 (nC (lE (lL (lL r25.lt sz32) lR)) nN)).ext m49).ext m50).ext m51).mod m52 (nC (lE (lL (lL r25.lt sz33) lR)) nN)).mod m53 (nC (lE (lL (lL r25.lt (lT sz33 m50.size)) lR)) nN)).ext m54).mod m55 (nC (lE (lL (lL r25.lt sz34) lR)) nN)).ext m56).mod m57 (nC (lE (lL (lL r25.lt sz34) lR)) nN))
     have r149 := ((((((((((((((((r39.ext m13).ext m14).ext m29).ext m44).ext m45).mod m46 (nC (lE (lL (lL r26.lt sz32) lR)) nN)).mod m47 (nC (lE (lL (lL r26.lt sz32) lR)) nN)).ext m49).ext m50).ext m51).mod m52 (nC (lE (lL (lL r26.lt sz33) lR)) nN)).mod m53 (nC (lE (lL (lL r26.lt (lT sz33 m50.size)) lR)) nN)).ext m54).mod m55 (nC (lE (lL (lL r26.lt sz34) lR)) nN)).ext m56).mod m57 (nC (lE (lL (lL r26.lt sz34) lR)) nN))
     refine WL.yes rfl rfl rfl (ltb rfl) rfl rfl ?_
     refine WL.call (oc_call (vs := [.agg #[vS e2_4_0 0 nR1 e2_4_1, vS e2_4_3 0 nR1 e2_4_4, vS e2_4_6 0 nS1 e2_4_7, vI 1, vF kc1, vF kc2, vF 0, vF (e2_4_8.s0), vF (e2_4_8.s1), .bool op1, vF lo1, vF re1, vF sl1], .agg #[vS bR'3 0 nR1 cR'3, vS bL'3 0 nR1 cL'3, vS bS'3 0 nS1 cS'3, vI 1, vF kc1, vF kc2, vF 0, vF (zz3.s0), vF (zz3.s1), .bool op1, vF lo1, vF re1, vF sl1]]) (cap := []) rfl rfl rfl Try.call37 (c_SamePipeX nR1 nS1 xS1 kc1 kc2 op1 lo1 re1 sl1 e2_4_8 e2_4_1 e2_4_0 e2_4_2 w30.heap.size e2_4_4 e2_4_3 e2_4_5 w30.heap.size e2_4_7 e2_4_6 zz3 cR'3 bR'3 PR'3 w7.heap.size cL'3 bL'3 PL'3 w7.heap.size cS'3 bS'3 (by first | with_reducible assumption | exact DPz.mono (by with_reducible assumption) (by omega) | exact zTo_dz (by with_reducible assumption) (by with_reducible assumption) (by with_reducible first | assumption | exact bd_take (by assumption) _) (by omega)) hp2_4_3 hp2_4_4 hp2_4_0 hp2_4_1 h26 h21 h22 (by first | (with_reducible rfl) | with_reducible assumption | exact eqT (by with_reducible assumption) (by with_reducible assumption) | exact zTo_back (by with_reducible assumption) (by with_reducible assumption) (by with_reducible assumption) (by omega) | exact zTo_over (by with_reducible assumption) (by with_reducible assumption) (by omega)) h24 h25 w59 r144.rng r145.rng r146.rng r147.rng r148.rng r149.rng ((((((((((((fr2_0.ext m45).mod m46 (fun j hj => (nC (lE (lL (OF.lt fr2_0 (lQ (lQ hj hp2_4_3) hp2_4_3.symm)) lR)) nN))).mod m47 (fun j hj => (nC (lE (lL (OF.lt fr2_0 (lQ (lQ hj hp2_4_3) hp2_4_3.symm)) lR)) nN))).ext m49).ext m50).ext m51).mod m52 (fun j hj => (nC (lE (lL (OF.lt fr2_0 (lQ (lQ hj hp2_4_3) hp2_4_3.symm)) (lT sz27 lR))) nN))).mod m53 (fun j hj => (nC (lE (lL (OF.lt fr2_0 (lQ (lQ hj hp2_4_3) hp2_4_3.symm)) (lT (lT sz27 m50.size) lR))) nN))).ext m54).mod m55 (fun j hj => (nC (lE (lL (OF.lt fr2_0 (lQ (lQ hj hp2_4_3) hp2_4_3.symm)) (lT sz28 lR))) nN))).ext m56).mod m57 (fun j hj => (nC (lE (lL (OF.lt fr2_0 (lQ (lQ hj hp2_4_3) hp2_4_3.symm)) (lT sz28 lR))) nN))) ((((((((((((fr2_1.ext m45).mod m46 (fun j hj => (nC (lE (lL (OF.lt fr2_1 (lQ (lQ hj hp2_4_4) hp2_4_4.symm)) lR)) nN))).mod m47 (fun j hj => (nC (lE (lL (OF.lt fr2_1 (lQ (lQ hj hp2_4_4) hp2_4_4.symm)) lR)) nN))).ext m49).ext m50).ext m51).mod m52 (fun j hj => (nC (lE (lL (OF.lt fr2_1 (lQ (lQ hj hp2_4_4) hp2_4_4.symm)) (lT sz27 lR))) nN))).mod m53 (fun j hj => (nC (lE (lL (OF.lt fr2_1 (lQ (lQ hj hp2_4_4) hp2_4_4.symm)) (lT (lT sz27 m50.size) lR))) nN))).ext m54).mod m55 (fun j hj => (nC (lE (lL (OF.lt fr2_1 (lQ (lQ hj hp2_4_4) hp2_4_4.symm)) (lT sz28 lR))) nN))).ext m56).mod m57 (fun j hj => (nC (lE (lL (OF.lt fr2_1 (lQ (lQ hj hp2_4_4) hp2_4_4.symm)) (lT sz28 lR))) nN))) ((((((((((((((((((((fm5.ext m9).mod m10 (fun j hj => (nC (lE (lL (OF.lt fm5 (lQ (lQ hj h24) h24.symm)) lR)) nN))).ext m11).ext m12).ext m13).ext m14).ext m29).ext m44).ext m45).mod m46 (fun j hj => (nC (lE (lL (OF.lt fm5 (lQ (lQ hj h24) h24.symm)) (lT sz32 lR))) nN))).mod m47 (fun j hj => (nC (lE (lL (OF.lt fm5 (lQ (lQ hj h24) h24.symm)) (lT sz32 lR))) nN))).ext m49).ext m50).ext m51).mod m52 (fun j hj => (nC (lE (lL (OF.lt fm5 (lQ (lQ hj h24) h24.symm)) (lT sz33 lR))) nN))).mod m53 (fun j hj => (nC (lE (lL (OF.lt fm5 (lQ (lQ hj h24) h24.symm)) (lT (lT sz33 m50.size) lR))) nN))).ext m54).mod m55 (fun j hj => (nC (lE (lL (OF.lt fm5 (lQ (lQ hj h24) h24.symm)) (lT sz34 lR))) nN))).ext m56).mod m57 (fun j hj => (nC (lE (lL (OF.lt fm5 (lQ (lQ hj h24) h24.symm)) (lT sz34 lR))) nN))) ((((((((((((((((((((fm6.ext m9).mod m10 (fun j hj => (nC (lE (lL (OF.lt fm6 (lQ (lQ hj h25) h25.symm)) lR)) nN))).ext m11).ext m12).ext m13).ext m14).ext m29).ext m44).ext m45).mod m46 (fun j hj => (nC (lE (lL (OF.lt fm6 (lQ (lQ hj h25) h25.symm)) (lT sz32 lR))) nN))).mod m47 (fun j hj => (nC (lE (lL (OF.lt fm6 (lQ (lQ hj h25) h25.symm)) (lT sz32 lR))) nN))).ext m49).ext m50).ext m51).mod m52 (fun j hj => (nC (lE (lL (OF.lt fm6 (lQ (lQ hj h25) h25.symm)) (lT sz33 lR))) nN))).mod m53 (fun j hj => (nC (lE (lL (OF.lt fm6 (lQ (lQ hj h25) h25.symm)) (lT (lT sz33 m50.size) lR))) nN))).ext m54).mod m55 (fun j hj => (nC (lE (lL (OF.lt fm6 (lQ (lQ hj h25) h25.symm)) (lT sz34 lR))) nN))).ext m56).mod m57 (fun j hj => (nC (lE (lL (OF.lt fm6 (lQ (lQ hj h25) h25.symm)) (lT sz34 lR))) nN))))) rfl rfl (ltb rfl) ?_
     rintro _ w79 ⟨rfl, m76⟩
     refine WD (op_pick_t rfl rfl rfl) rfl ?_
     refine WD (op_move rfl) rfl ?_
     refine WL.yes rfl rfl rfl (ltb rfl) rfl rfl ?_
     refine WL.op (op_emptySl rfl Try.runUnderlying26 Try.sizeOf27) rfl rfl (ltb rfl) ?_
     rintro _ w80 ⟨rfl, r150, m77, z31⟩
     refine WL.yes rfl rfl rfl (ltb rfl) rfl rfl ?_
     refine WD (op_move rfl) rfl ?_
     have sz35 := SzLe.mk (lT (lT (lT (lT m44.size m45.size) m46.size) m47.size) m49.size)
     have sz36 := SzLe.mk (lT (lT (lT (lT sz35 m50.size) m51.size) m52.size) m53.size)
     have r151 := (((((((((((((((rr1_3.ext m44).ext m45).mod m46 (nC (lE (lL (lL rr1_3.lt m44.size) lR)) nN)).mod m47 (nC (lE (lL (lL rr1_3.lt m44.size) lR)) nN)).ext m49).ext m50).ext m51).mod m52 (nC (lE (lL (lL rr1_3.lt sz35) lR)) nN)).mod m53 (nC (lE (lL (lL rr1_3.lt (lT sz35 m50.size)) lR)) nN)).ext m54).mod m55 (nC (lE (lL (lL rr1_3.lt sz36) lR)) nN)).ext m56).mod m57 (nC (lE (lL (lL rr1_3.lt sz36) lR)) nN)).ext m76).ext m77)
     refine WL.yes rfl rfl rfl (ltb rfl) rfl rfl ?_
     refine WL.op (op_appP (i := Try.t27) (bt := 4) (r := u1) (ys := fl e1_4_12) rfl rfl hp1_4_6 Try.underlying26 rfl rfl rfl rfl rfl r151.rng (fl_len hp1_4_7) (fl_one _) Own.emp lR (by omega) (by omega) (by decide) (by omega) (List.nil_append _)) rfl rfl (ltb rfl) ?_
     rintro _ w81 ⟨A2, c2, b2, b3, rfl, ow3, hA1, r152, ge53, ge54, m78⟩
     refine WL.yes rfl rfl rfl (ltb rfl) rfl rfl ?_
     refine WD (op_move rfl) rfl ?_
     have sz37 := SzLe.mk (lT (lT (lT (lT (lT (lT sz28 m54.size) m55.size) m56.size) m57.size) m76.size) m77.size)
     have r153 := (((((((((((((((rr2_3.ext m45).mod m46 (nC (lE (lL rr2_3.lt lR)) nN)).mod m47 (nC (lE (lL rr2_3.lt lR)) nN)).ext m49).ext m50).ext m51).mod m52 (nC (lE (lL (lL rr2_3.lt sz27) lR)) nN)).mod m53 (nC (lE (lL (lL rr2_3.lt (lT sz27 m50.size)) lR)) nN)).ext m54).mod m55 (nC (lE (lL (lL rr2_3.lt sz28) lR)) nN)).ext m56).mod m57 (nC (lE (lL (lL rr2_3.lt sz28) lR)) nN)).ext m76).ext m77).mod m78 (nC (lE (lL (lL rr2_3.lt sz37) ge54)) nN))
     refine WL.yes rfl rfl rfl (ltb rfl) rfl rfl ?_
     refine WL.op (op_appP (i := Try.t27) (bt := 4) (r := 16) (ys := fl (e1_4_12 ++ e2_4_12)) rfl rfl hp2_4_6 Try.underlying26 rfl rfl rfl rfl rfl r153.rng (fl_len hp2_4_7) (fl_one _) ow3 m78.size (by omega) (by omega) (by decide) (by omega) (fl_app _ _)) rfl rfl (ltb rfl) ?_
     rintro _ w82 ⟨A3, c3, b4, b5, rfl, ow4, hA2, r154, ge55, ge56, m79⟩
     refine WL.yes rfl rfl rfl (ltb rfl) rfl rfl ?_
     refine WD (op_move rfl) rfl ?_
     have sz38 := SzLe.mk (lT (lT (lT (lT (lT (lT sz34 m54.size) m55.size) m56.size) m57.size) m76.size) m77.size)
     have r155 := (((((((((((((((((((((r36.ext m12).ext m13).ext m14).ext m29).ext m44).ext m45).mod m46 (nC (lE (lL (lL r27.lt sz32) lR)) nN)).mod m47 (nC (lE (lL (lL r27.lt sz32) lR)) nN)).ext m49).ext m50).ext m51).mod m52 (nC (lE (lL (lL r27.lt sz33) lR)) nN)).mod m53 (nC (lE (lL (lL r27.lt (lT sz33 m50.size)) lR)) nN)).ext m54).mod m55 (nC (lE (lL (lL r27.lt sz34) lR)) nN)).ext m56).mod m57 (nC (lE (lL (lL r27.lt sz34) lR)) nN)).ext m76).ext m77).mod m78 (nC (lE (lL (lL r27.lt sz38) ge54)) nN)).mod m79 (nC (lE (lL (lL r27.lt sz38) ge56)) nN))
     refine WL.yes rfl rfl rfl (ltb rfl) rfl rfl ?_
     refine WL.call (oc_call (vs := [.slice A3 16 c3, .slice A'2 16 c3'2]) (cap := []) rfl rfl rfl Try.call24 (c_SameRealsX 16 c3 A3 b5 (e1_4_12 ++ e2_4_12) c3'2 A'2 e'2 ys2 hA2 h27 ((app_len hp1_4_7 hp2_4_7).trans (by omega)) h28 (by first | with_reducible exact Cn.refl _ | with_reducible assumption | exact Cn.eq2 (by with_reducible assumption) (by with_reducible assumption) | exact cn_parts (by with_reducible assumption) (by with_reducible assumption) (by with_reducible assumption) (by with_reducible assumption) (by omega) | exact cn_over (by with_reducible assumption) (by with_reducible assumption) (by omega) | exact cn_two (by assumption) (by assumption) (by assumption) (by assumption) (by assumption) (by assumption) (by assumption) (by omega) (by omega)) (by omega) w82 r154 r155.rng)) rfl rfl (ltb rfl) ?_
     rintro _ w83 ⟨rfl, m80⟩
     refine WD (op_pick_t rfl rfl rfl) rfl ?_
     refine WD (op_move rfl) rfl ?_
     have sz39 := SzLe.mk (lT (lT m51.size m52.size) m53.size)
     have sz40 := SzLe.mk (lT (lT (lT (lT (lT (lT sz39 m54.size) m55.size) m56.size) m57.size) m76.size) m77.size)
     have r156 := ((((((((((r102.mod m53 (nC (lE (lL r99.lt lR)) nN)).ext m54).mod m55 (nC (lE (lL (lL r99.lt sz39) lR)) nN)).ext m56).mod m57 (nC (lE (lL (lL r99.lt sz39) lR)) nN)).ext m76).ext m77).mod m78 (nC (lE (lL (lL r99.lt sz40) ge54)) nN)).mod m79 (nC (lE (lL (lL r99.lt sz40) ge56)) nN)).ext m80)
     refine WL.yes rfl rfl rfl (ltb rfl) rfl rfl ?_
     refine WD (op_loadA (i := 0) (cs := [vS bR'8 0 nR1 cR'8, vS bL'8 0 nR1 cL'8, vS bS'8 0 nS1 cS'8, vI 1, vF kc1, vF kc2, vF 0, vF (zz8.s0), vF (zz8.s1), .bool op1, vF lo1, vF re1, vF sl1]) rfl Try.isAgg33 Try.sizeOf33 r156.rng rfl rfl rfl) rfl ?_
     have sz41 := SzLe.mk (lT (lT (lT (lT (lT (lT sz31 m54.size) m55.size) m56.size) m57.size) m76.size) m77.size)
     have r157 := (((((r143.ext m76).ext m77).mod m78 (nC (lE (lL (lL r28.lt sz41) ge54)) nN)).mod m79 (nC (lE (lL (lL r28.lt sz41) ge56)) nN)).ext m80)
     refine WL.yes rfl rfl rfl (ltb rfl) rfl rfl ?_
     refine WD (op_loadA (i := 0) (cs := [vS bR'3 0 nR1 cR'3, vS bL'3 0 nR1 cL'3, vS bS'3 0 nS1 cS'3, vI 1, vF kc1, vF kc2, vF 0, vF (zz3.s0), vF (zz3.s1), .bool op1, vF lo1, vF re1, vF sl1]) rfl Try.isAgg33 Try.sizeOf33 r157.rng rfl rfl rfl) rfl ?_
     have sz42 := SzLe.mk (lT (lT (lT m50.size m51.size) m52.size) m53.size)
     have sz43 := SzLe.mk (lT (lT (lT (lT (lT (lT sz42 m54.size) m55.size) m56.size) m57.size) m76.size) m77.size)
     have r158 := (((((((((((((r96.ext m50).ext m51).mod m52 (nC (lE (lL r96.lt lR)) nN)).mod m53 (nC (lE (lL (lL r96.lt m50.size) lR)) nN)).ext m54).mod m55 (nC (lE (lL (lL r96.lt sz42) lR)) nN)).ext m56).mod m57 (nC (lE (lL (lL r96.lt sz42) lR)) nN)).ext m76).ext m77).mod m78 (nC (lE (lL (lL r96.lt sz43) ge54)) nN)).mod m79 (nC (lE (lL (lL r96.lt sz43) ge56)) nN)).ext m80)
     have r159 := (((((((((((((r97.ext m50).ext m51).mod m52 (nC (lE (lL r97.lt lR)) nN)).mod m53 (nC (lE (lL (lL r97.lt m50.size) lR)) nN)).ext m54).mod m55 (nC (lE (lL (lL r97.lt sz42) lR)) nN)).ext m56).mod m57 (nC (lE (lL (lL r97.lt sz42) lR)) nN)).ext m76).ext m77).mod m78 (nC (lE (lL (lL r97.lt sz43) ge54)) nN)).mod m79 (nC (lE (lL (lL r97.lt sz43) ge56)) nN)).ext m80)
     have r160 := (((((((((((((r98.ext m50).ext m51).mod m52 (nC (lE (lL r98.lt lR)) nN)).mod m53 (nC (lE (lL (lL r98.lt m50.size) lR)) nN)).ext m54).mod m55 (nC (lE (lL (lL r98.lt sz42) lR)) nN)).ext m56).mod m57 (nC (lE (lL (lL r98.lt sz42) lR)) nN)).ext m76).ext m77).mod m78 (nC (lE (lL (lL r98.lt sz43) ge54)) nN)).mod m79 (nC (lE (lL (lL r98.lt sz43) ge56)) nN)).ext m80)
     have r161 := (((((r147.ext m76).ext m77).mod m78 (nC (lE (lL (lL r24.lt sz38) ge54)) nN)).mod m79 (nC (lE (lL (lL r24.lt sz38) ge56)) nN)).ext m80)
     have r162 := (((((r148.ext m76).ext m77).mod m78 (nC (lE (lL (lL r25.lt sz38) ge54)) nN)).mod m79 (nC (lE (lL (lL r25.lt sz38) ge56)) nN)).ext m80)
     have r163 := (((((r149.ext m76).ext m77).mod m78 (nC (lE (lL (lL r26.lt sz38) ge54)) nN)).mod m79 (nC (lE (lL (lL r26.lt sz38) ge56)) nN)).ext m80)
     refine WL.yes rfl rfl rfl (ltb rfl) rfl rfl ?_
     refine WL.call (oc_call (vs := [.agg #[vS bR'8 0 nR1 cR'8, vS bL'8 0 nR1 cL'8, vS bS'8 0 nS1 cS'8, vI 1, vF kc1, vF kc2, vF 0, vF (zz8.s0), vF (zz8.s1), .bool op1, vF lo1, vF re1, vF sl1], .agg #[vS bR'3 0 nR1 cR'3, vS bL'3 0 nR1 cL'3, vS bS'3 0 nS1 cS'3, vI 1, vF kc1, vF kc2, vF 0, vF (zz3.s0), vF (zz3.s1), .bool op1, vF lo1, vF re1, vF sl1]]) (cap := []) rfl rfl rfl Try.call37 (c_SamePipeX nR1 nS1 xS1 kc1 kc2 op1 lo1 re1 sl1 zz8 cR'8 bR'8 PR'8 w49.heap.size cL'8 bL'8 PL'8 w49.heap.size cS'8 bS'8 zz3 cR'3 bR'3 PR'3 w7.heap.size cL'3 bL'3 PL'3 w7.heap.size cS'3 bS'3 (by first | with_reducible assumption | exact DPz.mono (by with_reducible assumption) (by omega) | exact zTo_dz (by with_reducible assumption) (by with_reducible assumption) (by with_reducible first | assumption | exact bd_take (by assumption) _) (by omega)) h75 h76 h72 h73 h26 h21 h22 (by first | (with_reducible rfl) | with_reducible assumption | exact eqT (by with_reducible assumption) (by with_reducible assumption) | exact zTo_back (by with_reducible assumption) (by with_reducible assumption) (by with_reducible assumption) (by omega) | exact zTo_over (by with_reducible assumption) (by with_reducible assumption) (by omega)) h24 h25 w83 r158.rng r159.rng r160.rng r161.rng r162.rng r163.rng (((((((((((((fm15.ext m50).ext m51).mod m52 (fun j hj => (nC (lE (lL (OF.lt fm15 (lQ (lQ hj h75) h75.symm)) lR)) nN))).mod m53 (fun j hj => (nC (lE (lL (OF.lt fm15 (lQ (lQ hj h75) h75.symm)) (lT m50.size lR))) nN))).ext m54).mod m55 (fun j hj => (nC (lE (lL (OF.lt fm15 (lQ (lQ hj h75) h75.symm)) (lT sz42 lR))) nN))).ext m56).mod m57 (fun j hj => (nC (lE (lL (OF.lt fm15 (lQ (lQ hj h75) h75.symm)) (lT sz42 lR))) nN))).ext m76).ext m77).mod m78 (fun j hj => (nC (lE (lL (OF.lt fm15 (lQ (lQ hj h75) h75.symm)) (lT sz43 ge54))) nN))).mod m79 (fun j hj => (nC (lE (lL (OF.lt fm15 (lQ (lQ hj h75) h75.symm)) (lT sz43 ge56))) nN))).ext m80) (((((((((((((fm16.ext m50).ext m51).mod m52 (fun j hj => (nC (lE (lL (OF.lt fm16 (lQ (lQ hj h76) h76.symm)) lR)) nN))).mod m53 (fun j hj => (nC (lE (lL (OF.lt fm16 (lQ (lQ hj h76) h76.symm)) (lT m50.size lR))) nN))).ext m54).mod m55 (fun j hj => (nC (lE (lL (OF.lt fm16 (lQ (lQ hj h76) h76.symm)) (lT sz42 lR))) nN))).ext m56).mod m57 (fun j hj => (nC (lE (lL (OF.lt fm16 (lQ (lQ hj h76) h76.symm)) (lT sz42 lR))) nN))).ext m76).ext m77).mod m78 (fun j hj => (nC (lE (lL (OF.lt fm16 (lQ (lQ hj h76) h76.symm)) (lT sz43 ge54))) nN))).mod m79 (fun j hj => (nC (lE (lL (OF.lt fm16 (lQ (lQ hj h76) h76.symm)) (lT sz43 ge56))) nN))).ext m80) (((((((((((((((((((((((((fm5.ext m9).mod m10 (fun j hj => (nC (lE (lL (OF.lt fm5 (lQ (lQ hj h24) h24.symm)) lR)) nN))).ext m11).ext m12).ext m13).ext m14).ext m29).ext m44).ext m45).mod m46 (fun j hj => (nC (lE (lL (OF.lt fm5 (lQ (lQ hj h24) h24.symm)) (lT sz32 lR))) nN))).mod m47 (fun j hj => (nC (lE (lL (OF.lt fm5 (lQ (lQ hj h24) h24.symm)) (lT sz32 lR))) nN))).ext m49).ext m50).ext m51).mod m52 (fun j hj => (nC (lE (lL (OF.lt fm5 (lQ (lQ hj h24) h24.symm)) (lT sz33 lR))) nN))).mod m53 (fun j hj => (nC (lE (lL (OF.lt fm5 (lQ (lQ hj h24) h24.symm)) (lT (lT sz33 m50.size) lR))) nN))).ext m54).mod m55 (fun j hj => (nC (lE (lL (OF.lt fm5 (lQ (lQ hj h24) h24.symm)) (lT sz34 lR))) nN))).ext m56).mod m57 (fun j hj => (nC (lE (lL (OF.lt fm5 (lQ (lQ hj h24) h24.symm)) (lT sz34 lR))) nN))).ext m76).ext m77).mod m78 (fun j hj => (nC (lE (lL (OF.lt fm5 (lQ (lQ hj h24) h24.symm)) (lT sz38 ge54))) nN))).mod m79 (fun j hj => (nC (lE (lL (OF.lt fm5 (lQ (lQ hj h24) h24.symm)) (lT sz38 ge56))) nN))).ext m80) (((((((((((((((((((((((((fm6.ext m9).mod m10 (fun j hj => (nC (lE (lL (OF.lt fm6 (lQ (lQ hj h25) h25.symm)) lR)) nN))).ext m11).ext m12).ext m13).ext m14).ext m29).ext m44).ext m45).mod m46 (fun j hj => (nC (lE (lL (OF.lt fm6 (lQ (lQ hj h25) h25.symm)) (lT sz32 lR))) nN))).mod m47 (fun j hj => (nC (lE (lL (OF.lt fm6 (lQ (lQ hj h25) h25.symm)) (lT sz32 lR))) nN))).ext m49).ext m50).ext m51).mod m52 (fun j hj => (nC (lE (lL (OF.lt fm6 (lQ (lQ hj h25) h25.symm)) (lT sz33 lR))) nN))).mod m53 (fun j hj => (nC (lE (lL (OF.lt fm6 (lQ (lQ hj h25) h25.symm)) (lT (lT sz33 m50.size) lR))) nN))).ext m54).mod m55 (fun j hj => (nC (lE (lL (OF.lt fm6 (lQ (lQ hj h25) h25.symm)) (lT sz34 lR))) nN))).ext m56).mod m57 (fun j hj => (nC (lE (lL (OF.lt fm6 (lQ (lQ hj h25) h25.symm)) (lT sz34 lR))) nN))).ext m76).ext m77).mod m78 (fun j hj => (nC (lE (lL (OF.lt fm6 (lQ (lQ hj h25) h25.symm)) (lT sz38 ge54))) nN))).mod m79 (fun j hj => (nC (lE (lL (OF.lt fm6 (lQ (lQ hj h25) h25.symm)) (lT sz38 ge56))) nN))).ext m80))) rfl rfl (ltb rfl) ?_
     rintro _ w84 ⟨rfl, m81⟩
     refine WD (op_pick_t rfl rfl rfl) rfl ?_
     refine WD (op_move rfl) rfl ?_
     refine WL.yes rfl rfl rfl (ltb rfl) rfl rfl ?_
     refine WD (op_sliceArr rfl Try.runUnderlying72 Try.sizeOf27) rfl ?_
     refine WL.yes rfl rfl rfl (ltb rfl) rfl rfl ?_
     refine WD (op_move rfl) rfl ?_
     have sz44 := SzLe.mk (lT (lT (lT (lT (lT (lT (lT m52.size m53.size) m54.size) m55.size) m56.size) m57.size) m76.size) m77.size)
     have r164 := ((((((((((r104.ext m54).mod m55 (nC (lE (lL (lL r100.lt (lT m52.size m53.size)) lR)) nN)).ext m56).mod m57 (nC (lE (lL (lL r100.lt (lT m52.size m53.size)) lR)) nN)).ext m76).ext m77).mod m78 (nC (lE (lL (lL r100.lt sz44) ge54)) nN)).mod m79 (nC (lE (lL (lL r100.lt sz44) ge56)) nN)).ext m80).ext m81)
     refine WL.yes rfl rfl rfl (ltb rfl) rfl rfl ?_
     refine WL.call (oc_call (vs := [vS w52.heap.size 0 16 16, .slice A'2 16 c3'2]) (cap := []) rfl rfl rfl Try.call24 (c_SameRealsX 16 16 (some ⟨w52.heap.size, 0, none⟩) w52.heap.size ys7 c3'2 A'2 e'2 ys2 (fun _ => rfl) h27 h78 h28 (by first | with_reducible exact Cn.refl _ | with_reducible assumption | exact Cn.eq2 (by with_reducible assumption) (by with_reducible assumption) | exact cn_parts (by with_reducible assumption) (by with_reducible assumption) (by with_reducible assumption) (by with_reducible assumption) (by omega) | exact cn_over (by with_reducible assumption) (by with_reducible assumption) (by omega) | exact cn_two (by assumption) (by assumption) (by assumption) (by assumption) (by assumption) (by assumption) (by assumption) (by omega) (by omega)) (by omega) w84 r164.rng ((r155.ext m80).ext m81).rng)) rfl rfl (ltb rfl) ?_
     rintro _ w85 ⟨rfl, m82⟩
     refine WD (op_pick_t rfl rfl rfl) rfl ?_
     refine WD (op_move rfl) rfl ?_
     have sz45 := SzLe.mk (lT (lT (lT (lT m55.size m56.size) m57.size) m76.size) m77.size)
     have r165 := (((((((r113.ext m76).ext m77).mod m78 (nC (lE (lL (lL r106.lt sz45) ge54)) nN)).mod m79 (nC (lE (lL (lL r106.lt sz45) ge56)) nN)).ext m80).ext m81).ext m82)
     refine WL.yes rfl rfl rfl (ltb rfl) rfl rfl ?_
     refine WD (op_loadA (i := 0) (cs := [vS bR 0 nR1 cR, vS bL 0 nR1 cL, vS bS 0 nS1 cS, vI 1, vF kc1, vF kc2, vF 0, vF (z.s0), vF (z.s1), .bool op1, vF lo1, vF re1, vF sl1]) rfl Try.isAgg33 Try.sizeOf33 r165.rng rfl rfl rfl) rfl ?_
     refine WL.yes rfl rfl rfl (ltb rfl) rfl rfl ?_
     refine WD (op_loadA (i := 0) (cs := [vS bR'3 0 nR1 cR'3, vS bL'3 0 nR1 cL'3, vS bS'3 0 nS1 cS'3, vI 1, vF kc1, vF kc2, vF 0, vF (zz3.s0), vF (zz3.s1), .bool op1, vF lo1, vF re1, vF sl1]) rfl Try.isAgg33 Try.sizeOf33 ((r157.ext m81).ext m82).rng rfl rfl rfl) rfl ?_
     have r166 := (((((((r114.ext m76).ext m77).mod m78 (nC (lE (lL (lL r114.lt (lT m76.size m77.size)) ge54)) nN)).mod m79 (nC (lE (lL (lL r114.lt (lT m76.size m77.size)) ge56)) nN)).ext m80).ext m81).ext m82)
     have r167 := (((((((r115.ext m76).ext m77).mod m78 (nC (lE (lL (lL r115.lt (lT m76.size m77.size)) ge54)) nN)).mod m79 (nC (lE (lL (lL r115.lt (lT m76.size m77.size)) ge56)) nN)).ext m80).ext m81).ext m82)
     have r168 := (((((((r116.ext m76).ext m77).mod m78 (nC (lE (lL (lL r116.lt (lT m76.size m77.size)) ge54)) nN)).mod m79 (nC (lE (lL (lL r116.lt (lT m76.size m77.size)) ge56)) nN)).ext m80).ext m81).ext m82)
     refine WL.yes rfl rfl rfl (ltb rfl) rfl rfl ?_
     refine WL.call (oc_call (vs := [.agg #[vS bR 0 nR1 cR, vS bL 0 nR1 cL, vS bS 0 nS1 cS, vI 1, vF kc1, vF kc2, vF 0, vF (z.s0), vF (z.s1), .bool op1, vF lo1, vF re1, vF sl1], .agg #[vS bR'3 0 nR1 cR'3, vS bL'3 0 nR1 cL'3, vS bS'3 0 nS1 cS'3, vI 1, vF kc1, vF kc2, vF 0, vF (zz3.s0), vF (zz3.s1), .bool op1, vF lo1, vF re1, vF sl1]]) (cap := []) rfl rfl rfl Try.call37 (c_SamePipeX nR1 nS1 xS1 kc1 kc2 op1 lo1 re1 sl1 z cR bR PR w.heap.size cL bL PL w.heap.size cS bS zz3 cR'3 bR'3 PR'3 w7.heap.size cL'3 bL'3 PL'3 w7.heap.size cS'3 bS'3 (by first | with_reducible assumption | exact DPz.mono (by with_reducible assumption) (by omega) | exact zTo_dz (by with_reducible assumption) (by with_reducible assumption) (by with_reducible first | assumption | exact bd_take (by assumption) _) (by omega)) lzR lzL lzP lzQ h26 h21 h22 (by first | (with_reducible rfl) | with_reducible assumption | exact eqT (by with_reducible assumption) (by with_reducible assumption) | exact zTo_back (by with_reducible assumption) (by with_reducible assumption) (by with_reducible assumption) (by omega) | exact zTo_over (by with_reducible assumption) (by with_reducible assumption) (by omega)) h24 h25 w85 r166.rng r167.rng r168.rng ((r161.ext m81).ext m82).rng ((r162.ext m81).ext m82).rng ((r163.ext m81).ext m82).rng (((((((fm17.ext m76).ext m77).mod m78 (fun j hj => (nC (lE (lL (OF.lt fm17 (lQ (lQ hj lzR) lzR.symm)) (lT (lT m76.size m77.size) ge54))) nN))).mod m79 (fun j hj => (nC (lE (lL (OF.lt fm17 (lQ (lQ hj lzR) lzR.symm)) (lT (lT m76.size m77.size) ge56))) nN))).ext m80).ext m81).ext m82) (((((((fm18.ext m76).ext m77).mod m78 (fun j hj => (nC (lE (lL (OF.lt fm18 (lQ (lQ hj lzL) lzL.symm)) (lT (lT m76.size m77.size) ge54))) nN))).mod m79 (fun j hj => (nC (lE (lL (OF.lt fm18 (lQ (lQ hj lzL) lzL.symm)) (lT (lT m76.size m77.size) ge56))) nN))).ext m80).ext m81).ext m82) (((((((((((((((((((((((((((fm5.ext m9).mod m10 (fun j hj => (nC (lE (lL (OF.lt fm5 (lQ (lQ hj h24) h24.symm)) lR)) nN))).ext m11).ext m12).ext m13).ext m14).ext m29).ext m44).ext m45).mod m46 (fun j hj => (nC (lE (lL (OF.lt fm5 (lQ (lQ hj h24) h24.symm)) (lT sz32 lR))) nN))).mod m47 (fun j hj => (nC (lE (lL (OF.lt fm5 (lQ (lQ hj h24) h24.symm)) (lT sz32 lR))) nN))).ext m49).ext m50).ext m51).mod m52 (fun j hj => (nC (lE (lL (OF.lt fm5 (lQ (lQ hj h24) h24.symm)) (lT sz33 lR))) nN))).mod m53 (fun j hj => (nC (lE (lL (OF.lt fm5 (lQ (lQ hj h24) h24.symm)) (lT (lT sz33 m50.size) lR))) nN))).ext m54).mod m55 (fun j hj => (nC (lE (lL (OF.lt fm5 (lQ (lQ hj h24) h24.symm)) (lT sz34 lR))) nN))).ext m56).mod m57 (fun j hj => (nC (lE (lL (OF.lt fm5 (lQ (lQ hj h24) h24.symm)) (lT sz34 lR))) nN))).ext m76).ext m77).mod m78 (fun j hj => (nC (lE (lL (OF.lt fm5 (lQ (lQ hj h24) h24.symm)) (lT sz38 ge54))) nN))).mod m79 (fun j hj => (nC (lE (lL (OF.lt fm5 (lQ (lQ hj h24) h24.symm)) (lT sz38 ge56))) nN))).ext m80).ext m81).ext m82) (((((((((((((((((((((((((((fm6.ext m9).mod m10 (fun j hj => (nC (lE (lL (OF.lt fm6 (lQ (lQ hj h25) h25.symm)) lR)) nN))).ext m11).ext m12).ext m13).ext m14).ext m29).ext m44).ext m45).mod m46 (fun j hj => (nC (lE (lL (OF.lt fm6 (lQ (lQ hj h25) h25.symm)) (lT sz32 lR))) nN))).mod m47 (fun j hj => (nC (lE (lL (OF.lt fm6 (lQ (lQ hj h25) h25.symm)) (lT sz32 lR))) nN))).ext m49).ext m50).ext m51).mod m52 (fun j hj => (nC (lE (lL (OF.lt fm6 (lQ (lQ hj h25) h25.symm)) (lT sz33 lR))) nN))).mod m53 (fun j hj => (nC (lE (lL (OF.lt fm6 (lQ (lQ hj h25) h25.symm)) (lT (lT sz33 m50.size) lR))) nN))).ext m54).mod m55 (fun j hj => (nC (lE (lL (OF.lt fm6 (lQ (lQ hj h25) h25.symm)) (lT sz34 lR))) nN))).ext m56).mod m57 (fun j hj => (nC (lE (lL (OF.lt fm6 (lQ (lQ hj h25) h25.symm)) (lT sz34 lR))) nN))).ext m76).ext m77).mod m78 (fun j hj => (nC (lE (lL (OF.lt fm6 (lQ (lQ hj h25) h25.symm)) (lT sz38 ge54))) nN))).mod m79 (fun j hj => (nC (lE (lL (OF.lt fm6 (lQ (lQ hj h25) h25.symm)) (lT sz38 ge56))) nN))).ext m80).ext m81).ext m82))) rfl rfl (ltb rfl) ?_
     rintro _ w86 ⟨rfl, m83⟩
     refine WD (op_pick_t rfl rfl rfl) rfl ?_
     refine WD (op_move rfl) rfl ?_
     refine WL.yes rfl rfl rfl (ltb rfl) rfl rfl ?_
     refine WD (op_move rfl) rfl ?_
     refine WL.yes rfl rfl rfl (ltb rfl) rfl rfl ?_
     refine WD (op_move rfl) rfl ?_
     obtain ⟨b6, hA3, r169, ge57⟩ := Own.place (((((Own.mod2 ow1 (Own.mod2 ow1 ((ow1.ext m76).ext m77) m78 (aoC2 (.inr (lT (lT m76.size m77.size) ge54)) aoN2)) m79 (aoC2 (.inr (lT (lT m76.size m77.size) ge56)) aoN2)).ext m80).ext m81).ext m82).ext m83)
     have r170 := ((((r155.ext m80).ext m81).ext m82).ext m83)
     refine WL.yes rfl rfl rfl (ltb rfl) rfl rfl ?_
     refine WL.call (oc_call (vs := [.slice Aq 16 cc, .slice A'2 16 c3'2]) (cap := []) rfl rfl rfl Try.call24 (c_SameRealsX 16 cc Aq b6 ys c3'2 A'2 e'2 ys2 hA3 h27 hly h28 (by first | with_reducible exact Cn.refl _ | with_reducible assumption | exact Cn.eq2 (by with_reducible assumption) (by with_reducible assumption) | exact cn_parts (by with_reducible assumption) (by with_reducible assumption) (by with_reducible assumption) (by with_reducible assumption) (by omega) | exact cn_over (by with_reducible assumption) (by with_reducible assumption) (by omega) | exact cn_two (by assumption) (by assumption) (by assumption) (by assumption) (by assumption) (by assumption) (by assumption) (by omega) (by omega)) (by omega) w86 r169 r170.rng)) rfl rfl (ltb rfl) ?_
     rintro _ w87 ⟨rfl, m84⟩
     refine WD (op_pick_t rfl rfl rfl) rfl ?_
     refine WD (op_assign rfl) rfl ?_
     refine WL.end (NE.code (CE.ret' ?_))
     refine XE.leave1 Try.results9 rfl ?_
     have sz46 := SzLe.mk (lT (lT (lT (lT (lT (lT (lT (lT sz5 m9.size) m10.size) m11.size) m12.size) m13.size) m14.size) m29.size) m44.size)
     have sz47 := SzLe.mk (lT (lT (lT (lT sz46 m45.size) m46.size) m47.size) m49.size)
     have sz48 := SzLe.mk (lT (lT (lT (lT sz47 m50.size) m51.size) m52.size) m53.size)
     have sz49 := SzLe.mk (lT (lT (lT (lT (lT (lT sz48 m54.size) m55.size) m56.size) m57.size) m76.size) m77.size)
     refine ⟨rfl, ((((((((((((((((((((((((((((((((((((((Mod.refl [] w).nt m1).nt m2).then m3 ((aC (.inr (lT m1.size lR)) aN))).nt m4).nt m5).nt m6).then m7 ((aC (.inr (lT sz4 lR)) aN))).nt m8).nt m9).then m10 ((aC (.inr (lT sz5 lR)) aN))).nt m11).nt m12).nt m13).nt m14).nt m29).nt m44).nt m45).then m46 ((aC (.inr (lT sz46 lR)) aN))).then m47 ((aC (.inr (lT sz46 lR)) aN))).nt m49).nt m50).nt m51).then m52 ((aC (.inr (lT sz47 lR)) aN))).then m53 ((aC (.inr (lT (lT sz47 m50.size) lR)) aN))).nt m54).then m55 ((aC (.inr (lT sz48 lR)) aN))).nt m56).then m57 ((aC (.inr (lT sz48 lR)) aN))).nt m76).nt m77).then m78 ((aC (.inr (lT sz49 ge54)) aN))).then m79 ((aC (.inr (lT sz49 ge56)) aN))).nt m80).nt m81).nt m82).nt m83).nt m84)⟩

end Go.Proofs.Ytnahhdnkbbdceaa
