/- The law on pulses, walked. -/
import Derived.Test.YtnahhdnkbbdceaaN18
import Derived.Test.YtnahhdnkbbdceaaE8
import Derived.Test.YtnahhdnkbbdceaaE14
import Derived.Test.YtnahhdnkbbdceaaE20
set_option linter.unusedVariables false
set_option linter.unusedSimpArgs false
set_option maxRecDepth 100000
set_option maxHeartbeats 8000000
namespace Go.Proofs.Ytnahhdnkbbdceaa

theorem law_pul_b1 (nu : Nat) (cu : Nat) (Au : Option Addr) (bu : Nat) (ou : Nat) (xsu : List Nat) (nv : Nat) (cv : Nat) (Av : Option Addr) (bv : Nat) (ov : Nat) (xsv : List Nat) (lnu : xsu.length = nu) (hAu : 0 < nu → Au = some ⟨bu, ou, none⟩) (hBu : ∀ i, xsu.getD i 0 < 256) (lnv : xsv.length = nv) (hAv : 0 < nv → Av = some ⟨bv, ov, none⟩) (hBv : ∀ i, xsv.getD i 0 < 256) (hnu : 4096 < nu) (w : World) (ru : Rng w bu ou (bys xsu)) (rv : Rng w bv ov (bys xsv)) : Cl Try.prog 7 #[.slice Au nu cu, .slice Av nv cv] w fun v w' => v = .bool true ∧ Mod [] w w' := by
 refine Cl.of Try.func7 Try.ntmps7 rfl rfl (ρ := [(0, .slice Au nu cu), (1, .slice Av nv cv)]) rfl ?_
 refine CE.seq (CE.region ?_)
 refine WD (op_assign rfl) rfl ?_
 refine WL.end (NE.code (CE.seq (CE.seq (CE.region ?_))))
 refine WD (op_move rfl) rfl ?_
 refine WL.call (oc_call (vs := [.slice Au nu cu]) (cap := []) rfl rfl rfl Try.call13 (c_f6big nu cu Au w)) rfl rfl (ltb rfl) ?_
 rintro _ _ ⟨rfl, rfl⟩
 refine WD (op_move rfl) rfl ?_
 iterate 2 refine WL.no rfl rfl rfl (ltb rfl) rfl (decide_eq_true (by omega)) rfl (ltb rfl) ?_
 refine WD (op_pick_t rfl (decide_eq_true (by omega)) rfl) rfl ?_
 refine WL.end (NE.code ?_)
 refine CE.cond_t rfl rfl ?_
 refine CE.seq (CE.region ?_)
 refine WD (op_assign rfl) rfl ?_
 refine WL.end (NE.code (CE.ret' (XE.ret_then ?_)))
 refine XE.leave1 Try.results7 rfl ?_
 refine ⟨rfl, (Mod.refl [] w)⟩

theorem law_pul_b2 (nu : Nat) (cu : Nat) (Au : Option Addr) (bu : Nat) (ou : Nat) (xsu : List Nat) (nv : Nat) (cv : Nat) (Av : Option Addr) (bv : Nat) (ov : Nat) (xsv : List Nat) (lnu : xsu.length = nu) (hAu : 0 < nu → Au = some ⟨bu, ou, none⟩) (hBu : ∀ i, xsu.getD i 0 < 256) (lnv : xsv.length = nv) (hAv : 0 < nv → Av = some ⟨bv, ov, none⟩) (hBv : ∀ i, xsv.getD i 0 < 256) (hnu : nu ≤ 4096) (hnv : 4096 < nv) (w : World) (ru : Rng w bu ou (bys xsu)) (rv : Rng w bv ov (bys xsv)) : Cl Try.prog 7 #[.slice Au nu cu, .slice Av nv cv] w fun v w' => v = .bool true ∧ Mod [] w w' := by
 refine Cl.of Try.func7 Try.ntmps7 rfl rfl (ρ := [(0, .slice Au nu cu), (1, .slice Av nv cv)]) rfl ?_
 refine CE.seq (CE.region ?_)
 refine WD (op_assign rfl) rfl ?_
 refine WL.end (NE.code (CE.seq (CE.seq (CE.region ?_))))
 refine WD (op_move rfl) rfl ?_
 refine WL.call (oc_call (vs := [.slice Au nu cu]) (cap := []) rfl rfl rfl Try.call13 (c_f6big nu cu Au w)) rfl rfl (ltb rfl) ?_
 rintro _ _ ⟨rfl, rfl⟩
 refine WD (op_move rfl) rfl ?_
 refine WL.yes rfl rfl rfl (ltb rfl) rfl (decide_eq_false (by omega)) ?_
 refine WD (op_move rfl) rfl ?_
 refine WL.yes rfl rfl rfl (ltb rfl) rfl (decide_eq_false (by omega)) ?_
 refine WL.call (oc_call (vs := [.slice Av nv cv]) (cap := []) rfl rfl rfl Try.call13 (c_f6big nv cv Av w)) rfl rfl (ltb rfl) ?_
 rintro _ _ ⟨rfl, rfl⟩
 refine WD (op_pick_f rfl (decide_eq_false (by omega)) rfl) rfl ?_
 refine WL.end (NE.code ?_)
 refine CE.cond_t rfl (decide_eq_true (by omega)) ?_
 refine CE.seq (CE.region ?_)
 refine WD (op_assign rfl) rfl ?_
 refine WL.end (NE.code (CE.ret' (XE.ret_then ?_)))
 refine XE.leave1 Try.results7 rfl ?_
 refine ⟨rfl, (Mod.refl [] w)⟩

theorem law_pul (nu : Nat) (cu : Nat) (Au : Option Addr) (bu : Nat) (ou : Nat) (xsu : List Nat) (nv : Nat) (cv : Nat) (Av : Option Addr) (bv : Nat) (ov : Nat) (xsv : List Nat) (lnu : xsu.length = nu) (hAu : 0 < nu → Au = some ⟨bu, ou, none⟩) (hBu : ∀ i, xsu.getD i 0 < 256) (lnv : xsv.length = nv) (hAv : 0 < nv → Av = some ⟨bv, ov, none⟩) (hBv : ∀ i, xsv.getD i 0 < 256) (hnu : nu ≤ 4096) (hnv : nv ≤ 4096) (w : World) (ru : Rng w bu ou (bys xsu)) (rv : Rng w bv ov (bys xsv)) : Cl Try.prog 7 #[.slice Au nu cu, .slice Av nv cv] w fun v w' => v = .bool true ∧ Mod [] w w' := by
 refine Cl.of Try.func7 Try.ntmps7 rfl rfl (ρ := [(0, .slice Au nu cu), (1, .slice Av nv cv)]) rfl ?_
 refine CE.seq (CE.region ?_)
 refine WD (op_assign rfl) rfl ?_
 refine WL.end (NE.code (CE.seq (CE.seq (CE.region ?_))))
 refine WD (op_move rfl) rfl ?_
 refine WL.call (oc_call (vs := [.slice Au nu cu]) (cap := []) rfl rfl rfl Try.call13 (c_f6big nu cu Au w)) rfl rfl (ltb rfl) ?_
 rintro _ _ ⟨rfl, rfl⟩
 refine WD (op_move rfl) rfl ?_
 refine WL.yes rfl rfl rfl (ltb rfl) rfl (decide_eq_false (by omega)) ?_
 refine WD (op_move rfl) rfl ?_
 refine WL.yes rfl rfl rfl (ltb rfl) rfl (decide_eq_false (by omega)) ?_
 refine WL.call (oc_call (vs := [.slice Av nv cv]) (cap := []) rfl rfl rfl Try.call13 (c_f6big nv cv Av w)) rfl rfl (ltb rfl) ?_
 rintro _ _ ⟨rfl, rfl⟩
 refine WD (op_pick_f rfl (decide_eq_false (by omega)) rfl) rfl ?_
 refine WL.end (NE.code ?_)
 refine CE.cond_f rfl (decide_eq_false (by omega)) ?_
 refine CE.skip' (NE.code (CE.seq (CE.region ?_)))
 refine WD (op_move rfl) rfl ?_
 refine WL.call (oc_call (vs := [.slice Au nu cu]) (cap := []) rfl rfl rfl Try.call33 (c_P6PipeJ nu cu Au bu ou xsu lnu hAu hBu (by omega) w ru)) rfl rfl (ltb rfl) ?_
 rintro _ w1 ⟨bR'1, cR'1, PR'1, bL'1, cL'1, PL'1, bS'1, cS'1, nR1, nS1, xS1, kc1, kc2, op1, lo1, re1, sl1, zz1, rfl, h1, h2, h3, h4, h5, h6, h7, h8, h9, r1, r2, r3, ge1, ge2, ge3, ne1, ne2, ne3, fm1, fn1, fn2, fn3, fn4, fm2, fn5, fn6, fn7, m1⟩
 refine WL.op (op_alloc (cs := [.slice none 0 0, .slice none 0 0, .slice none 0 0, vI 0, vF 0, vF 0, vF 0, vF 0, vF 0, .bool false, vF 0, vF 0, vF 0]) Try.zeroValue33 rfl) rfl rfl (ltb rfl) ?_
 rintro _ w2 ⟨rfl, r4, m2, z1⟩
 refine WL.op0 (op_store (i := 0) (cs := [vS bR'1 0 nR1 cR'1, vS bL'1 0 nR1 cL'1, vS bS'1 0 nS1 cS'1, vI 1, vF kc1, vF kc2, vF 0, vF (zz1.s0), vF (zz1.s1), .bool op1, vF lo1, vF re1, vF sl1]) rfl rfl rfl Try.sizeOf33 rfl r4 rfl (lB rfl) rfl) rfl rfl ?_
 rintro _ w3 ⟨r5, m3, z2⟩
 have r6 : Row w3 w1.heap.size 0 [vS bR'1 0 nR1 cR'1, vS bL'1 0 nR1 cL'1, vS bS'1 0 nS1 cS'1, vI 1, vF kc1, vF kc2, vF 0, vF (zz1.s0), vF (zz1.s1), .bool op1, vF lo1, vF re1, vF sl1] := Row.congr r5 rfl
 refine WL.end (NE.code (CE.seq (CE.region ?_)))
 refine WD (op_move rfl) rfl ?_
 refine WD (op_fieldAddr (off' := 0) rfl Try.runUnderlying33 rfl rfl Try.sizeOf25 rfl) rfl ?_
 refine WD (op_load1 (i := 0) rfl Try.isAgg25 r6.rng rfl rfl) rfl ?_
 refine WD (op_len rfl Try.runUnderlying25) rfl ?_
 have r7 := (Rng.youngS rv ((rv.ext m1).ext m2) m3 (allge_cons (lT m1.size lR) allge_nil))
 refine WL.call (oc_call (vs := [.slice Av nv cv, vI ((nR1 : Nat) : Int)]) (cap := []) rfl rfl rfl Try.call14 (c_P6PickS nv cv Av bv ov xsv nR1 lnv hAv hBv (by omega) (by first | omega | exact ring_lo (by with_reducible assumption) (by omega)) (by first | omega | exact ring_hi (by with_reducible assumption) (by omega)) w3 r7)) rfl rfl (ltb rfl) ?_
 rintro _ w4 ⟨u1, rfl, h10, m4⟩
 refine WD (op_assign rfl) rfl ?_
 refine WL.end (NE.code (CE.seq (CE.region ?_)))
 refine WD (op_fieldAddr (off' := 0) rfl Try.runUnderlying33 rfl rfl Try.sizeOf25 rfl) rfl ?_
 refine WD (op_load1 (i := 0) rfl Try.isAgg25 (r6.ext m4).rng rfl rfl) rfl ?_
 refine WD (op_move rfl) rfl ?_
 refine WD (op_indexSl (off' := 0 + u1 * 2) rfl rfl rfl Try.runUnderlying25 Try.sizeOf60 (by omega) (by omega) (by omega)) rfl ?_
 refine WD (op_fieldAddr (off' := 0 + u1 * 2) rfl Try.runUnderlying60 rfl rfl Try.sizeOf26 rfl) rfl ?_
 have r8 := (((r1.ext m2).mod m3 (nC (lE (lL r1.lt lR)) nN)).ext m4)
 refine WD (op_load1 (i := u1 * 2) rfl Try.isAgg26 r8.rng rfl (olc_get0 h4 h1 (show u1 < nR1 by omega))) rfl ?_
 refine WD (op_len rfl Try.runUnderlying26) rfl ?_
 refine WD (op_assign rfl) rfl ?_
 refine WL.end (NE.code (CE.seq (CE.region ?_)))
 iterate 2 refine WD (op_move rfl) rfl ?_
 have r9 := ((Rng.youngS ru ((ru.ext m1).ext m2) m3 (allge_cons (lT m1.size lR) allge_nil)).ext m4)
 refine WL.call (oc_call (vs := [.slice Au nu cu, vI (((zz1.R.getD u1 RD.d).xs.length : Nat) : Int)]) (cap := []) rfl rfl rfl Try.call14 (c_P6PickS nu cu Au bu ou xsu ((zz1.R.getD u1 RD.d).xs.length) lnu hAu hBu (by omega) (by first | omega | exact ring_lo (by with_reducible assumption) (by omega)) (by first | omega | exact ring_hi (by with_reducible assumption) (by omega)) w4 r9)) rfl rfl (ltb rfl) ?_
 rintro _ w5 ⟨u2, rfl, h11, m5⟩
 refine WD (op_assign rfl) rfl ?_
 refine WL.end (NE.code (CE.seq (CE.region ?_)))
 refine WD (op_move rfl) rfl ?_
 refine WL.call (oc_call (vs := [.slice Av nv cv]) (cap := []) rfl rfl rfl Try.call34 (c_P6PlainW nv cv Av bv ov xsv lnv hAv hBv (by omega) w5 ((r7.ext m4).ext m5))) rfl rfl (ltb rfl) ?_
 rintro _ w6 ⟨r_1, rfl, h12, h13, m6⟩
 refine WD (op_assign rfl) rfl ?_
 refine WL.end (NE.code (CE.seq (CE.region ?_)))
 have r10 := (((r6.ext m4).ext m5).ext m6)
 refine WD (op_loadA (i := 0) (cs := [vS bR'1 0 nR1 cR'1, vS bL'1 0 nR1 cL'1, vS bS'1 0 nS1 cS'1, vI 1, vF kc1, vF kc2, vF 0, vF (zz1.s0), vF (zz1.s1), .bool op1, vF lo1, vF re1, vF sl1]) rfl Try.isAgg33 Try.sizeOf33 r10.rng rfl rfl rfl) rfl ?_
 iterate 3 refine WD (op_move rfl) rfl ?_
 have r11 := (((((r2.ext m2).mod m3 (nC (lE (lL r2.lt lR)) nN)).ext m4).ext m5).ext m6)
 have r12 := (((((r3.ext m2).mod m3 (nC (lE (lL r3.lt lR)) nN)).ext m4).ext m5).ext m6)
 refine WL.call (oc_call (vs := [.agg #[vS bR'1 0 nR1 cR'1, vS bL'1 0 nR1 cL'1, vS bS'1 0 nS1 cS'1, vI 1, vF kc1, vF kc2, vF 0, vF (zz1.s0), vF (zz1.s1), .bool op1, vF lo1, vF re1, vF sl1], vI ((u1 : Nat) : Int), vI ((u2 : Nat) : Int), vF r_1]) (cap := []) rfl rfl rfl Try.call35 (c_iPulZ nR1 nS1 xS1 kc1 kc2 op1 lo1 re1 sl1 zz1 cR'1 bR'1 PR'1 w.heap.size cL'1 bL'1 PL'1 w.heap.size cS'1 bS'1 u1 u2 r_1 (by with_reducible assumption) h4 h5 h1 h2 h6 (by first | assumption | omega) (by first | assumption | omega) (by first | with_reducible assumption | exact PlW.fin (by with_reducible assumption)) (by first | with_reducible assumption | exact PlW.bd (by with_reducible assumption)) h12 w6 ((r8.ext m5).ext m6).rng r11.rng r12.rng (((((fm1.ext m2).mod m3 (fun j hj => (nC (lE (lL (OF.lt fm1 (lQ (lQ hj h4) h4.symm)) lR)) nN))).ext m4).ext m5).ext m6) (((((fm2.ext m2).mod m3 (fun j hj => (nC (lE (lL (OF.lt fm2 (lQ (lQ hj h5) h5.symm)) lR)) nN))).ext m4).ext m5).ext m6))) rfl rfl (ltb rfl) ?_
 rintro _ w7 ⟨bR'2, cR'2, PR'2, bL'2, cL'2, PL'2, bS'2, cS'2, zz2, rfl, h14, h15, h16, h17, h18, h19, h20, r13, r14, r15, ge4, ge5, ge6, ne4, ne5, ne6, fm3, fn8, fn9, fn10, fn11, fm4, fn12, fn13, fn14, m7⟩
 refine WD (op_move rfl) rfl ?_
 iterate 2 refine WD (op_extract rfl rfl) rfl ?_
 refine WL.op (op_alloc (cs := [.slice none 0 0, .slice none 0 0, .slice none 0 0, vI 0, vF 0, vF 0, vF 0, vF 0, vF 0, .bool false, vF 0, vF 0, vF 0]) Try.zeroValue33 rfl) rfl rfl (ltb rfl) ?_
 rintro _ w8 ⟨rfl, r16, m8, z3⟩
 refine WL.op0 (op_store (i := 0) (cs := [vS bR'2 0 nR1 cR'2, vS bL'2 0 nR1 cL'2, vS bS'2 0 nS1 cS'2, vI 1, vF kc1, vF kc2, vF 0, vF (zz2.s0), vF (zz2.s1), .bool op1, vF lo1, vF re1, vF sl1]) rfl rfl rfl Try.sizeOf33 rfl r16 rfl (lB rfl) rfl) rfl rfl ?_
 rintro _ w9 ⟨r17, m9, z4⟩
 have r18 : Row w9 w7.heap.size 0 [vS bR'2 0 nR1 cR'2, vS bL'2 0 nR1 cL'2, vS bS'2 0 nS1 cS'2, vI 1, vF kc1, vF kc2, vF 0, vF (zz2.s0), vF (zz2.s1), .bool op1, vF lo1, vF re1, vF sl1] := Row.congr r17 rfl
 refine WD (op_assign rfl) rfl ?_
 refine WL.end (NE.code (CE.seq (CE.region ?_)))
 have sz1 := SzLe.mk (lT (lT (lT (lT m3.size m4.size) m5.size) m6.size) m7.size)
 have r19 := (((r10.ext m7).ext m8).mod m9 (nC (lE (lL (lL r4.lt sz1) lR)) nN))
 refine WD (op_loadA (i := 0) (cs := [vS bR'1 0 nR1 cR'1, vS bL'1 0 nR1 cL'1, vS bS'1 0 nS1 cS'1, vI 1, vF kc1, vF kc2, vF 0, vF (zz1.s0), vF (zz1.s1), .bool op1, vF lo1, vF re1, vF sl1]) rfl Try.isAgg33 Try.sizeOf33 r19.rng rfl rfl rfl) rfl ?_
 iterate 3 refine WD (op_move rfl) rfl ?_
 have sz2 := SzLe.mk (lT (lT (lT (lT (lT m2.size m3.size) m4.size) m5.size) m6.size) m7.size)
 have r20 := (((((r8.ext m5).ext m6).ext m7).ext m8).mod m9 (nC (lE (lL (lL r1.lt sz2) lR)) nN))
 have r21 := (((r11.ext m7).ext m8).mod m9 (nC (lE (lL (lL r2.lt sz2) lR)) nN))
 have r22 := (((r12.ext m7).ext m8).mod m9 (nC (lE (lL (lL r3.lt sz2) lR)) nN))
 refine WL.call (oc_call (vs := [.agg #[vS bR'1 0 nR1 cR'1, vS bL'1 0 nR1 cL'1, vS bS'1 0 nS1 cS'1, vI 1, vF kc1, vF kc2, vF 0, vF (zz1.s0), vF (zz1.s1), .bool op1, vF lo1, vF re1, vF sl1], vI ((u1 : Nat) : Int), vI ((u2 : Nat) : Int), vF r_1]) (cap := []) rfl rfl rfl Try.call36 (c_sPulZ nR1 nS1 xS1 kc1 kc2 op1 lo1 re1 sl1 zz1 cR'1 bR'1 PR'1 w.heap.size cL'1 bL'1 PL'1 w.heap.size cS'1 bS'1 u1 u2 r_1 (by with_reducible assumption) h4 h5 h1 h2 h6 (by first | assumption | omega) (by first | assumption | omega) (by first | with_reducible assumption | exact PlW.fin (by with_reducible assumption)) (by first | with_reducible assumption | exact PlW.bd (by with_reducible assumption)) h12 w9 r20.rng r21.rng r22.rng ((((((((fm1.ext m2).mod m3 (fun j hj => (nC (lE (lL (OF.lt fm1 (lQ (lQ hj h4) h4.symm)) lR)) nN))).ext m4).ext m5).ext m6).ext m7).ext m8).mod m9 (fun j hj => (nC (lE (lL (OF.lt fm1 (lQ (lQ hj h4) h4.symm)) (lT sz2 lR))) nN))) ((((((((fm2.ext m2).mod m3 (fun j hj => (nC (lE (lL (OF.lt fm2 (lQ (lQ hj h5) h5.symm)) lR)) nN))).ext m4).ext m5).ext m6).ext m7).ext m8).mod m9 (fun j hj => (nC (lE (lL (OF.lt fm2 (lQ (lQ hj h5) h5.symm)) (lT sz2 lR))) nN))))) rfl rfl (ltb rfl) ?_
 rintro _ w10 ⟨bR'3, cR'3, PR'3, bL'3, cL'3, PL'3, bS'3, cS'3, zz3, rfl, h21, h22, h23, h24, h25, h26, h27, r23, r24, r25, ge7, ge8, ge9, ne7, ne8, ne9, fm5, fn15, fn16, fn17, fn18, fm6, fn19, fn20, fn21, m10⟩
 refine WD (op_move rfl) rfl ?_
 iterate 2 refine WD (op_extract rfl rfl) rfl ?_
 refine WL.op (op_alloc (cs := [.slice none 0 0, .slice none 0 0, .slice none 0 0, vI 0, vF 0, vF 0, vF 0, vF 0, vF 0, .bool false, vF 0, vF 0, vF 0]) Try.zeroValue33 rfl) rfl rfl (ltb rfl) ?_
 rintro _ w11 ⟨rfl, r26, m11, z5⟩
 refine WL.op0 (op_store (i := 0) (cs := [vS bR'3 0 nR1 cR'3, vS bL'3 0 nR1 cL'3, vS bS'3 0 nS1 cS'3, vI 1, vF kc1, vF kc2, vF 0, vF (zz3.s0), vF (zz3.s1), .bool op1, vF lo1, vF re1, vF sl1]) rfl rfl rfl Try.sizeOf33 rfl r26 rfl (lB rfl) rfl) rfl rfl ?_
 rintro _ w12 ⟨r27, m12, z6⟩
 have r28 : Row w12 w10.heap.size 0 [vS bR'3 0 nR1 cR'3, vS bL'3 0 nR1 cL'3, vS bS'3 0 nS1 cS'3, vI 1, vF kc1, vF kc2, vF 0, vF (zz3.s0), vF (zz3.s1), .bool op1, vF lo1, vF re1, vF sl1] := Row.congr r27 rfl
 refine WD (op_assign rfl) rfl ?_
 refine WL.end (NE.code (CE.seq (CE.seq (CE.region ?_))))
 iterate 2 refine WD (op_move rfl) rfl ?_
 refine WD (op_nei rfl rfl) rfl ?_
 refine WD (op_move rfl) rfl ?_
 refine WL.yes rfl rfl rfl (ltb rfl) rfl rfl ?_
 refine WD (op_move rfl) rfl ?_
 refine WL.yes rfl rfl rfl (ltb rfl) rfl rfl ?_
 refine WD (op_nei rfl rfl) rfl ?_
 refine WD (op_pick_f rfl rfl rfl) rfl ?_
 refine WD (op_move rfl) rfl ?_
 have r29 := (((r18.ext m10).ext m11).mod m12 (nC (lE (lL (lL r16.lt (lT m9.size m10.size)) lR)) nN))
 refine WL.yes rfl rfl rfl (ltb rfl) rfl rfl ?_
 refine WD (op_loadA (i := 0) (cs := [vS bR'2 0 nR1 cR'2, vS bL'2 0 nR1 cL'2, vS bS'2 0 nS1 cS'2, vI 1, vF kc1, vF kc2, vF 0, vF (zz2.s0), vF (zz2.s1), .bool op1, vF lo1, vF re1, vF sl1]) rfl Try.isAgg33 Try.sizeOf33 r29.rng rfl rfl rfl) rfl ?_
 refine WL.yes rfl rfl rfl (ltb rfl) rfl rfl ?_
 refine WD (op_loadA (i := 0) (cs := [vS bR'3 0 nR1 cR'3, vS bL'3 0 nR1 cL'3, vS bS'3 0 nS1 cS'3, vI 1, vF kc1, vF kc2, vF 0, vF (zz3.s0), vF (zz3.s1), .bool op1, vF lo1, vF re1, vF sl1]) rfl Try.isAgg33 Try.sizeOf33 r28.rng rfl rfl rfl) rfl ?_
 have sz3 := SzLe.mk (lT (lT m8.size m9.size) m10.size)
 have r30 := (((((r13.ext m8).mod m9 (nC (lE (lL r13.lt lR)) nN)).ext m10).ext m11).mod m12 (nC (lE (lL (lL r13.lt sz3) lR)) nN))
 have r31 := (((((r14.ext m8).mod m9 (nC (lE (lL r14.lt lR)) nN)).ext m10).ext m11).mod m12 (nC (lE (lL (lL r14.lt sz3) lR)) nN))
 have r32 := (((((r15.ext m8).mod m9 (nC (lE (lL r15.lt lR)) nN)).ext m10).ext m11).mod m12 (nC (lE (lL (lL r15.lt sz3) lR)) nN))
 refine WL.yes rfl rfl rfl (ltb rfl) rfl rfl ?_
 refine WL.call (oc_call (vs := [.agg #[vS bR'2 0 nR1 cR'2, vS bL'2 0 nR1 cL'2, vS bS'2 0 nS1 cS'2, vI 1, vF kc1, vF kc2, vF 0, vF (zz2.s0), vF (zz2.s1), .bool op1, vF lo1, vF re1, vF sl1], .agg #[vS bR'3 0 nR1 cR'3, vS bL'3 0 nR1 cL'3, vS bS'3 0 nS1 cS'3, vI 1, vF kc1, vF kc2, vF 0, vF (zz3.s0), vF (zz3.s1), .bool op1, vF lo1, vF re1, vF sl1]]) (cap := []) rfl rfl rfl Try.call37 (c_SamePipeX nR1 nS1 xS1 kc1 kc2 op1 lo1 re1 sl1 zz2 cR'2 bR'2 PR'2 w6.heap.size cL'2 bL'2 PL'2 w6.heap.size cS'2 bS'2 zz3 cR'3 bR'3 PR'3 w9.heap.size cL'3 bL'3 PL'3 w9.heap.size cS'3 bS'3 (by first | with_reducible assumption | exact DPz.mono (by with_reducible assumption) (by omega) | exact zTo_dz (by with_reducible assumption) (by with_reducible assumption) (by with_reducible first | assumption | exact bd_take (by assumption) _) (by omega)) h17 h18 h14 h15 h26 h21 h22 (by first | (with_reducible rfl) | with_reducible assumption | exact eqT (by with_reducible assumption) (by with_reducible assumption) | exact zTo_back (by with_reducible assumption) (by with_reducible assumption) (by with_reducible assumption) (by omega) | exact zTo_over (by with_reducible assumption) (by with_reducible assumption) (by omega) | exact pul_eq (by with_reducible assumption) (by with_reducible assumption)) h24 h25 w12 r30.rng r31.rng r32.rng ((r23.ext m11).mod m12 (nC (lE (lL r23.lt lR)) nN)).rng ((r24.ext m11).mod m12 (nC (lE (lL r24.lt lR)) nN)).rng ((r25.ext m11).mod m12 (nC (lE (lL r25.lt lR)) nN)).rng (((((fm3.ext m8).mod m9 (fun j hj => (nC (lE (lL (OF.lt fm3 (lQ (lQ hj h17) h17.symm)) lR)) nN))).ext m10).ext m11).mod m12 (fun j hj => (nC (lE (lL (OF.lt fm3 (lQ (lQ hj h17) h17.symm)) (lT sz3 lR))) nN))) (((((fm4.ext m8).mod m9 (fun j hj => (nC (lE (lL (OF.lt fm4 (lQ (lQ hj h18) h18.symm)) lR)) nN))).ext m10).ext m11).mod m12 (fun j hj => (nC (lE (lL (OF.lt fm4 (lQ (lQ hj h18) h18.symm)) (lT sz3 lR))) nN))) ((fm5.ext m11).mod m12 (fun j hj => (nC (lE (lL (OF.lt fm5 (lQ (lQ hj h24) h24.symm)) lR)) nN))) ((fm6.ext m11).mod m12 (fun j hj => (nC (lE (lL (OF.lt fm6 (lQ (lQ hj h25) h25.symm)) lR)) nN))))) rfl rfl (ltb rfl) ?_
 rintro _ w13 ⟨rfl, m13⟩
 refine WL.yes rfl rfl rfl (ltb rfl) rfl rfl ?_
 refine WD (op_not rfl) rfl ?_
 refine WD (op_pick_f rfl rfl rfl) rfl ?_
 refine WL.end (NE.code ?_)
 refine CE.cond_f rfl rfl ?_
 refine CE.skip' (NE.code (CE.seq (CE.seq (CE.region ?_))))
 refine WD (op_assign rfl) rfl ?_
 refine WL.end (NE.code (CE.block ?_))
 refine CE.loop (fun (i : Nat) => [(14, vI ((i : Nat) : Int)), (0, .slice Au nu cu), (1, .slice Av nv cv), (4, .bool false), (5, vP w1.heap.size 0), (6, vI ((u1 : Nat) : Int)), (8, vI ((u2 : Nat) : Int)), (9, vF r_1), (12, vP w10.heap.size 0)]) (fun (i : Nat) => fun W => (i ≤ nR1) ∧ Mod [] w13 W) (fun (i : Nat) => nR1 - i) 0 (⟨rfl, rfl, rfl, rfl, rfl, rfl, rfl, rfl, rfl, trivial⟩) ⟨(by omega), Mod.refl _ _⟩ ?_
 rintro i w14 ⟨hi, m14⟩
 show CE _ _ _ _ [(14, vI ((i : Nat) : Int)), (0, .slice Au nu cu), (1, .slice Av nv cv), (4, .bool false), (5, vP w1.heap.size 0), (6, vI ((u1 : Nat) : Int)), (8, vI ((u2 : Nat) : Int)), (9, vF r_1), (12, vP w10.heap.size 0)] _
 refine CE.seq (CE.seq (CE.region ?_))
 refine WD (op_move rfl) rfl ?_
 refine WD (op_fieldAddr (off' := 0) rfl Try.runUnderlying33 rfl rfl Try.sizeOf25 rfl) rfl ?_
 have sz4 := SzLe.mk (lT (lT (lT sz1 m8.size) m9.size) m10.size)
 have r33 := (((((r19.ext m10).ext m11).mod m12 (nC (lE (lL (lL r4.lt sz4) lR)) nN)).ext m13).ext m14)
 refine WD (op_load1 (i := 0) rfl Try.isAgg25 r33.rng rfl rfl) rfl ?_
 refine WD (op_len rfl Try.runUnderlying25) rfl ?_
 refine WD (op_lti rfl rfl) rfl ?_
 refine WL.end (NE.code ?_)
 rcases Bool.eq_false_or_eq_true (decide (((i : Nat) : Int) < ((nR1 : Nat) : Int))) with hb1 | hb1
 ·have hp1 := of_decide_eq_true hb1
  refine CE.cond_t rfl hb1 ?_
  refine CE.skip' (NE.code (CE.seq (CE.block (CE.seq (CE.region ?_)))))
  refine WD (op_assign rfl) rfl ?_
  refine WL.end (NE.code (CE.block ?_))
  refine CE.loop (fun (kk : Nat) => [(15, vI ((kk : Nat) : Int)), (14, vI ((i : Nat) : Int)), (0, .slice Au nu cu), (1, .slice Av nv cv), (4, .bool false), (5, vP w1.heap.size 0), (6, vI ((u1 : Nat) : Int)), (8, vI ((u2 : Nat) : Int)), (9, vF r_1), (12, vP w10.heap.size 0)]) (fun (kk : Nat) => fun W => (kk ≤ (zz1.R.getD i RD.d).xs.length) ∧ Mod [] w14 W) (fun (kk : Nat) => (zz1.R.getD i RD.d).xs.length - kk) 0 (⟨rfl, rfl, rfl, rfl, rfl, rfl, rfl, rfl, rfl, rfl, trivial⟩) ⟨(by omega), Mod.refl _ _⟩ ?_
  rintro kk w15 ⟨hkk, m15⟩
  have hlk : (zz1.R.getD i RD.d).xs.length ≤ 1048576 := (DPz.small (by with_reducible assumption)).1 i
  have hlz : (zz3.R.getD i RD.d).xs.length = (zz1.R.getD i RD.d).xs.length := pul_ln (by with_reducible assumption)
  show CE _ _ _ _ [(15, vI ((kk : Nat) : Int)), (14, vI ((i : Nat) : Int)), (0, .slice Au nu cu), (1, .slice Av nv cv), (4, .bool false), (5, vP w1.heap.size 0), (6, vI ((u1 : Nat) : Int)), (8, vI ((u2 : Nat) : Int)), (9, vF r_1), (12, vP w10.heap.size 0)] _
  refine CE.seq (CE.seq (CE.region ?_))
  refine WD (op_move rfl) rfl ?_
  refine WD (op_fieldAddr (off' := 0) rfl Try.runUnderlying33 rfl rfl Try.sizeOf25 rfl) rfl ?_
  refine WD (op_load1 (i := 0) rfl Try.isAgg25 (r33.ext m15).rng rfl rfl) rfl ?_
  refine WD (op_move rfl) rfl ?_
  refine WD (op_indexSl (off' := 0 + i * 2) rfl rfl rfl Try.runUnderlying25 Try.sizeOf60 (by omega) (by omega) (by omega)) rfl ?_
  refine WD (op_fieldAddr (off' := 0 + i * 2) rfl Try.runUnderlying60 rfl rfl Try.sizeOf26 rfl) rfl ?_
  have sz5 := SzLe.mk (lT (lT (lT sz2 m8.size) m9.size) m10.size)
  have r34 := ((((((r20.ext m10).ext m11).mod m12 (nC (lE (lL (lL r1.lt sz5) lR)) nN)).ext m13).ext m14).ext m15)
  refine WD (op_load1 (i := i * 2) rfl Try.isAgg26 r34.rng rfl (olc_get0 h4 h1 (show i < nR1 by omega))) rfl ?_
  refine WD (op_len rfl Try.runUnderlying26) rfl ?_
  refine WD (op_lti rfl rfl) rfl ?_
  refine WL.end (NE.code ?_)
  rcases Bool.eq_false_or_eq_true (decide (((kk : Nat) : Int) < (((zz1.R.getD i RD.d).xs.length : Nat) : Int))) with hb2 | hb2
  ·have hp2 := of_decide_eq_true hb2
   refine CE.cond_t rfl hb2 ?_
   refine CE.skip' (NE.code (CE.seq (CE.block (CE.seq (CE.region ?_)))))
   refine WD (op_loadA (i := 0) (cs := [vS bR'1 0 nR1 cR'1, vS bL'1 0 nR1 cL'1, vS bS'1 0 nS1 cS'1, vI 1, vF kc1, vF kc2, vF 0, vF (zz1.s0), vF (zz1.s1), .bool op1, vF lo1, vF re1, vF sl1]) rfl Try.isAgg33 Try.sizeOf33 (r33.ext m15).rng rfl rfl rfl) rfl ?_
   iterate 2 refine WD (op_move rfl) rfl ?_
   have r35 := ((((((r21.ext m10).ext m11).mod m12 (nC (lE (lL (lL r2.lt sz5) lR)) nN)).ext m13).ext m14).ext m15)
   have r36 := ((((((r22.ext m10).ext m11).mod m12 (nC (lE (lL (lL r3.lt sz5) lR)) nN)).ext m13).ext m14).ext m15)
   refine WL.call (oc_call (vs := [.agg #[vS bR'1 0 nR1 cR'1, vS bL'1 0 nR1 cL'1, vS bS'1 0 nS1 cS'1, vI 1, vF kc1, vF kc2, vF 0, vF (zz1.s0), vF (zz1.s1), .bool op1, vF lo1, vF re1, vF sl1], vI ((i : Nat) : Int), vI ((kk : Nat) : Int)]) (cap := []) rfl rfl rfl Try.call38 (c_sPressZ nR1 nS1 xS1 kc1 kc2 op1 lo1 re1 sl1 zz1 cR'1 bR'1 PR'1 w.heap.size cL'1 bL'1 PL'1 w.heap.size cS'1 bS'1 i kk (by first | with_reducible assumption | exact DPz.mono (by with_reducible assumption) (by omega) | exact zTo_dz (by with_reducible assumption) (by with_reducible assumption) (by with_reducible first | assumption | exact bd_take (by assumption) _) (by omega)) h4 h5 h1 h2 h6 (by first | assumption | omega) (by first | assumption | omega) w15 r34.rng r35.rng r36.rng ((((((((((((((fm1.ext m2).mod m3 (fun j hj => (nC (lE (lL (OF.lt fm1 (lQ (lQ hj h4) h4.symm)) lR)) nN))).ext m4).ext m5).ext m6).ext m7).ext m8).mod m9 (fun j hj => (nC (lE (lL (OF.lt fm1 (lQ (lQ hj h4) h4.symm)) (lT sz2 lR))) nN))).ext m10).ext m11).mod m12 (fun j hj => (nC (lE (lL (OF.lt fm1 (lQ (lQ hj h4) h4.symm)) (lT sz5 lR))) nN))).ext m13).ext m14).ext m15) ((((((((((((((fm2.ext m2).mod m3 (fun j hj => (nC (lE (lL (OF.lt fm2 (lQ (lQ hj h5) h5.symm)) lR)) nN))).ext m4).ext m5).ext m6).ext m7).ext m8).mod m9 (fun j hj => (nC (lE (lL (OF.lt fm2 (lQ (lQ hj h5) h5.symm)) (lT sz2 lR))) nN))).ext m10).ext m11).mod m12 (fun j hj => (nC (lE (lL (OF.lt fm2 (lQ (lQ hj h5) h5.symm)) (lT sz5 lR))) nN))).ext m13).ext m14).ext m15))) rfl rfl (ltb rfl) ?_
   rintro _ w16 ⟨y1, rfl, h28, h29, m16⟩
   refine WD (op_move rfl) rfl ?_
   iterate 2 refine WD (op_extract rfl rfl) rfl ?_
   iterate 2 refine WD (op_assign rfl) rfl ?_
   refine WL.end (NE.code (CE.seq (CE.region ?_)))
   have r37 := ((((r28.ext m13).ext m14).ext m15).ext m16)
   refine WD (op_loadA (i := 0) (cs := [vS bR'3 0 nR1 cR'3, vS bL'3 0 nR1 cL'3, vS bS'3 0 nS1 cS'3, vI 1, vF kc1, vF kc2, vF 0, vF (zz3.s0), vF (zz3.s1), .bool op1, vF lo1, vF re1, vF sl1]) rfl Try.isAgg33 Try.sizeOf33 r37.rng rfl rfl rfl) rfl ?_
   iterate 2 refine WD (op_move rfl) rfl ?_
   have r38 := ((((((r23.ext m11).mod m12 (nC (lE (lL r23.lt lR)) nN)).ext m13).ext m14).ext m15).ext m16)
   have r39 := ((((((r24.ext m11).mod m12 (nC (lE (lL r24.lt lR)) nN)).ext m13).ext m14).ext m15).ext m16)
   have r40 := ((((((r25.ext m11).mod m12 (nC (lE (lL r25.lt lR)) nN)).ext m13).ext m14).ext m15).ext m16)
   refine WL.call (oc_call (vs := [.agg #[vS bR'3 0 nR1 cR'3, vS bL'3 0 nR1 cL'3, vS bS'3 0 nS1 cS'3, vI 1, vF kc1, vF kc2, vF 0, vF (zz3.s0), vF (zz3.s1), .bool op1, vF lo1, vF re1, vF sl1], vI ((i : Nat) : Int), vI ((kk : Nat) : Int)]) (cap := []) rfl rfl rfl Try.call39 (c_iPressZ nR1 nS1 xS1 kc1 kc2 op1 lo1 re1 sl1 zz3 cR'3 bR'3 PR'3 w9.heap.size cL'3 bL'3 PL'3 w9.heap.size cS'3 bS'3 i kk (by first | with_reducible assumption | exact DPz.mono (by with_reducible assumption) (by omega) | exact zTo_dz (by with_reducible assumption) (by with_reducible assumption) (by with_reducible first | assumption | exact bd_take (by assumption) _) (by omega)) h24 h25 h21 h22 h26 (by first | assumption | omega) (by first | assumption | omega) w16 r38.rng r39.rng r40.rng ((((((fm5.ext m11).mod m12 (fun j hj => (nC (lE (lL (OF.lt fm5 (lQ (lQ hj h24) h24.symm)) lR)) nN))).ext m13).ext m14).ext m15).ext m16) ((((((fm6.ext m11).mod m12 (fun j hj => (nC (lE (lL (OF.lt fm6 (lQ (lQ hj h25) h25.symm)) lR)) nN))).ext m13).ext m14).ext m15).ext m16))) rfl rfl (ltb rfl) ?_
   rintro _ w17 ⟨y2, rfl, h30, h31, m17⟩
   refine WD (op_move rfl) rfl ?_
   iterate 2 refine WD (op_extract rfl rfl) rfl ?_
   iterate 2 refine WD (op_assign rfl) rfl ?_
   refine WL.end (NE.code (CE.seq (CE.seq (CE.region ?_))))
   refine WD (op_move rfl) rfl ?_
   refine WD (op_nei rfl rfl) rfl ?_
   refine WD (op_move rfl) rfl ?_
   refine WL.yes rfl rfl rfl (ltb rfl) rfl rfl ?_
   refine WD (op_move rfl) rfl ?_
   refine WL.yes rfl rfl rfl (ltb rfl) rfl rfl ?_
   refine WD (op_nei rfl rfl) rfl ?_
   refine WD (op_pick_f rfl rfl rfl) rfl ?_
   refine WL.end (NE.code ?_)
   refine CE.cond_f rfl rfl ?_
   refine CE.skip' (NE.code (CE.seq (CE.region ?_)))
   iterate 2 refine WD (op_move rfl) rfl ?_
   refine WD (op_eqi rfl rfl) rfl ?_
   refine WD (op_move rfl) rfl ?_
   rcases Bool.eq_false_or_eq_true ((((i : Nat) : Int) == ((u1 : Nat) : Int))) with hb3 | hb3
   ·have hp3 := eq_of_beq hb3
    refine WL.yes rfl rfl rfl (ltb rfl) rfl hb3 ?_
    refine WD (op_move rfl) rfl ?_
    refine WL.yes rfl rfl rfl (ltb rfl) rfl hb3 ?_
    refine WD (op_move rfl) rfl ?_
    refine WL.yes rfl rfl rfl (ltb rfl) rfl hb3 ?_
    refine WD (op_eqi rfl rfl) rfl ?_
    refine WD (op_pick_t rfl hb3 rfl) rfl ?_
    refine WL.end (NE.code ?_)
    rcases Bool.eq_false_or_eq_true ((((kk : Nat) : Int) == ((u2 : Nat) : Int))) with hb4 | hb4
    ·have hp4 := eq_of_beq hb4
     refine CE.cond_t rfl hb4 ?_
     refine CE.seq (CE.region ?_)
     iterate 3 refine WD (op_move rfl) rfl ?_
     refine WL.op (op_farith (e := (fop .add .f32 y1 r_1)) (.inl rfl) rfl rfl rfl rfl rfl) rfl rfl (ltb rfl) ?_
     rintro _ w18 ⟨⟨f1, rfl, hf1, lf1⟩, m18⟩
     refine WD (op_move rfl) rfl ?_
     refine WL.call (oc_call (vs := [vF y1]) (cap := []) rfl rfl rfl Try.call41 (c_SizeOf y1 y1 rfl h29 w18)) rfl rfl (ltb rfl) ?_
     rintro _ _ ⟨rfl, rfl⟩
     refine WL.op (op_farith (e := (fop .add .f32 1065353216 (absF y1))) (.inl rfl) rfl rfl rfl (absF_congr rfl) rfl) rfl rfl (ltb rfl) ?_
     rintro _ w19 ⟨⟨f2, rfl, hf2, lf2⟩, m19⟩
     refine WL.op (op_farith (e := (fop .mul .f32 981668463 (fop .add .f32 1065353216 (absF y1)))) (.inr (.inr (.inl rfl))) rfl rfl rfl hf2 rfl) rfl rfl (ltb rfl) ?_
     rintro _ w20 ⟨⟨f3, rfl, hf3, lf3⟩, m20⟩
     refine WL.call (oc_call (vs := [vF y2, vF f1, vF f3]) (cap := []) rfl rfl rfl Try.call40 (c_f6near y2 y2 f1 f3 rfl w20)) rfl rfl (ltb rfl) ?_
     rintro _ w21 ⟨rfl, m21⟩
     refine WD (op_not rfl) rfl ?_
     refine WL.end (NE.code ?_)
     refine CE.cond_f rfl (bnot_t (near_j (m := u1) (pl := u2) (a := r_1) (i := i) (k := kk) (z := zz1) (zz := zz3) (by with_reducible assumption) (by with_reducible assumption) (by with_reducible assumption) (by with_reducible assumption) (by omega) (by omega) (by omega) (by omega) (by with_reducible assumption) (by with_reducible assumption) (by with_reducible assumption) (by with_reducible assumption))) ?_
     refine CE.skip' (NE.blk (NE.code (CE.region ?_)))
     refine WD (op_move rfl) rfl ?_
     refine WD (op_add (r := ((kk + 1 : Nat) : Int)) rfl rfl (w_i64 (by omega) (by omega))) rfl ?_
     refine WD (op_assign rfl) rfl ?_
     refine WL.end ?_
     exact NE.again (kk + 1) (⟨rfl, rfl, rfl, rfl, rfl, rfl, rfl, rfl, rfl, rfl, trivial⟩) ⟨(by omega), ((((((m15.nt m16).nt m17).nt m18).nt m19).nt m20).nt m21)⟩ (by first | (dsimp only; omega) | omega)
    ·have hp4 := ne_of_beq_false hb4
     refine CE.cond_f rfl hb4 ?_
     refine CE.seq (CE.region ?_)
     iterate 2 refine WD (op_move rfl) rfl ?_
     refine WD (op_fne (c := !(fEq .f32 y2 y1)) rfl rfl rfl rfl rfl) rfl ?_
     refine WL.end (NE.code ?_)
     refine CE.cond_f rfl (bnot_t (same_k (m := u1) (pl := u2) (a := r_1) (i := i) (k := kk) (z := zz1) (zz := zz3) (by with_reducible assumption) (by with_reducible assumption) (by omega) (by omega) (by omega) (by omega) (by omega) (by with_reducible assumption) (by with_reducible assumption))) ?_
     refine CE.skip' (NE.blk (NE.code (CE.region ?_)))
     refine WD (op_move rfl) rfl ?_
     refine WD (op_add (r := ((kk + 1 : Nat) : Int)) rfl rfl (w_i64 (by omega) (by omega))) rfl ?_
     refine WD (op_assign rfl) rfl ?_
     refine WL.end ?_
     exact NE.again (kk + 1) (⟨rfl, rfl, rfl, rfl, rfl, rfl, rfl, rfl, rfl, rfl, trivial⟩) ⟨(by omega), ((m15.nt m16).nt m17)⟩ (by first | (dsimp only; omega) | omega)
   ·have hp3 := ne_of_beq_false hb3
    iterate 3 refine WL.no rfl rfl rfl (ltb rfl) rfl hb3 rfl (ltb rfl) ?_
    refine WD (op_pick_f rfl hb3 rfl) rfl ?_
    refine WL.end (NE.code ?_)
    refine CE.cond_f rfl rfl ?_
    refine CE.seq (CE.region ?_)
    iterate 2 refine WD (op_move rfl) rfl ?_
    refine WD (op_fne (c := !(fEq .f32 y2 y1)) rfl rfl rfl rfl rfl) rfl ?_
    refine WL.end (NE.code ?_)
    refine CE.cond_f rfl (bnot_t (same_k (m := u1) (pl := u2) (a := r_1) (i := i) (k := kk) (z := zz1) (zz := zz3) (by with_reducible assumption) (by with_reducible assumption) (by omega) (by omega) (by omega) (by omega) (by omega) (by with_reducible assumption) (by with_reducible assumption))) ?_
    refine CE.skip' (NE.blk (NE.code (CE.region ?_)))
    refine WD (op_move rfl) rfl ?_
    refine WD (op_add (r := ((kk + 1 : Nat) : Int)) rfl rfl (w_i64 (by omega) (by omega))) rfl ?_
    refine WD (op_assign rfl) rfl ?_
    refine WL.end ?_
    exact NE.again (kk + 1) (⟨rfl, rfl, rfl, rfl, rfl, rfl, rfl, rfl, rfl, rfl, trivial⟩) ⟨(by omega), ((m15.nt m16).nt m17)⟩ (by first | (dsimp only; omega) | omega)
  ·have hp2 := of_decide_eq_false hb2
   refine CE.cond_f rfl hb2 ?_
   refine CE.exit' (XE.exit_then (XE.exit_then (XE.exit_here (NE.blk (NE.code (CE.region ?_))))))
   refine WD (op_move rfl) rfl ?_
   refine WD (op_add (r := ((i + 1 : Nat) : Int)) rfl rfl (w_i64 (by omega) (by omega))) rfl ?_
   refine WD (op_assign rfl) rfl ?_
   refine WL.end ?_
   exact NE.again (i + 1) (⟨rfl, rfl, rfl, rfl, rfl, rfl, rfl, rfl, rfl, trivial⟩) ⟨(by omega), (m14.nt m15)⟩ (by first | (dsimp only; omega) | omega)
 ·have hp1 := of_decide_eq_false hb1
  refine CE.cond_f rfl hb1 ?_
  refine CE.exit' (XE.exit_then (XE.exit_then (XE.exit_here (NE.code (CE.seq (CE.region ?_))))))
  refine WD (op_move rfl) rfl ?_
  have sz6 := SzLe.mk (lT (lT (lT (lT (lT (lT m1.size m2.size) m3.size) m4.size) m5.size) m6.size) m7.size)
  have sz7 := SzLe.mk (lT (lT (lT sz6 m8.size) m9.size) m10.size)
  have r41 := (((Rng.youngS ru (((Rng.youngS ru ((((r9.ext m5).ext m6).ext m7).ext m8) m9 (allge_cons (lT sz6 lR) allge_nil)).ext m10).ext m11) m12 (allge_cons (lT sz7 lR) allge_nil)).ext m13).ext m14)
  refine WL.call (oc_call (vs := [.slice Au nu cu]) (cap := []) rfl rfl rfl Try.call34 (c_P6PlainW nu cu Au bu ou xsu lnu hAu hBu (by omega) w14 r41)) rfl rfl (ltb rfl) ?_
  rintro _ w22 ⟨r_2, rfl, h32, h33, m22⟩
  refine WD (op_move rfl) rfl ?_
  have r42 := ((((Rng.youngS rv (((Rng.youngS rv (((((r7.ext m4).ext m5).ext m6).ext m7).ext m8) m9 (allge_cons (lT sz6 lR) allge_nil)).ext m10).ext m11) m12 (allge_cons (lT sz7 lR) allge_nil)).ext m13).ext m14).ext m22)
  refine WL.call (oc_call (vs := [.slice Av nv cv]) (cap := []) rfl rfl rfl Try.call34 (c_P6PlainW nv cv Av bv ov xsv lnv hAv hBv (by omega) w22 r42)) rfl rfl (ltb rfl) ?_
  rintro _ w23 ⟨r_3, rfl, h34, h35, m23⟩
  refine WD (op_move rfl) rfl ?_
  refine WL.call (oc_call (vs := [vF r_2, vF r_3, vF r_1]) (cap := []) rfl rfl rfl Try.call42 (c_reedAt r_2 r_3 r_1 r_1 rfl w23)) rfl rfl (ltb rfl) ?_
  rintro _ w24 ⟨r43, rfl, h36, h37, m24⟩
  refine WD (op_assign rfl) rfl ?_
  refine WL.end (NE.code (CE.seq (CE.region ?_)))
  refine WD (op_move rfl) rfl ?_
  have r44 := (((r41.ext m22).ext m23).ext m24)
  refine WL.call (oc_call (vs := [.slice Au nu cu, vI 40]) (cap := []) rfl rfl rfl Try.call14 (c_P6PickS nu cu Au bu ou xsu 40 lnu hAu hBu (by omega) (by first | omega | exact ring_lo (by with_reducible assumption) (by omega)) (by first | omega | exact ring_hi (by with_reducible assumption) (by omega)) w24 r44)) rfl rfl (ltb rfl) ?_
  rintro _ w25 ⟨u3, rfl, h38, m25⟩
  refine WD (op_add (r := ((1 + u3 : Nat) : Int)) rfl rfl (w_i64 (by omega) (by omega))) rfl ?_
  refine WD (op_cvt_if rfl Try.runUnderlying2 Try.runUnderlying27) rfl ?_
  refine WL.op (op_farith (e := (fop .quo .f32 (FloatKind.f32.nearest ((1 + u3 : Nat) : Int)) 1090519040)) (.inr (.inr (.inr rfl))) rfl rfl rfl rfl rfl) rfl rfl (ltb rfl) ?_
  rintro _ w26 ⟨⟨f4, rfl, hf4, lf4⟩, m26⟩
  refine WD (op_assign rfl) rfl ?_
  refine WL.end (NE.code (CE.seq (CE.region ?_)))
  refine WD (op_move rfl) rfl ?_
  have r45 := ((((r42.ext m23).ext m24).ext m25).ext m26)
  refine WL.call (oc_call (vs := [.slice Av nv cv, vI 40]) (cap := []) rfl rfl rfl Try.call14 (c_P6PickS nv cv Av bv ov xsv 40 lnv hAv hBv (by omega) (by first | omega | exact ring_lo (by with_reducible assumption) (by omega)) (by first | omega | exact ring_hi (by with_reducible assumption) (by omega)) w26 r45)) rfl rfl (ltb rfl) ?_
  rintro _ w27 ⟨u4, rfl, h39, m27⟩
  refine WD (op_add (r := ((1 + u4 : Nat) : Int)) rfl rfl (w_i64 (by omega) (by omega))) rfl ?_
  refine WD (op_cvt_if rfl Try.runUnderlying2 Try.runUnderlying27) rfl ?_
  refine WL.op (op_farith (e := (fop .quo .f32 (FloatKind.f32.nearest ((1 + u4 : Nat) : Int)) 1090519040)) (.inr (.inr (.inr rfl))) rfl rfl rfl rfl rfl) rfl rfl (ltb rfl) ?_
  rintro _ w28 ⟨⟨f5, rfl, hf5, lf5⟩, m28⟩
  refine WD (op_assign rfl) rfl ?_
  refine WL.end (NE.code (CE.seq (CE.region ?_)))
  iterate 2 refine WD (op_move rfl) rfl ?_
  refine WL.call (oc_call (vs := [vF f4, vF f5]) (cap := []) rfl rfl rfl Try.call43 (c_ScatterA f4 f5 u3 u4 hf4 hf5 (by omega) (by omega) w28)) rfl rfl (ltb rfl) ?_
  rintro _ w29 ⟨r46, rfl, h40, h41, m29⟩
  refine WD (op_move rfl) rfl ?_
  iterate 2 refine WD (op_extract rfl rfl) rfl ?_
  iterate 2 refine WD (op_assign rfl) rfl ?_
  refine WL.end (NE.code (CE.seq (CE.region ?_)))
  iterate 2 refine WD (op_move rfl) rfl ?_
  refine WL.call (oc_call (vs := [vF f5, vF f4]) (cap := []) rfl rfl rfl Try.call43 (c_ScatterA f5 f4 u4 u3 hf5 hf4 (by omega) (by omega) w29)) rfl rfl (ltb rfl) ?_
  rintro _ w30 ⟨r47, rfl, h42, h43, m30⟩
  refine WD (op_move rfl) rfl ?_
  iterate 2 refine WD (op_extract rfl rfl) rfl ?_
  iterate 2 refine WD (op_assign rfl) rfl ?_
  refine WL.end (NE.code (CE.seq (CE.region ?_)))
  refine WD (op_move rfl) rfl ?_
  refine WD (op_fge (c := fGe .f32 (reedF r_2 r_3 r_1) 3212836864) rfl rfl h36 rfl rfl) rfl ?_
  refine WD (op_move rfl) rfl ?_
  refine WL.yes rfl rfl rfl (ltb rfl) rfl (reed_in (by with_reducible assumption) (by with_reducible assumption) (by with_reducible assumption)).1 ?_
  refine WD (op_move rfl) rfl ?_
  refine WL.yes rfl rfl rfl (ltb rfl) rfl (reed_in (by with_reducible assumption) (by with_reducible assumption) (by with_reducible assumption)).1 ?_
  refine WD (op_fle (c := fLe .f32 (reedF r_2 r_3 r_1) 1065353216) rfl rfl h36 rfl rfl) rfl ?_
  refine WD (op_pick_t rfl (reed_in (by with_reducible assumption) (by with_reducible assumption) (by with_reducible assumption)).1 rfl) rfl ?_
  refine WD (op_move rfl) rfl ?_
  refine WL.yes rfl rfl rfl (ltb rfl) rfl (reed_in (by with_reducible assumption) (by with_reducible assumption) (by with_reducible assumption)).2 ?_
  refine WD (op_move rfl) rfl ?_
  refine WL.yes rfl rfl rfl (ltb rfl) rfl (reed_in (by with_reducible assumption) (by with_reducible assumption) (by with_reducible assumption)).2 ?_
  refine WD (op_eqi rfl rfl) rfl ?_
  refine WD (op_pick_t rfl (reed_in (by with_reducible assumption) (by with_reducible assumption) (by with_reducible assumption)).2 rfl) rfl ?_
  refine WD (op_move rfl) rfl ?_
  refine WL.yes rfl rfl rfl (ltb rfl) rfl rfl ?_
  refine WD (op_move rfl) rfl ?_
  refine WL.yes rfl rfl rfl (ltb rfl) rfl rfl ?_
  refine WD (op_eqi rfl rfl) rfl ?_
  refine WD (op_pick_t rfl rfl rfl) rfl ?_
  refine WD (op_move rfl) rfl ?_
  refine WL.yes rfl rfl rfl (ltb rfl) rfl rfl ?_
  refine WD (op_move rfl) rfl ?_
  refine WL.yes rfl rfl rfl (ltb rfl) rfl rfl ?_
  refine WD (op_move rfl) rfl ?_
  refine WL.yes rfl rfl rfl (ltb rfl) rfl rfl ?_
  refine WD (op_negf rfl) rfl ?_
  refine WL.yes rfl rfl rfl (ltb rfl) rfl rfl ?_
  refine WD (op_feq (c := fEq .f32 (scW (arW u3) (arW u4)) (Op.negFloat .f32 (scW (arW u4) (arW u3)))) rfl rfl h40 (negf_congr h42) rfl) rfl ?_
  refine WD (op_pick_t rfl rfl rfl) rfl ?_
  refine WD (op_move rfl) rfl ?_
  refine WL.yes rfl rfl rfl (ltb rfl) rfl (sc_p (p := u3) (q := u4) (by omega) (by omega)).2.1 ?_
  refine WD (op_move rfl) rfl ?_
  refine WL.yes rfl rfl rfl (ltb rfl) rfl (sc_p (p := u3) (q := u4) (by omega) (by omega)).2.1 ?_
  refine WD (op_fgt (c := fGt .f32 (scW (arW u3) (arW u4)) 0) rfl rfl h40 rfl rfl) rfl ?_
  refine WL.yes rfl rfl rfl (ltb rfl) rfl (sc_p (p := u3) (q := u4) (by omega) (by omega)).2.1 ?_
  refine WD (op_move rfl) rfl ?_
  refine WL.yes rfl rfl rfl (ltb rfl) rfl (sc_p (p := u3) (q := u4) (by omega) (by omega)).2.1 ?_
  refine WD (op_move rfl) rfl ?_
  refine WL.yes rfl rfl rfl (ltb rfl) rfl (sc_p (p := u3) (q := u4) (by omega) (by omega)).2.1 ?_
  refine WD (op_fgt (c := fGt .f32 (fop .quo .f32 (FloatKind.f32.nearest ((1 + u3 : Nat) : Int)) 1090519040) (fop .quo .f32 (FloatKind.f32.nearest ((1 + u4 : Nat) : Int)) 1090519040)) rfl rfl hf4 hf5 rfl) rfl ?_
  refine WL.yes rfl rfl rfl (ltb rfl) rfl (sc_p (p := u3) (q := u4) (by omega) (by omega)).2.1 ?_
  refine WD (op_eqb rfl rfl Try.underlying4) rfl ?_
  refine WD (op_pick_t rfl (sc_p (p := u3) (q := u4) (by omega) (by omega)).2.1 rfl) rfl ?_
  refine WD (op_move rfl) rfl ?_
  refine WL.yes rfl rfl rfl (ltb rfl) rfl (sc_p (p := u3) (q := u4) (by omega) (by omega)).2.2.1 ?_
  refine WD (op_move rfl) rfl ?_
  refine WL.yes rfl rfl rfl (ltb rfl) rfl (sc_p (p := u3) (q := u4) (by omega) (by omega)).2.2.1 ?_
  refine WD (op_fgt (c := fGt .f32 (scW (arW u3) (arW u4)) 3212836864) rfl rfl h40 rfl rfl) rfl ?_
  refine WD (op_pick_t rfl (sc_p (p := u3) (q := u4) (by omega) (by omega)).2.2.1 rfl) rfl ?_
  refine WD (op_move rfl) rfl ?_
  refine WL.yes rfl rfl rfl (ltb rfl) rfl (sc_p (p := u3) (q := u4) (by omega) (by omega)).2.2.2.1 ?_
  refine WD (op_move rfl) rfl ?_
  refine WL.yes rfl rfl rfl (ltb rfl) rfl (sc_p (p := u3) (q := u4) (by omega) (by omega)).2.2.2.1 ?_
  refine WD (op_flt (c := fLt .f32 (scW (arW u3) (arW u4)) 1065353216) rfl rfl h40 rfl rfl) rfl ?_
  refine WD (op_pick_t rfl (sc_p (p := u3) (q := u4) (by omega) (by omega)).2.2.2.1 rfl) rfl ?_
  refine WD (op_assign rfl) rfl ?_
  refine WL.end (NE.code (CE.ret' ?_))
  refine XE.leave1 Try.results7 rfl ?_
  refine ⟨?_, ((((((((((((((((((((((((Mod.refl [] w).nt m1).nt m2).then m3 ((aC (.inr (lT m1.size lR)) aN))).nt m4).nt m5).nt m6).nt m7).nt m8).then m9 ((aC (.inr (lT sz6 lR)) aN))).nt m10).nt m11).then m12 ((aC (.inr (lT sz7 lR)) aN))).nt m13).nt m14).nt m22).nt m23).nt m24).nt m25).nt m26).nt m27).nt m28).nt m29).nt m30)⟩
  all_goals first | rfl | exact congrArg Value.bool (sc_p (by omega) (by omega)).2.2.2.2

end Go.Proofs.Ytnahhdnkbbdceaa
