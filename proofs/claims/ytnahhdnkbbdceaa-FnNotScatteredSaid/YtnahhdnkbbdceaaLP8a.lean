/- The law on sections between which nothing is scattered, walked. -/
import Derived.Test.YtnahhdnkbbdceaaN6
import Derived.Test.YtnahhdnkbbdceaaE8
import Derived.Test.YtnahhdnkbbdceaaE14
import Derived.Test.YtnahhdnkbbdceaaE20
set_option linter.unusedVariables false
set_option linter.unusedSimpArgs false
set_option maxRecDepth 100000
set_option maxHeartbeats 8000000
namespace Go.Proofs.Ytnahhdnkbbdceaa

theorem law_nsc_b1 (nu : Nat) (cu : Nat) (Au : Option Addr) (bu : Nat) (ou : Nat) (xsu : List Nat) (nv : Nat) (cv : Nat) (Av : Option Addr) (bv : Nat) (ov : Nat) (xsv : List Nat) (lnu : xsu.length = nu) (hAu : 0 < nu → Au = some ⟨bu, ou, none⟩) (hBu : ∀ i, xsu.getD i 0 < 256) (lnv : xsv.length = nv) (hAv : 0 < nv → Av = some ⟨bv, ov, none⟩) (hBv : ∀ i, xsv.getD i 0 < 256) (hnu : 4096 < nu) (w : World) (ru : Rng w bu ou (bys xsu)) (rv : Rng w bv ov (bys xsv)) : Cl Try.prog 4 #[.slice Au nu cu, .slice Av nv cv] w fun v w' => v = .bool true ∧ Mod [] w w' := by
 refine Cl.of Try.func4 Try.ntmps4 rfl rfl (ρ := [(0, .slice Au nu cu), (1, .slice Av nv cv)]) rfl ?_
 refine CE.seq (CE.region ?_)
 refine WL.det (op_assign rfl) rfl rfl rfl ?_
 refine WL.end (NE.code (CE.seq (CE.seq (CE.region ?_))))
 refine WL.det (op_move rfl) rfl rfl rfl ?_
 refine WL.call (oc_call (vs := [.slice Au nu cu]) (cap := []) rfl rfl rfl Try.call13 (c_f6big nu cu Au w)) rfl rfl (ltb rfl) ?_
 rintro _ _ ⟨rfl, rfl⟩
 refine WL.det (op_move rfl) rfl rfl rfl ?_
 iterate 2 refine WL.no rfl rfl rfl (ltb rfl) rfl (decide_eq_true (by omega)) rfl (ltb rfl) ?_
 refine WL.det (op_pick_t rfl (decide_eq_true (by omega)) rfl) rfl rfl rfl ?_
 refine WL.end (NE.code ?_)
 refine CE.cond_t rfl rfl ?_
 refine CE.seq (CE.region ?_)
 refine WL.det (op_assign rfl) rfl rfl rfl ?_
 refine WL.end (NE.code (CE.ret' (XE.ret_then ?_)))
 refine XE.leave1 Try.results4 rfl ?_
 refine ⟨rfl, (Mod.refl [] w)⟩

theorem law_nsc_b2 (nu : Nat) (cu : Nat) (Au : Option Addr) (bu : Nat) (ou : Nat) (xsu : List Nat) (nv : Nat) (cv : Nat) (Av : Option Addr) (bv : Nat) (ov : Nat) (xsv : List Nat) (lnu : xsu.length = nu) (hAu : 0 < nu → Au = some ⟨bu, ou, none⟩) (hBu : ∀ i, xsu.getD i 0 < 256) (lnv : xsv.length = nv) (hAv : 0 < nv → Av = some ⟨bv, ov, none⟩) (hBv : ∀ i, xsv.getD i 0 < 256) (hnu : nu ≤ 4096) (hnv : 4096 < nv) (w : World) (ru : Rng w bu ou (bys xsu)) (rv : Rng w bv ov (bys xsv)) : Cl Try.prog 4 #[.slice Au nu cu, .slice Av nv cv] w fun v w' => v = .bool true ∧ Mod [] w w' := by
 refine Cl.of Try.func4 Try.ntmps4 rfl rfl (ρ := [(0, .slice Au nu cu), (1, .slice Av nv cv)]) rfl ?_
 refine CE.seq (CE.region ?_)
 refine WL.det (op_assign rfl) rfl rfl rfl ?_
 refine WL.end (NE.code (CE.seq (CE.seq (CE.region ?_))))
 refine WL.det (op_move rfl) rfl rfl rfl ?_
 refine WL.call (oc_call (vs := [.slice Au nu cu]) (cap := []) rfl rfl rfl Try.call13 (c_f6big nu cu Au w)) rfl rfl (ltb rfl) ?_
 rintro _ _ ⟨rfl, rfl⟩
 refine WL.det (op_move rfl) rfl rfl rfl ?_
 refine WL.yes rfl rfl rfl (ltb rfl) rfl (decide_eq_false (by omega)) ?_
 refine WL.det (op_move rfl) rfl rfl rfl ?_
 refine WL.yes rfl rfl rfl (ltb rfl) rfl (decide_eq_false (by omega)) ?_
 refine WL.call (oc_call (vs := [.slice Av nv cv]) (cap := []) rfl rfl rfl Try.call13 (c_f6big nv cv Av w)) rfl rfl (ltb rfl) ?_
 rintro _ _ ⟨rfl, rfl⟩
 refine WL.det (op_pick_f rfl (decide_eq_false (by omega)) rfl) rfl rfl rfl ?_
 refine WL.end (NE.code ?_)
 refine CE.cond_t rfl (decide_eq_true (by omega)) ?_
 refine CE.seq (CE.region ?_)
 refine WL.det (op_assign rfl) rfl rfl rfl ?_
 refine WL.end (NE.code (CE.ret' (XE.ret_then ?_)))
 refine XE.leave1 Try.results4 rfl ?_
 refine ⟨rfl, (Mod.refl [] w)⟩

theorem law_nsc (nu : Nat) (cu : Nat) (Au : Option Addr) (bu : Nat) (ou : Nat) (xsu : List Nat) (nv : Nat) (cv : Nat) (Av : Option Addr) (bv : Nat) (ov : Nat) (xsv : List Nat) (lnu : xsu.length = nu) (hAu : 0 < nu → Au = some ⟨bu, ou, none⟩) (hBu : ∀ i, xsu.getD i 0 < 256) (lnv : xsv.length = nv) (hAv : 0 < nv → Av = some ⟨bv, ov, none⟩) (hBv : ∀ i, xsv.getD i 0 < 256) (hnu : nu ≤ 4096) (hnv : nv ≤ 4096) (w : World) (ru : Rng w bu ou (bys xsu)) (rv : Rng w bv ov (bys xsv)) : Cl Try.prog 4 #[.slice Au nu cu, .slice Av nv cv] w fun v w' => v = .bool true ∧ Mod [] w w' := by
 refine Cl.of Try.func4 Try.ntmps4 rfl rfl (ρ := [(0, .slice Au nu cu), (1, .slice Av nv cv)]) rfl ?_
 refine CE.seq (CE.region ?_)
 refine WL.det (op_assign rfl) rfl rfl rfl ?_
 refine WL.end (NE.code (CE.seq (CE.seq (CE.region ?_))))
 refine WL.det (op_move rfl) rfl rfl rfl ?_
 refine WL.call (oc_call (vs := [.slice Au nu cu]) (cap := []) rfl rfl rfl Try.call13 (c_f6big nu cu Au w)) rfl rfl (ltb rfl) ?_
 rintro _ _ ⟨rfl, rfl⟩
 refine WL.det (op_move rfl) rfl rfl rfl ?_
 refine WL.yes rfl rfl rfl (ltb rfl) rfl (decide_eq_false (by omega)) ?_
 refine WL.det (op_move rfl) rfl rfl rfl ?_
 refine WL.yes rfl rfl rfl (ltb rfl) rfl (decide_eq_false (by omega)) ?_
 refine WL.call (oc_call (vs := [.slice Av nv cv]) (cap := []) rfl rfl rfl Try.call13 (c_f6big nv cv Av w)) rfl rfl (ltb rfl) ?_
 rintro _ _ ⟨rfl, rfl⟩
 refine WL.det (op_pick_f rfl (decide_eq_false (by omega)) rfl) rfl rfl rfl ?_
 refine WL.end (NE.code ?_)
 refine CE.cond_f rfl (decide_eq_false (by omega)) ?_
 refine CE.skip' (NE.code (CE.seq (CE.region ?_)))
 refine WL.det (op_move rfl) rfl rfl rfl ?_
 refine WL.call (oc_call (vs := [.slice Au nu cu, vI 6]) (cap := []) rfl rfl rfl Try.call14 (c_P6Pick nu cu Au bu ou xsu 6 lnu hAu hBu (by omega) (by omega) (by omega) w ru)) rfl rfl (ltb rfl) ?_
 rintro _ w1 ⟨u1, rfl, h1, m1⟩
 refine WL.det (op_add (r := ((1 + u1 : Nat) : Int)) rfl rfl (w_i64 (by omega) (by omega))) rfl rfl rfl ?_
 refine WL.det (op_assign rfl) rfl rfl rfl ?_
 refine WL.end (NE.code (CE.seq (CE.region ?_)))
 refine WL.det (op_move rfl) rfl rfl rfl ?_
 refine WL.call (oc_call (vs := [.slice Av nv cv, vI 6]) (cap := []) rfl rfl rfl Try.call14 (c_P6Pick nv cv Av bv ov xsv 6 lnv hAv hBv (by omega) (by omega) (by omega) w1 (rv.ext m1))) rfl rfl (ltb rfl) ?_
 rintro _ w2 ⟨u2, rfl, h2, m2⟩
 refine WL.det (op_add (r := ((1 + u2 : Nat) : Int)) rfl rfl (w_i64 (by omega) (by omega))) rfl rfl rfl ?_
 refine WL.det (op_assign rfl) rfl rfl rfl ?_
 refine WL.end (NE.code (CE.seq (CE.region ?_)))
 refine WL.det (op_move rfl) rfl rfl rfl ?_
 refine WL.call (oc_call (vs := [.slice Au nu cu, vI 8]) (cap := []) rfl rfl rfl Try.call14 (c_P6Pick nu cu Au bu ou xsu 8 lnu hAu hBu (by omega) (by omega) (by omega) w2 ((ru.ext m1).ext m2))) rfl rfl (ltb rfl) ?_
 rintro _ w3 ⟨u3, rfl, h3, m3⟩
 refine WL.det (op_cvt_if rfl Try.runUnderlying2 Try.runUnderlying27) rfl rfl rfl ?_
 refine WL.op (op_farith (e := (fop .quo .f32 (FloatKind.f32.nearest ((u3 : Nat) : Int)) 1090519040)) (.inr (.inr (.inr rfl))) rfl rfl rfl rfl rfl) rfl rfl (ltb rfl) ?_
 rintro _ w4 ⟨⟨f1, rfl, hf1, lf1⟩, m4⟩
 refine WL.det (op_assign rfl) rfl rfl rfl ?_
 refine WL.end (NE.code (CE.seq (CE.region ?_)))
 refine WL.det (op_move rfl) rfl rfl rfl ?_
 have r1 := ((((rv.ext m1).ext m2).ext m3).ext m4)
 refine WL.call (oc_call (vs := [.slice Av nv cv, vI 17]) (cap := []) rfl rfl rfl Try.call14 (c_P6Pick nv cv Av bv ov xsv 17 lnv hAv hBv (by omega) (by omega) (by omega) w4 r1)) rfl rfl (ltb rfl) ?_
 rintro _ w5 ⟨u4, rfl, h4, m5⟩
 refine WL.det (op_cvt_if rfl Try.runUnderlying2 Try.runUnderlying27) rfl rfl rfl ?_
 refine WL.op (op_farith (e := (fop .quo .f32 (FloatKind.f32.nearest ((u4 : Nat) : Int)) 1098907648)) (.inr (.inr (.inr rfl))) rfl rfl rfl rfl rfl) rfl rfl (ltb rfl) ?_
 rintro _ w6 ⟨⟨f2, rfl, hf2, lf2⟩, m6⟩
 refine WL.det (op_assign rfl) rfl rfl rfl ?_
 refine WL.end (NE.code (CE.seq (CE.region ?_)))
 iterate 2 refine WL.det (op_move rfl) rfl rfl rfl ?_
 refine WL.op (op_buildSl (qs := [(0, vI ((1 + u1 : Nat) : Int)), (1, vI ((1 + u2 : Nat) : Int))]) (cells := #[vI ((1 + u1 : Nat) : Int), vI ((1 + u2 : Nat) : Int)]) rfl Try.runUnderlying36 Try.sizeOf2 Try.zeroValue2 (by decide) (by decide) (by kernel_rfl)) rfl rfl (ltb rfl) ?_
 rintro _ w7 ⟨rfl, r2, m7, z1⟩
 refine WL.op (op_buildSl (qs := [(0, vF 0)]) (cells := #[vF 0]) rfl Try.runUnderlying26 Try.sizeOf27 Try.zeroValue27 (by decide) (by decide) (by kernel_rfl)) rfl rfl (ltb rfl) ?_
 rintro _ w8 ⟨rfl, r3, m8, z2⟩
 refine WL.det (op_move rfl) rfl rfl rfl ?_
 refine WL.det (op_rem (r := (((1 + u1) % 2 : Nat) : Int)) rfl rfl (by omega) rfl) rfl rfl rfl ?_
 refine WL.det (op_eqi rfl rfl) rfl rfl rfl ?_
 iterate 2 refine WL.det (op_move rfl) rfl rfl rfl ?_
 refine WL.call (oc_call (vs := [vS w6.heap.size 0 2 2, vS w7.heap.size 0 1 1, .bool ((((1 + u1) % 2 : Nat) : Int) == (0 : Int)), vF f1, vF f2]) (cap := []) rfl rfl rfl Try.call23 (c_iNewX2 (1 + u1) (1 + u2) 2 w6.heap.size 1 w7.heap.size ((((1 + u1) % 2 : Nat) : Int) == (0 : Int)) f1 f2 (by omega) (by omega) (by omega) (by omega) lf1 lf2 (by exact ⟨_, by assumption, by assumption⟩) (by exact ⟨_, by assumption, by assumption⟩) w8 (r2.ext m8).rng r3.rng)) rfl rfl (ltb rfl) ?_
 rintro _ w9 ⟨bR'1, cR'1, PR'1, bL'1, cL'1, PL'1, bS'1, cS'1, r_1, zz1, rfl, h5, h6, h7, h8, h9, h10, h11, r4, r5, r6, ge1, ge2, ge3, ne1, ne2, ne3, fm1, fn1, fn2, fn3, fn4, fm2, fn5, fn6, fn7, m9⟩
 refine WL.det (op_move rfl) rfl rfl rfl ?_
 iterate 2 refine WL.det (op_extract rfl rfl) rfl rfl rfl ?_
 refine WL.op (op_alloc (cs := [.slice none 0 0, .slice none 0 0, .slice none 0 0, vI 0, vF 0, vF 0, vF 0, vF 0, vF 0, .bool false, vF 0, vF 0, vF 0]) Try.zeroValue33 rfl) rfl rfl (ltb rfl) ?_
 rintro _ w10 ⟨rfl, r7, m10, z3⟩
 refine WL.op0 (op_store (i := 0) (cs := [vS bR'1 0 2 cR'1, vS bL'1 0 2 cL'1, vS bS'1 0 1 cS'1, vI 1, vF r_1, vF f1, vF 0, vF 0, vF 0, .bool ((((1 + u1) % 2 : Nat) : Int) == (0 : Int)), vF f2, vF 1061158912, vF 3200253952]) rfl rfl rfl Try.sizeOf33 rfl r7 rfl (lB rfl) rfl) rfl rfl ?_
 rintro _ w11 ⟨r8, m11, z4⟩
 have r9 : Row w11 w9.heap.size 0 [vS bR'1 0 2 cR'1, vS bL'1 0 2 cL'1, vS bS'1 0 1 cS'1, vI 1, vF r_1, vF f1, vF 0, vF 0, vF 0, .bool ((((1 + u1) % 2 : Nat) : Int) == (0 : Int)), vF f2, vF 1061158912, vF 3200253952] := Row.congr r8 rfl
 refine WL.det (op_assign rfl) rfl rfl rfl ?_
 refine WL.end (NE.code (CE.seq (CE.region ?_)))
 iterate 2 refine WL.det (op_move rfl) rfl rfl rfl ?_
 refine WL.det (op_add (r := ((1 + u1 + (1 + u2) : Nat) : Int)) rfl rfl (w_i64 (by omega) (by omega))) rfl rfl rfl ?_
 refine WL.op (op_buildSl (qs := [(0, vI ((1 + u1 + (1 + u2) : Nat) : Int))]) (cells := #[vI ((1 + u1 + (1 + u2) : Nat) : Int)]) rfl Try.runUnderlying36 Try.sizeOf2 Try.zeroValue2 (by decide) (by decide) (by kernel_rfl)) rfl rfl (ltb rfl) ?_
 rintro _ w12 ⟨rfl, r10, m12, z5⟩
 refine WL.op (op_emptySl rfl Try.runUnderlying26 Try.sizeOf27) rfl rfl (ltb rfl) ?_
 rintro _ w13 ⟨rfl, r11, m13, z6⟩
 refine WL.det (op_move rfl) rfl rfl rfl ?_
 refine WL.det (op_rem (r := (((1 + u1) % 2 : Nat) : Int)) rfl rfl (by omega) rfl) rfl rfl rfl ?_
 refine WL.det (op_eqi rfl rfl) rfl rfl rfl ?_
 iterate 2 refine WL.det (op_move rfl) rfl rfl rfl ?_
 refine WL.call (oc_call (vs := [vS w11.heap.size 0 1 1, vS w12.heap.size 0 0 0, .bool ((((1 + u1) % 2 : Nat) : Int) == (0 : Int)), vF f1, vF f2]) (cap := []) rfl rfl rfl Try.call23 (c_iNewX1 (1 + u1 + (1 + u2)) 1 w11.heap.size 0 w12.heap.size ((((1 + u1) % 2 : Nat) : Int) == (0 : Int)) f1 f2 (by omega) (by omega) lf1 lf2 (by exact ⟨_, by assumption, by assumption⟩) (by exact ⟨_, by assumption, by assumption⟩) w13 (r10.ext m13).rng r11.rng)) rfl rfl (ltb rfl) ?_
 rintro _ w14 ⟨bR'2, cR'2, PR'2, bL'2, cL'2, PL'2, bS'2, cS'2, r_2, zz2, rfl, h12, h13, h14, h15, h16, h17, h18, r12, r13, r14, ge4, ge5, ge6, ne4, ne5, ne6, fm3, fn8, fn9, fn10, fn11, fm4, fn12, fn13, fn14, m14⟩
 refine WL.det (op_move rfl) rfl rfl rfl ?_
 iterate 2 refine WL.det (op_extract rfl rfl) rfl rfl rfl ?_
 refine WL.op (op_alloc (cs := [.slice none 0 0, .slice none 0 0, .slice none 0 0, vI 0, vF 0, vF 0, vF 0, vF 0, vF 0, .bool false, vF 0, vF 0, vF 0]) Try.zeroValue33 rfl) rfl rfl (ltb rfl) ?_
 rintro _ w15 ⟨rfl, r15, m15, z7⟩
 refine WL.op0 (op_store (i := 0) (cs := [vS bR'2 0 1 cR'2, vS bL'2 0 1 cL'2, vS bS'2 0 0 cS'2, vI 1, vF r_2, vF f1, vF 0, vF 0, vF 0, .bool ((((1 + u1) % 2 : Nat) : Int) == (0 : Int)), vF f2, vF 1061158912, vF 3200253952]) rfl rfl rfl Try.sizeOf33 rfl r15 rfl (lB rfl) rfl) rfl rfl ?_
 rintro _ w16 ⟨r16, m16, z8⟩
 have r17 : Row w16 w14.heap.size 0 [vS bR'2 0 1 cR'2, vS bL'2 0 1 cL'2, vS bS'2 0 0 cS'2, vI 1, vF r_2, vF f1, vF 0, vF 0, vF 0, .bool ((((1 + u1) % 2 : Nat) : Int) == (0 : Int)), vF f2, vF 1061158912, vF 3200253952] := Row.congr r16 rfl
 refine WL.det (op_assign rfl) rfl rfl rfl ?_
 refine WL.end (NE.code (CE.seq (CE.region ?_)))
 refine WL.det (op_move rfl) rfl rfl rfl ?_
 have sz1 := (lT (lT (lT (lT (lT (lT (lT (lT m1.size m2.size) m3.size) m4.size) m5.size) m6.size) m7.size) m8.size) m9.size)
 have sz2 := (lT (lT (lT (lT (lT sz1 m10.size) m11.size) m12.size) m13.size) m14.size)
 have r18 := (Rng.youngS rv (((((Rng.youngS rv ((((((r1.ext m5).ext m6).ext m7).ext m8).ext m9).ext m10) m11 (allge_cons (lT sz1 lR) allge_nil)).ext m12).ext m13).ext m14).ext m15) m16 (allge_cons (lT sz2 lR) allge_nil))
 refine WL.call (oc_call (vs := [.slice Av nv cv, vI 40]) (cap := []) rfl rfl rfl Try.call18 (c_P6Plains40 nv cv Av bv ov xsv lnv hAv hBv (by omega) w16 r18)) rfl rfl (ltb rfl) ?_
 rintro _ w17 ⟨Lq1, b'1, c'1, A'1, rfl, h19, h20, h21, h22, r19, ge7, m17⟩
 refine WL.det (op_assign rfl) rfl rfl rfl ?_
 refine WL.end (NE.code (CE.seq (CE.region ?_)))
 have sz3 := (lT (lT (lT m11.size m12.size) m13.size) m14.size)
 have r20 := ((((((r9.ext m12).ext m13).ext m14).ext m15).mod m16 (nC (lE (lL (lL r7.lt sz3) lR)) nN)).ext m17)
 refine WL.det (op_loadA (i := 0) (cs := [vS bR'1 0 2 cR'1, vS bL'1 0 2 cL'1, vS bS'1 0 1 cS'1, vI 1, vF r_1, vF f1, vF 0, vF 0, vF 0, .bool ((((1 + u1) % 2 : Nat) : Int) == (0 : Int)), vF f2, vF 1061158912, vF 3200253952]) rfl Try.isAgg33 Try.sizeOf33 r20.rng rfl rfl rfl) rfl rfl rfl ?_
 refine WL.det (op_move rfl) rfl rfl rfl ?_
 have sz4 := (lT (lT (lT (lT m10.size m11.size) m12.size) m13.size) m14.size)
 have r21 := ((((((((r4.ext m10).mod m11 (nC (lE (lL r4.lt lR)) nN)).ext m12).ext m13).ext m14).ext m15).mod m16 (nC (lE (lL (lL r4.lt sz4) lR)) nN)).ext m17)
 have r22 := ((((((((r5.ext m10).mod m11 (nC (lE (lL r5.lt lR)) nN)).ext m12).ext m13).ext m14).ext m15).mod m16 (nC (lE (lL (lL r5.lt sz4) lR)) nN)).ext m17)
 have r23 := ((((((((r6.ext m10).mod m11 (nC (lE (lL r6.lt lR)) nN)).ext m12).ext m13).ext m14).ext m15).mod m16 (nC (lE (lL (lL r6.lt sz4) lR)) nN)).ext m17)
 refine WL.call (oc_call (vs := [.agg #[vS bR'1 0 2 cR'1, vS bL'1 0 2 cL'1, vS bS'1 0 1 cS'1, vI 1, vF r_1, vF f1, vF 0, vF 0, vF 0, .bool ((((1 + u1) % 2 : Nat) : Int) == (0 : Int)), vF f2, vF 1061158912, vF 3200253952], .slice A'1 40 c'1]) (cap := []) rfl rfl rfl Try.call21 (c_iPlayX2 zz1 r_1 f1 ((((1 + u1) % 2 : Nat) : Int) == (0 : Int)) f2 cR'1 bR'1 PR'1 w8.heap.size cL'1 bL'1 PL'1 w8.heap.size cS'1 bS'1 [0] c'1 A'1 b'1 0 Lq1 (by assumption) (by assumption) h10 h11 h5 h6 (by rfl) rfl h19 h21 (by assumption) w17 r21.rng r22.rng r23.rng r19.rng ((((((((fm1.ext m10).mod m11 (fun j hj => (nC (lE (lL (OF.lt fm1 (Nat.lt_of_lt_of_eq (Nat.lt_of_lt_of_eq hj h10) h10.symm)) lR)) nN))).ext m12).ext m13).ext m14).ext m15).mod m16 (fun j hj => (nC (lE (lL (OF.lt fm1 (Nat.lt_of_lt_of_eq (Nat.lt_of_lt_of_eq hj h10) h10.symm)) (lT sz4 lR))) nN))).ext m17) ((((((((fm2.ext m10).mod m11 (fun j hj => (nC (lE (lL (OF.lt fm2 (Nat.lt_of_lt_of_eq (Nat.lt_of_lt_of_eq hj h11) h11.symm)) lR)) nN))).ext m12).ext m13).ext m14).ext m15).mod m16 (fun j hj => (nC (lE (lL (OF.lt fm2 (Nat.lt_of_lt_of_eq (Nat.lt_of_lt_of_eq hj h11) h11.symm)) (lT sz4 lR))) nN))).ext m17))) rfl rfl (ltb rfl) ?_
 rintro _ w18 ⟨bR'3, cR'3, bL'3, cL'3, bS'3, cS'3, zz3, e'1, c3'1, A'2, ys1, rfl, h23, h24, h25, h26, r24, ge8, m18⟩
 refine WL.det (op_move rfl) rfl rfl rfl ?_
 iterate 3 refine WL.det (op_extract rfl rfl) rfl rfl rfl ?_
 refine WL.op (op_alloc (cs := [.slice none 0 0, .slice none 0 0, .slice none 0 0, vI 0, vF 0, vF 0, vF 0, vF 0, vF 0, .bool false, vF 0, vF 0, vF 0]) Try.zeroValue33 rfl) rfl rfl (ltb rfl) ?_
 rintro _ w19 ⟨rfl, r25, m19, z9⟩
 refine WL.op0 (op_store (i := 0) (cs := [vS bR'3 0 2 cR'3, vS bL'3 0 2 cL'3, vS bS'3 0 1 cS'3, vI 1, vF r_1, vF f1, vF 0, vF zz3.s0, vF zz3.s1, .bool ((((1 + u1) % 2 : Nat) : Int) == (0 : Int)), vF f2, vF 1061158912, vF 3200253952]) rfl rfl rfl Try.sizeOf33 rfl r25 rfl (lB rfl) rfl) rfl rfl ?_
 rintro _ w20 ⟨r26, m20, z10⟩
 have r27 : Row w20 w18.heap.size 0 [vS bR'3 0 2 cR'3, vS bL'3 0 2 cL'3, vS bS'3 0 1 cS'3, vI 1, vF r_1, vF f1, vF 0, vF zz3.s0, vF zz3.s1, .bool ((((1 + u1) % 2 : Nat) : Int) == (0 : Int)), vF f2, vF 1061158912, vF 3200253952] := Row.congr r26 rfl
 iterate 2 refine WL.det (op_assign rfl) rfl rfl rfl ?_
 refine WL.end (NE.code (CE.seq (CE.region ?_)))
 have sz5 := (lT (lT m16.size m17.size) m18.size)
 have r28 := ((((r17.ext m17).ext m18).ext m19).mod m20 (nC (lE (lL (lL r15.lt sz5) lR)) nN))
 refine WL.det (op_loadA (i := 0) (cs := [vS bR'2 0 1 cR'2, vS bL'2 0 1 cL'2, vS bS'2 0 0 cS'2, vI 1, vF r_2, vF f1, vF 0, vF 0, vF 0, .bool ((((1 + u1) % 2 : Nat) : Int) == (0 : Int)), vF f2, vF 1061158912, vF 3200253952]) rfl Try.isAgg33 Try.sizeOf33 r28.rng rfl rfl rfl) rfl rfl rfl ?_
 refine WL.det (op_move rfl) rfl rfl rfl ?_
 have sz6 := (lT (lT (lT m15.size m16.size) m17.size) m18.size)
 have r29 := ((((((r12.ext m15).mod m16 (nC (lE (lL r12.lt lR)) nN)).ext m17).ext m18).ext m19).mod m20 (nC (lE (lL (lL r12.lt sz6) lR)) nN))
 have r30 := ((((((r13.ext m15).mod m16 (nC (lE (lL r13.lt lR)) nN)).ext m17).ext m18).ext m19).mod m20 (nC (lE (lL (lL r13.lt sz6) lR)) nN))
 have r31 := ((((((r14.ext m15).mod m16 (nC (lE (lL r14.lt lR)) nN)).ext m17).ext m18).ext m19).mod m20 (nC (lE (lL (lL r14.lt sz6) lR)) nN))
 have r32 := (((r19.ext m18).ext m19).mod m20 (nC (lE (lL (lL r19.lt m18.size) lR)) nN))
 refine WL.call (oc_call (vs := [.agg #[vS bR'2 0 1 cR'2, vS bL'2 0 1 cL'2, vS bS'2 0 0 cS'2, vI 1, vF r_2, vF f1, vF 0, vF 0, vF 0, .bool ((((1 + u1) % 2 : Nat) : Int) == (0 : Int)), vF f2, vF 1061158912, vF 3200253952], .slice A'1 40 c'1]) (cap := []) rfl rfl rfl Try.call21 (c_iPlayX1 zz2 r_2 f1 ((((1 + u1) % 2 : Nat) : Int) == (0 : Int)) f2 cR'2 bR'2 PR'2 w13.heap.size cL'2 bL'2 PL'2 w13.heap.size cS'2 bS'2 [] c'1 A'1 b'1 0 Lq1 (by assumption) (by assumption) h17 h18 h12 h13 (by rfl) rfl h19 h21 (by assumption) w20 r29.rng r30.rng r31.rng r32.rng ((((((fm3.ext m15).mod m16 (fun j hj => (nC (lE (lL (OF.lt fm3 (Nat.lt_of_lt_of_eq (Nat.lt_of_lt_of_eq hj h17) h17.symm)) lR)) nN))).ext m17).ext m18).ext m19).mod m20 (fun j hj => (nC (lE (lL (OF.lt fm3 (Nat.lt_of_lt_of_eq (Nat.lt_of_lt_of_eq hj h17) h17.symm)) (lT sz6 lR))) nN))) ((((((fm4.ext m15).mod m16 (fun j hj => (nC (lE (lL (OF.lt fm4 (Nat.lt_of_lt_of_eq (Nat.lt_of_lt_of_eq hj h18) h18.symm)) lR)) nN))).ext m17).ext m18).ext m19).mod m20 (fun j hj => (nC (lE (lL (OF.lt fm4 (Nat.lt_of_lt_of_eq (Nat.lt_of_lt_of_eq hj h18) h18.symm)) (lT sz6 lR))) nN))))) rfl rfl (ltb rfl) ?_
 rintro _ w21 ⟨bR'4, cR'4, bL'4, cL'4, bS'4, cS'4, zz4, e'2, c3'2, A'3, ys2, rfl, h27, h28, h29, h30, r33, ge9, m21⟩
 refine WL.det (op_move rfl) rfl rfl rfl ?_
 iterate 3 refine WL.det (op_extract rfl rfl) rfl rfl rfl ?_
 refine WL.op (op_alloc (cs := [.slice none 0 0, .slice none 0 0, .slice none 0 0, vI 0, vF 0, vF 0, vF 0, vF 0, vF 0, .bool false, vF 0, vF 0, vF 0]) Try.zeroValue33 rfl) rfl rfl (ltb rfl) ?_
 rintro _ w22 ⟨rfl, r34, m22, z11⟩
 refine WL.op0 (op_store (i := 0) (cs := [vS bR'4 0 1 cR'4, vS bL'4 0 1 cL'4, vS bS'4 0 0 cS'4, vI 1, vF r_2, vF f1, vF 0, vF zz4.s0, vF zz4.s1, .bool ((((1 + u1) % 2 : Nat) : Int) == (0 : Int)), vF f2, vF 1061158912, vF 3200253952]) rfl rfl rfl Try.sizeOf33 rfl r34 rfl (lB rfl) rfl) rfl rfl ?_
 rintro _ w23 ⟨r35, m23, z12⟩
 have r36 : Row w23 w21.heap.size 0 [vS bR'4 0 1 cR'4, vS bL'4 0 1 cL'4, vS bS'4 0 0 cS'4, vI 1, vF r_2, vF f1, vF 0, vF zz4.s0, vF zz4.s1, .bool ((((1 + u1) % 2 : Nat) : Int) == (0 : Int)), vF f2, vF 1061158912, vF 3200253952] := Row.congr r35 rfl
 iterate 2 refine WL.det (op_assign rfl) rfl rfl rfl ?_
 refine WL.end (NE.code (CE.seq (CE.region ?_)))
 have sz7 := (lT (lT (lT sz5 m19.size) m20.size) m21.size)
 have r37 := (((r28.ext m21).ext m22).mod m23 (nC (lE (lL (lL r15.lt sz7) lR)) nN))
 refine WL.det (op_loadA (i := 0) (cs := [vS bR'2 0 1 cR'2, vS bL'2 0 1 cL'2, vS bS'2 0 0 cS'2, vI 1, vF r_2, vF f1, vF 0, vF 0, vF 0, .bool ((((1 + u1) % 2 : Nat) : Int) == (0 : Int)), vF f2, vF 1061158912, vF 3200253952]) rfl Try.isAgg33 Try.sizeOf33 r37.rng rfl rfl rfl) rfl rfl rfl ?_
 refine WL.det (op_move rfl) rfl rfl rfl ?_
 have sz8 := (lT (lT (lT sz6 m19.size) m20.size) m21.size)
 have r38 := (((r29.ext m21).ext m22).mod m23 (nC (lE (lL (lL r12.lt sz8) lR)) nN))
 have r39 := (((r30.ext m21).ext m22).mod m23 (nC (lE (lL (lL r13.lt sz8) lR)) nN))
 have r40 := (((r31.ext m21).ext m22).mod m23 (nC (lE (lL (lL r14.lt sz8) lR)) nN))
 have sz9 := (lT (lT (lT m18.size m19.size) m20.size) m21.size)
 have r41 := (((r32.ext m21).ext m22).mod m23 (nC (lE (lL (lL r19.lt sz9) lR)) nN))
 refine WL.call (oc_call (vs := [.agg #[vS bR'2 0 1 cR'2, vS bL'2 0 1 cL'2, vS bS'2 0 0 cS'2, vI 1, vF r_2, vF f1, vF 0, vF 0, vF 0, .bool ((((1 + u1) % 2 : Nat) : Int) == (0 : Int)), vF f2, vF 1061158912, vF 3200253952], .slice A'1 40 c'1]) (cap := []) rfl rfl rfl Try.call17 (c_sPlayX1 zz2 r_2 f1 ((((1 + u1) % 2 : Nat) : Int) == (0 : Int)) f2 cR'2 bR'2 PR'2 w13.heap.size cL'2 bL'2 PL'2 w13.heap.size cS'2 bS'2 [] c'1 A'1 b'1 0 Lq1 (by assumption) (by assumption) h17 h18 h12 h13 (by rfl) rfl h19 h21 (by assumption) w23 r38.rng r39.rng r40.rng r41.rng (((((((((fm3.ext m15).mod m16 (fun j hj => (nC (lE (lL (OF.lt fm3 (Nat.lt_of_lt_of_eq (Nat.lt_of_lt_of_eq hj h17) h17.symm)) lR)) nN))).ext m17).ext m18).ext m19).mod m20 (fun j hj => (nC (lE (lL (OF.lt fm3 (Nat.lt_of_lt_of_eq (Nat.lt_of_lt_of_eq hj h17) h17.symm)) (lT sz6 lR))) nN))).ext m21).ext m22).mod m23 (fun j hj => (nC (lE (lL (OF.lt fm3 (Nat.lt_of_lt_of_eq (Nat.lt_of_lt_of_eq hj h17) h17.symm)) (lT sz8 lR))) nN))) (((((((((fm4.ext m15).mod m16 (fun j hj => (nC (lE (lL (OF.lt fm4 (Nat.lt_of_lt_of_eq (Nat.lt_of_lt_of_eq hj h18) h18.symm)) lR)) nN))).ext m17).ext m18).ext m19).mod m20 (fun j hj => (nC (lE (lL (OF.lt fm4 (Nat.lt_of_lt_of_eq (Nat.lt_of_lt_of_eq hj h18) h18.symm)) (lT sz6 lR))) nN))).ext m21).ext m22).mod m23 (fun j hj => (nC (lE (lL (OF.lt fm4 (Nat.lt_of_lt_of_eq (Nat.lt_of_lt_of_eq hj h18) h18.symm)) (lT sz8 lR))) nN))))) rfl rfl (ltb rfl) ?_
 rintro _ w24 ⟨bR'5, cR'5, bL'5, cL'5, bS'5, cS'5, zz5, e'3, c3'3, A'4, ys3, rfl, h31, h32, h33, h34, r42, ge10, m24⟩
 refine WL.det (op_move rfl) rfl rfl rfl ?_
 iterate 3 refine WL.det (op_extract rfl rfl) rfl rfl rfl ?_
 refine WL.op (op_alloc (cs := [.slice none 0 0, .slice none 0 0, .slice none 0 0, vI 0, vF 0, vF 0, vF 0, vF 0, vF 0, .bool false, vF 0, vF 0, vF 0]) Try.zeroValue33 rfl) rfl rfl (ltb rfl) ?_
 rintro _ w25 ⟨rfl, r43, m25, z13⟩
 refine WL.op0 (op_store (i := 0) (cs := [vS bR'5 0 1 cR'5, vS bL'5 0 1 cL'5, vS bS'5 0 0 cS'5, vI 1, vF r_2, vF f1, vF 0, vF zz5.s0, vF zz5.s1, .bool ((((1 + u1) % 2 : Nat) : Int) == (0 : Int)), vF f2, vF 1061158912, vF 3200253952]) rfl rfl rfl Try.sizeOf33 rfl r43 rfl (lB rfl) rfl) rfl rfl ?_
 rintro _ w26 ⟨r44, m26, z14⟩
 have r45 : Row w26 w24.heap.size 0 [vS bR'5 0 1 cR'5, vS bL'5 0 1 cL'5, vS bS'5 0 0 cS'5, vI 1, vF r_2, vF f1, vF 0, vF zz5.s0, vF zz5.s1, .bool ((((1 + u1) % 2 : Nat) : Int) == (0 : Int)), vF f2, vF 1061158912, vF 3200253952] := Row.congr r44 rfl
 iterate 2 refine WL.det (op_assign rfl) rfl rfl rfl ?_
 refine WL.end (NE.code (CE.seq (CE.region ?_)))
 refine WL.det (op_move rfl) rfl rfl rfl ?_
 refine WL.det (op_eqi rfl rfl) rfl rfl rfl ?_
 refine WL.det (op_move rfl) rfl rfl rfl ?_
 refine WL.yes rfl rfl rfl (ltb rfl) rfl rfl ?_
 refine WL.det (op_move rfl) rfl rfl rfl ?_
 refine WL.yes rfl rfl rfl (ltb rfl) rfl rfl ?_
 refine WL.det (op_eqi rfl rfl) rfl rfl rfl ?_
 refine WL.det (op_pick_t rfl rfl rfl) rfl rfl rfl ?_
 refine WL.det (op_move rfl) rfl rfl rfl ?_
 refine WL.yes rfl rfl rfl (ltb rfl) rfl rfl ?_
 refine WL.det (op_move rfl) rfl rfl rfl ?_
 refine WL.yes rfl rfl rfl (ltb rfl) rfl rfl ?_
 refine WL.det (op_eqi rfl rfl) rfl rfl rfl ?_
 refine WL.det (op_pick_t rfl rfl rfl) rfl rfl rfl ?_
 refine WL.det (op_move rfl) rfl rfl rfl ?_
 refine WL.yes rfl rfl rfl (ltb rfl) rfl rfl ?_
 refine WL.det (op_move rfl) rfl rfl rfl ?_
 refine WL.yes rfl rfl rfl (ltb rfl) rfl rfl ?_
 refine WL.det (op_eqi rfl rfl) rfl rfl rfl ?_
 refine WL.det (op_pick_t rfl rfl rfl) rfl rfl rfl ?_
 refine WL.det (op_move rfl) rfl rfl rfl ?_
 refine WL.yes rfl rfl rfl (ltb rfl) rfl rfl ?_
 refine WL.det (op_move rfl) rfl rfl rfl ?_
 refine WL.yes rfl rfl rfl (ltb rfl) rfl rfl ?_
 refine WL.det (op_eqi rfl rfl) rfl rfl rfl ?_
 refine WL.det (op_pick_t rfl rfl rfl) rfl rfl rfl ?_
 refine WL.det (op_move rfl) rfl rfl rfl ?_
 refine WL.yes rfl rfl rfl (ltb rfl) rfl rfl ?_
 refine WL.det (op_move rfl) rfl rfl rfl ?_
 refine WL.yes rfl rfl rfl (ltb rfl) rfl rfl ?_
 refine WL.det (op_move rfl) rfl rfl rfl ?_
 have sz10 := (lT (lT m22.size m23.size) m24.size)
 have r46 := (((((r33.ext m22).mod m23 (nC (lE (lL r33.lt lR)) nN)).ext m24).ext m25).mod m26 (nC (lE (lL (lL r33.lt sz10) lR)) nN))
 refine WL.yes rfl rfl rfl (ltb rfl) rfl rfl ?_
 refine WL.call (oc_call (vs := [.slice A'3 40 c3'2, .slice A'4 40 c3'3]) (cap := []) rfl rfl rfl Try.call24 (c_SameRealsX 40 c3'2 A'3 e'2 ys2 c3'3 A'4 e'3 ys3 h27 h31 h28 h32 (by first | with_reducible exact Cn.refl _ | assumption | exact Cn.eq2 (by assumption) (by assumption) | exact cn_two (by assumption) (by assumption) (by assumption) (by assumption) (by assumption) (by assumption) (by assumption) (by omega) (by omega)) (by omega) w26 r46.rng ((r42.ext m25).mod m26 (nC (lE (lL r42.lt lR)) nN)).rng)) rfl rfl (ltb rfl) ?_
 rintro _ w27 ⟨rfl, m27⟩
 refine WL.det (op_pick_t rfl rfl rfl) rfl rfl rfl ?_
 refine WL.det (op_move rfl) rfl rfl rfl ?_
 refine WL.yes rfl rfl rfl (ltb rfl) rfl rfl ?_
 refine WL.det (op_move rfl) rfl rfl rfl ?_
 refine WL.yes rfl rfl rfl (ltb rfl) rfl rfl ?_
 refine WL.det (op_move rfl) rfl rfl rfl ?_
 have sz11 := (lT (lT m19.size m20.size) m21.size)
 have sz12 := (lT (lT (lT sz11 m22.size) m23.size) m24.size)
 have r47 := (((((((((r24.ext m19).mod m20 (nC (lE (lL r24.lt lR)) nN)).ext m21).ext m22).mod m23 (nC (lE (lL (lL r24.lt sz11) lR)) nN)).ext m24).ext m25).mod m26 (nC (lE (lL (lL r24.lt sz12) lR)) nN)).ext m27)
 have r48 := (((r42.ext m25).mod m26 (nC (lE (lL r42.lt lR)) nN)).ext m27)
 refine WL.yes rfl rfl rfl (ltb rfl) rfl rfl ?_
 refine WL.call (oc_call (vs := [.slice A'2 40 c3'1, .slice A'4 40 c3'3]) (cap := []) rfl rfl rfl Try.call24 (c_SameRealsX 40 c3'1 A'2 e'1 ys1 c3'3 A'4 e'3 ys3 h23 h31 h24 h32 (by first | with_reducible exact Cn.refl _ | assumption | exact Cn.eq2 (by assumption) (by assumption) | exact cn_two (by assumption) (by assumption) (by assumption) (by assumption) (by assumption) (by assumption) (by assumption) (by omega) (by omega)) (by omega) w27 r47.rng r48.rng)) rfl rfl (ltb rfl) ?_
 rintro _ w28 ⟨rfl, m28⟩
 refine WL.det (op_pick_t rfl rfl rfl) rfl rfl rfl ?_
 refine WL.det (op_assign rfl) rfl rfl rfl ?_
 refine WL.end (NE.code (CE.ret' ?_))
 refine XE.leave1 Try.results4 rfl ?_
 have sz13 := (lT (lT (lT (lT sz2 m15.size) m16.size) m17.size) m18.size)
 have sz14 := (lT (lT (lT sz13 m19.size) m20.size) m21.size)
 have sz15 := (lT (lT (lT sz14 m22.size) m23.size) m24.size)
 refine ⟨rfl, (((((((((((((((((((((((((((((Mod.refl [] w).nt m1).nt m2).nt m3).nt m4).nt m5).nt m6).nt m7).nt m8).nt m9).nt m10).then m11 ((aC (.inr (lT sz1 lR)) aN))).nt m12).nt m13).nt m14).nt m15).then m16 ((aC (.inr (lT sz2 lR)) aN))).nt m17).nt m18).nt m19).then m20 ((aC (.inr (lT sz13 lR)) aN))).nt m21).nt m22).then m23 ((aC (.inr (lT sz14 lR)) aN))).nt m24).nt m25).then m26 ((aC (.inr (lT sz15 lR)) aN))).nt m27).nt m28)⟩

end Go.Proofs.Ytnahhdnkbbdceaa
