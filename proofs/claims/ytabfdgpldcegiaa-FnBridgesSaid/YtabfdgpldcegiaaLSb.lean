/- The law on bridges, walked. -/
import Derived.Test.YtabfdgpldcegiaaD18
import Derived.Test.YtabfdgpldcegiaaD9
import Derived.Test.YtabfdgpldcegiaaE8
import Derived.Test.YtabfdgpldcegiaaE20
import Derived.Test.YtabfdgpldcegiaaK1
set_option linter.unusedVariables false
set_option linter.unusedSimpArgs false
namespace Go.Proofs.Ytabfdgpldcegiaa

set_option maxRecDepth 100000 in
set_option maxHeartbeats 8000000 in
theorem law_bridges_over (nu : Nat) (cu : Nat) (Au : Option Addr) (bu : Nat) (ou : Nat) (xsu : List Nat) (nv : Nat) (cv : Nat) (Av : Option Addr) (bv : Nat) (ov : Nat) (xsv : List Nat) (lnu : xsu.length = nu) (hAu : 0 < nu → Au = some ⟨bu, ou, none⟩) (hBu : ∀ i, xsu.getD i 0 < 256) (lnv : xsv.length = nv) (hAv : 0 < nv → Av = some ⟨bv, ov, none⟩) (hBv : ∀ i, xsv.getD i 0 < 256) (hnu : 3000 < nu ∨ 3000 < nv) (w : World) (ru : Rng w bu ou (bys xsu)) (rv : Rng w bv ov (bys xsv)) : Cl Try.prog 6 #[.slice Au nu cu, .slice Av nv cv] w fun v w' => v = .bool true ∧ Mod [] w w' := by
  refine Cl.of Try.func6 Try.ntmps6 rfl rfl (ρ := [(0, .slice Au nu cu), (1, .slice Av nv cv)]) rfl ?_
  refine CE.seq ?_
  refine CE.region ?_
  refine WL.det (op_assign rfl) rfl rfl rfl ?_
  refine WL.end ?_
  refine NE.code ?_
  refine CE.seq ?_
  refine CE.seq ?_
  refine CE.region ?_
  refine WL.det (op_move rfl) rfl rfl rfl ?_
  refine WL.det (op_move rfl) rfl rfl rfl ?_
  refine WL.call (oc_call (vs := [.slice Au nu cu, .slice Av nv cv]) (cap := []) rfl rfl rfl Try.call14 (c_a2Long nu cu Au nv cv Av w)) rfl rfl (ltb rfl) ?_
  rintro _ _ ⟨rfl, rfl⟩
  refine WL.end ?_
  refine NE.code ?_
  refine CE.cond_t rfl (still_over2 hnu) ?_
  refine CE.seq ?_
  refine CE.region ?_
  refine WL.det (op_assign rfl) rfl rfl rfl ?_
  refine WL.end ?_
  refine NE.code ?_
  refine CE.ret' ?_
  refine XE.ret_then ?_
  refine XE.leave1 Try.results6 rfl ?_
  refine ⟨rfl, (Mod.refl [] w)⟩

set_option maxRecDepth 100000 in
set_option maxHeartbeats 8000000 in
theorem law_bridges (nu : Nat) (cu : Nat) (Au : Option Addr) (bu : Nat) (ou : Nat) (xsu : List Nat) (nv : Nat) (cv : Nat) (Av : Option Addr) (bv : Nat) (ov : Nat) (xsv : List Nat) (lnu : xsu.length = nu) (hAu : 0 < nu → Au = some ⟨bu, ou, none⟩) (hBu : ∀ i, xsu.getD i 0 < 256) (lnv : xsv.length = nv) (hAv : 0 < nv → Av = some ⟨bv, ov, none⟩) (hBv : ∀ i, xsv.getD i 0 < 256) (hnu : nu ≤ 3000) (hnv : nv ≤ 3000) (w : World) (ru : Rng w bu ou (bys xsu)) (rv : Rng w bv ov (bys xsv)) : Cl Try.prog 6 #[.slice Au nu cu, .slice Av nv cv] w fun v w' => v = .bool true ∧ Mod [] w w' := by
  refine Cl.of Try.func6 Try.ntmps6 rfl rfl (ρ := [(0, .slice Au nu cu), (1, .slice Av nv cv)]) rfl ?_
  refine CE.seq ?_
  refine CE.region ?_
  refine WL.det (op_assign rfl) rfl rfl rfl ?_
  refine WL.end ?_
  refine NE.code ?_
  refine CE.seq ?_
  refine CE.seq ?_
  refine CE.region ?_
  refine WL.det (op_move rfl) rfl rfl rfl ?_
  refine WL.det (op_move rfl) rfl rfl rfl ?_
  refine WL.call (oc_call (vs := [.slice Au nu cu, .slice Av nv cv]) (cap := []) rfl rfl rfl Try.call14 (c_a2Long nu cu Au nv cv Av w)) rfl rfl (ltb rfl) ?_
  rintro _ _ ⟨rfl, rfl⟩
  refine WL.end ?_
  refine NE.code ?_
  refine CE.cond_f rfl (still_in2 hnu hnv) ?_
  refine CE.skip' ?_
  refine NE.code ?_
  refine CE.seq ?_
  refine CE.region ?_
  refine WL.det (op_move rfl) rfl rfl rfl ?_
  refine WL.call (oc_call (vs := [.slice Au nu cu]) (cap := []) rfl rfl rfl Try.call32 (c_A2String nu cu Au bu ou xsu lnu hAu hBu (by omega) w ru)) rfl rfl (ltb rfl) ?_
  rintro _ w1 ⟨n'1, c'1, b'1, ta1, da1, mw1, lw1, zz1, rfl, h1, h2, h3, h4, h5, r1, ge1, m1⟩
  refine WL.op (op_alloc (cs := [.slice none 0 0, vI 0, vI 0, vF 0, vF 0, vF 0, vF 0, vF 0, vI 0, vF 0, vF 0, vF 0, vF 0, vF 0, vF 0]) Try.zeroValue33 rfl) rfl rfl (ltb rfl) ?_
  rintro _ w2 ⟨rfl, r2, m2, z1⟩
  refine WL.op0 (op_store (i := 0) (cs := [vS b'1 0 n'1 c'1, vI ((zz1.i : Nat) : Int), vI 3, vF ta1, vF 0, vF 0, vF (zz1.t0), vF (zz1.t1), vI 2, vF da1, vF mw1, vF 0, vF (zz1.d0), vF (zz1.d1), vF lw1]) rfl rfl rfl Try.sizeOf33 rfl r2 rfl (lB rfl) rfl) rfl rfl ?_
  rintro _ w3 ⟨r3, m3, z2⟩
  have r4 : Row w3 w1.heap.size 0 [vS b'1 0 n'1 c'1, vI ((zz1.i : Nat) : Int), vI 3, vF ta1, vF 0, vF 0, vF (zz1.t0), vF (zz1.t1), vI 2, vF da1, vF mw1, vF 0, vF (zz1.d0), vF (zz1.d1), vF lw1] := Row.congr r3 rfl
  refine WL.end ?_
  refine NE.code ?_
  refine CE.seq ?_
  refine CE.region ?_
  refine WL.det (op_move rfl) rfl rfl rfl ?_
  refine WL.call (oc_call (vs := [.slice Av nv cv]) (cap := []) rfl rfl rfl Try.call32 (c_A2String nv cv Av bv ov xsv lnv hAv hBv (by omega) w3 (Rng.youngS rv ((rv.ext m1).ext m2) m3 (allge_cons (lT m1.size lR) allge_nil)))) rfl rfl (ltb rfl) ?_
  rintro _ w4 ⟨n'2, c'2, b'2, ta2, da2, mw2, lw2, zz2, rfl, h6, h7, h8, h9, h10, r5, ge2, m4⟩
  refine WL.op (op_alloc (cs := [.slice none 0 0, vI 0, vI 0, vF 0, vF 0, vF 0, vF 0, vF 0, vI 0, vF 0, vF 0, vF 0, vF 0, vF 0, vF 0]) Try.zeroValue33 rfl) rfl rfl (ltb rfl) ?_
  rintro _ w5 ⟨rfl, r6, m5, z3⟩
  refine WL.op0 (op_store (i := 0) (cs := [vS b'2 0 n'2 c'2, vI ((zz2.i : Nat) : Int), vI 3, vF ta2, vF 0, vF 0, vF (zz2.t0), vF (zz2.t1), vI 2, vF da2, vF mw2, vF 0, vF (zz2.d0), vF (zz2.d1), vF lw2]) rfl rfl rfl Try.sizeOf33 rfl r6 rfl (lB rfl) rfl) rfl rfl ?_
  rintro _ w6 ⟨r7, m6, z4⟩
  have r8 : Row w6 w4.heap.size 0 [vS b'2 0 n'2 c'2, vI ((zz2.i : Nat) : Int), vI 3, vF ta2, vF 0, vF 0, vF (zz2.t0), vF (zz2.t1), vI 2, vF da2, vF mw2, vF 0, vF (zz2.d0), vF (zz2.d1), vF lw2] := Row.congr r7 rfl
  refine WL.end ?_
  refine NE.code ?_
  refine CE.seq ?_
  refine CE.region ?_
  refine WL.det (op_move rfl) rfl rfl rfl ?_
  refine WL.call (oc_call (vs := [.slice Au nu cu]) (cap := []) rfl rfl rfl Try.call18 (c_A2PlainX nu cu Au bu ou xsu lnu hAu hBu (by omega) w6 (Rng.youngS ru (((Rng.youngS ru ((ru.ext m1).ext m2) m3 (allge_cons (lT m1.size lR) allge_nil)).ext m4).ext m5) m6 (allge_cons (lT (lT (lT (lT m1.size m2.size) m3.size) m4.size) lR) allge_nil)))) rfl rfl (ltb rfl) ?_
  rintro _ w7 ⟨rfl, h11, h12, m7⟩
  refine WL.det (op_assign rfl) rfl rfl rfl ?_
  refine WL.end ?_
  refine NE.code ?_
  refine CE.seq ?_
  refine CE.region ?_
  refine WL.det (op_move rfl) rfl rfl rfl ?_
  refine WL.call (oc_call (vs := [.slice Av nv cv]) (cap := []) rfl rfl rfl Try.call18 (c_A2PlainX nv cv Av bv ov xsv lnv hAv hBv (by omega) w7 ((Rng.youngS rv (((Rng.youngS rv ((rv.ext m1).ext m2) m3 (allge_cons (lT m1.size lR) allge_nil)).ext m4).ext m5) m6 (allge_cons (lT (lT (lT (lT m1.size m2.size) m3.size) m4.size) lR) allge_nil)).ext m7))) rfl rfl (ltb rfl) ?_
  rintro _ w8 ⟨rfl, h13, h14, m8⟩
  refine WL.det (op_assign rfl) rfl rfl rfl ?_
  refine WL.end ?_
  refine NE.code ?_
  refine CE.seq ?_
  refine CE.region ?_
  refine WL.det (op_loadA (i := 0) (cs := [vS b'1 0 n'1 c'1, vI ((zz1.i : Nat) : Int), vI 3, vF ta1, vF 0, vF 0, vF (zz1.t0), vF (zz1.t1), vI 2, vF da1, vF mw1, vF 0, vF (zz1.d0), vF (zz1.d1), vF lw1]) rfl Try.isAgg33 Try.sizeOf33 (((((r4.ext m4).ext m5).mod m6 (nC (lE (lL (lL r2.lt (lT m3.size m4.size)) lR)) nN)).ext m7).ext m8).rng rfl rfl rfl) rfl rfl rfl ?_
  refine WL.det (op_loadA (i := 0) (cs := [vS b'2 0 n'2 c'2, vI ((zz2.i : Nat) : Int), vI 3, vF ta2, vF 0, vF 0, vF (zz2.t0), vF (zz2.t1), vI 2, vF da2, vF mw2, vF 0, vF (zz2.d0), vF (zz2.d1), vF lw2]) rfl Try.isAgg33 Try.sizeOf33 ((r8.ext m7).ext m8).rng rfl rfl rfl) rfl rfl rfl ?_
  refine WL.op (op_buildSl (qs := [(0, .agg #[vS b'1 0 n'1 c'1, vI ((zz1.i : Nat) : Int), vI 3, vF ta1, vF 0, vF 0, vF (zz1.t0), vF (zz1.t1), vI 2, vF da1, vF mw1, vF 0, vF (zz1.d0), vF (zz1.d1), vF lw1]), (1, .agg #[vS b'2 0 n'2 c'2, vI ((zz2.i : Nat) : Int), vI 3, vF ta2, vF 0, vF 0, vF (zz2.t0), vF (zz2.t1), vI 2, vF da2, vF mw2, vF 0, vF (zz2.d0), vF (zz2.d1), vF lw2])]) (cells := #[vS b'1 0 n'1 c'1, vI ((zz1.i : Nat) : Int), vI 3, vF ta1, vF 0, vF 0, vF (zz1.t0), vF (zz1.t1), vI 2, vF da1, vF mw1, vF 0, vF (zz1.d0), vF (zz1.d1), vF lw1, vS b'2 0 n'2 c'2, vI ((zz2.i : Nat) : Int), vI 3, vF ta2, vF 0, vF 0, vF (zz2.t0), vF (zz2.t1), vI 2, vF da2, vF mw2, vF 0, vF (zz2.d0), vF (zz2.d1), vF lw2]) rfl Try.runUnderlying59 Try.sizeOf33 Try.zeroValue33 (by decide) (by decide) (by kernel_rfl)) rfl rfl (ltb rfl) ?_
  rintro _ w9 ⟨rfl, r9, m9, z5⟩
  refine WL.det (op_move rfl) rfl rfl rfl ?_
  refine WL.det (op_move rfl) rfl rfl rfl ?_
  refine WL.op (op_buildSl (qs := [(0, vF (plainF xsu nu)), (1, vF (plainF xsv nv))]) (cells := #[vF (plainF xsu nu), vF (plainF xsv nv)]) rfl Try.runUnderlying24 Try.sizeOf27 Try.zeroValue27 (by decide) (by decide) (by kernel_rfl)) rfl rfl (ltb rfl) ?_
  rintro _ w10 ⟨rfl, r10, m10, z6⟩
  refine WL.call (oc_call (vs := [vS w8.heap.size 0 2 2, vF 0, vS w9.heap.size 0 2 2]) (cap := []) rfl rfl rfl Try.call33 (c_iBridge2 n'1 c'1 b'1 ta1 da1 mw1 lw1 zz1 n'2 c'2 b'2 ta2 da2 mw2 lw2 zz2 2 w8.heap.size 0 2 w9.heap.size (plainF xsu nu) (plainF xsv nv) (by first | assumption | exact StrB.l (by assumption)) (by first | assumption | exact WayB.w (by assumption)) (by first | assumption | exact StrB.l (by assumption)) (by first | assumption | exact WayB.w (by assumption)) (by first | assumption | decide +kernel | exact plainF_fin _ _) h11 h13 w10 (r9.ext m10).rng r10.rng (((((((((r1.ext m2).mod m3 (nC (lE (lL r1.lt lR)) nN)).ext m4).ext m5).mod m6 (nC (lE (lL (lL r1.lt (lT (lT m2.size m3.size) m4.size)) lR)) nN)).ext m7).ext m8).ext m9).ext m10).rng ((((((r5.ext m5).mod m6 (nC (lE (lL r5.lt lR)) nN)).ext m7).ext m8).ext m9).ext m10).rng)) rfl rfl (ltb rfl) ?_
  rintro _ w11 ⟨e'1, ce'1, f'1, cf'1, b1'1, c1'1, b2'1, c2'1, rfl, h15, h16, r11, r12, r13, r14, ge3, ge4, ge5, ge6, m11⟩
  refine WL.det (op_move rfl) rfl rfl rfl ?_
  refine WL.det (op_extract rfl rfl) rfl rfl rfl ?_
  refine WL.det (op_extract rfl rfl) rfl rfl rfl ?_
  refine WL.det (op_extract rfl rfl) rfl rfl rfl ?_
  refine WL.det (op_assign rfl) rfl rfl rfl ?_
  refine WL.det (op_assign rfl) rfl rfl rfl ?_
  refine WL.det (op_assign rfl) rfl rfl rfl ?_
  refine WL.end ?_
  refine NE.code ?_
  refine CE.seq ?_
  refine CE.region ?_
  refine WL.det (op_loadA (i := 0) (cs := [vS b'1 0 n'1 c'1, vI ((zz1.i : Nat) : Int), vI 3, vF ta1, vF 0, vF 0, vF (zz1.t0), vF (zz1.t1), vI 2, vF da1, vF mw1, vF 0, vF (zz1.d0), vF (zz1.d1), vF lw1]) rfl Try.isAgg33 Try.sizeOf33 ((((((((r4.ext m4).ext m5).mod m6 (nC (lE (lL (lL r2.lt (lT m3.size m4.size)) lR)) nN)).ext m7).ext m8).ext m9).ext m10).ext m11).rng rfl rfl rfl) rfl rfl rfl ?_
  refine WL.det (op_move rfl) rfl rfl rfl ?_
  refine WL.call (oc_call (vs := [.agg #[vS b'1 0 n'1 c'1, vI ((zz1.i : Nat) : Int), vI 3, vF ta1, vF 0, vF 0, vF (zz1.t0), vF (zz1.t1), vI 2, vF da1, vF mw1, vF 0, vF (zz1.d0), vF (zz1.d1), vF lw1], vF (plainF xsu nu)]) (cap := []) rfl rfl rfl Try.call34 (c_iStepZ n'1 c'1 b'1 ta1 da1 mw1 lw1 zz1 (plainF xsu nu) (by first | assumption | exact StrB.l (by assumption)) (by first | assumption | exact WayB.w (by assumption)) h11 w11 ((((((((((r1.ext m2).mod m3 (nC (lE (lL r1.lt lR)) nN)).ext m4).ext m5).mod m6 (nC (lE (lL (lL r1.lt (lT (lT m2.size m3.size) m4.size)) lR)) nN)).ext m7).ext m8).ext m9).ext m10).ext m11).rng)) rfl rfl (ltb rfl) ?_
  rintro _ w12 ⟨b1'2, c1'2, rfl, h17, r15, ge7, m12⟩
  refine WL.det (op_move rfl) rfl rfl rfl ?_
  refine WL.det (op_extract rfl rfl) rfl rfl rfl ?_
  refine WL.det (op_extract rfl rfl) rfl rfl rfl ?_
  refine WL.det (op_extract rfl rfl) rfl rfl rfl ?_
  refine WL.op (op_alloc (cs := [.slice none 0 0, vI 0, vI 0, vF 0, vF 0, vF 0, vF 0, vF 0, vI 0, vF 0, vF 0, vF 0, vF 0, vF 0, vF 0]) Try.zeroValue33 rfl) rfl rfl (ltb rfl) ?_
  rintro _ w13 ⟨rfl, r16, m13, z7⟩
  refine WL.op0 (op_store (i := 0) (cs := [vS b1'2 0 n'1 c1'2, vI (((zz1.i + 1) % n'1 : Nat) : Int), vI 3, vF ta1, vF 0, vF 0, vF (stepS 3 ta1 0 0 (zz1.t0) (zz1.t1) ((zz1.xs).getD (zz1.i) 0)), vF (stepT 3 ta1 0 0 (zz1.t0) (zz1.t1) ((zz1.xs).getD (zz1.i) 0)), vI 2, vF da1, vF mw1, vF 0, vF (stepS 2 da1 mw1 0 (zz1.d0) (zz1.d1) (stepY 3 ta1 0 0 (zz1.t0) (zz1.t1) ((zz1.xs).getD (zz1.i) 0))), vF (stepT 2 da1 mw1 0 (zz1.d0) (zz1.d1) (stepY 3 ta1 0 0 (zz1.t0) (zz1.t1) ((zz1.xs).getD (zz1.i) 0))), vF lw1]) rfl rfl rfl Try.sizeOf33 rfl r16 rfl (lB rfl) rfl) rfl rfl ?_
  rintro _ w14 ⟨r17, m14, z8⟩
  have r18 : Row w14 w12.heap.size 0 [vS b1'2 0 n'1 c1'2, vI (((zz1.i + 1) % n'1 : Nat) : Int), vI 3, vF ta1, vF 0, vF 0, vF (stepS 3 ta1 0 0 (zz1.t0) (zz1.t1) ((zz1.xs).getD (zz1.i) 0)), vF (stepT 3 ta1 0 0 (zz1.t0) (zz1.t1) ((zz1.xs).getD (zz1.i) 0)), vI 2, vF da1, vF mw1, vF 0, vF (stepS 2 da1 mw1 0 (zz1.d0) (zz1.d1) (stepY 3 ta1 0 0 (zz1.t0) (zz1.t1) ((zz1.xs).getD (zz1.i) 0))), vF (stepT 2 da1 mw1 0 (zz1.d0) (zz1.d1) (stepY 3 ta1 0 0 (zz1.t0) (zz1.t1) ((zz1.xs).getD (zz1.i) 0))), vF lw1] := Row.congr r17 rfl
  refine WL.det (op_assign rfl) rfl rfl rfl ?_
  refine WL.det (op_assign rfl) rfl rfl rfl ?_
  refine WL.end ?_
  refine NE.code ?_
  refine CE.seq ?_
  refine CE.region ?_
  refine WL.det (op_loadA (i := 0) (cs := [vS b'2 0 n'2 c'2, vI ((zz2.i : Nat) : Int), vI 3, vF ta2, vF 0, vF 0, vF (zz2.t0), vF (zz2.t1), vI 2, vF da2, vF mw2, vF 0, vF (zz2.d0), vF (zz2.d1), vF lw2]) rfl Try.isAgg33 Try.sizeOf33 ((((((((r8.ext m7).ext m8).ext m9).ext m10).ext m11).ext m12).ext m13).mod m14 (nC (lE (lL (lL r6.lt (lT (lT (lT (lT (lT (lT m6.size m7.size) m8.size) m9.size) m10.size) m11.size) m12.size)) lR)) nN)).rng rfl rfl rfl) rfl rfl rfl ?_
  refine WL.det (op_move rfl) rfl rfl rfl ?_
  refine WL.call (oc_call (vs := [.agg #[vS b'2 0 n'2 c'2, vI ((zz2.i : Nat) : Int), vI 3, vF ta2, vF 0, vF 0, vF (zz2.t0), vF (zz2.t1), vI 2, vF da2, vF mw2, vF 0, vF (zz2.d0), vF (zz2.d1), vF lw2], vF (plainF xsv nv)]) (cap := []) rfl rfl rfl Try.call34 (c_iStepZ n'2 c'2 b'2 ta2 da2 mw2 lw2 zz2 (plainF xsv nv) (by first | assumption | exact StrB.l (by assumption)) (by first | assumption | exact WayB.w (by assumption)) h13 w14 ((((((((((r5.ext m5).mod m6 (nC (lE (lL r5.lt lR)) nN)).ext m7).ext m8).ext m9).ext m10).ext m11).ext m12).ext m13).mod m14 (nC (lE (lL (lL r5.lt (lT (lT (lT (lT (lT (lT (lT m5.size m6.size) m7.size) m8.size) m9.size) m10.size) m11.size) m12.size)) lR)) nN)).rng)) rfl rfl (ltb rfl) ?_
  rintro _ w15 ⟨b1'3, c1'3, rfl, h18, r19, ge8, m15⟩
  refine WL.det (op_move rfl) rfl rfl rfl ?_
  refine WL.det (op_extract rfl rfl) rfl rfl rfl ?_
  refine WL.det (op_extract rfl rfl) rfl rfl rfl ?_
  refine WL.det (op_extract rfl rfl) rfl rfl rfl ?_
  refine WL.op (op_alloc (cs := [.slice none 0 0, vI 0, vI 0, vF 0, vF 0, vF 0, vF 0, vF 0, vI 0, vF 0, vF 0, vF 0, vF 0, vF 0, vF 0]) Try.zeroValue33 rfl) rfl rfl (ltb rfl) ?_
  rintro _ w16 ⟨rfl, r20, m16, z9⟩
  refine WL.op0 (op_store (i := 0) (cs := [vS b1'3 0 n'2 c1'3, vI (((zz2.i + 1) % n'2 : Nat) : Int), vI 3, vF ta2, vF 0, vF 0, vF (stepS 3 ta2 0 0 (zz2.t0) (zz2.t1) ((zz2.xs).getD (zz2.i) 0)), vF (stepT 3 ta2 0 0 (zz2.t0) (zz2.t1) ((zz2.xs).getD (zz2.i) 0)), vI 2, vF da2, vF mw2, vF 0, vF (stepS 2 da2 mw2 0 (zz2.d0) (zz2.d1) (stepY 3 ta2 0 0 (zz2.t0) (zz2.t1) ((zz2.xs).getD (zz2.i) 0))), vF (stepT 2 da2 mw2 0 (zz2.d0) (zz2.d1) (stepY 3 ta2 0 0 (zz2.t0) (zz2.t1) ((zz2.xs).getD (zz2.i) 0))), vF lw2]) rfl rfl rfl Try.sizeOf33 rfl r20 rfl (lB rfl) rfl) rfl rfl ?_
  rintro _ w17 ⟨r21, m17, z10⟩
  have r22 : Row w17 w15.heap.size 0 [vS b1'3 0 n'2 c1'3, vI (((zz2.i + 1) % n'2 : Nat) : Int), vI 3, vF ta2, vF 0, vF 0, vF (stepS 3 ta2 0 0 (zz2.t0) (zz2.t1) ((zz2.xs).getD (zz2.i) 0)), vF (stepT 3 ta2 0 0 (zz2.t0) (zz2.t1) ((zz2.xs).getD (zz2.i) 0)), vI 2, vF da2, vF mw2, vF 0, vF (stepS 2 da2 mw2 0 (zz2.d0) (zz2.d1) (stepY 3 ta2 0 0 (zz2.t0) (zz2.t1) ((zz2.xs).getD (zz2.i) 0))), vF (stepT 2 da2 mw2 0 (zz2.d0) (zz2.d1) (stepY 3 ta2 0 0 (zz2.t0) (zz2.t1) ((zz2.xs).getD (zz2.i) 0))), vF lw2] := Row.congr r21 rfl
  refine WL.det (op_assign rfl) rfl rfl rfl ?_
  refine WL.det (op_assign rfl) rfl rfl rfl ?_
  refine WL.end ?_
  refine NE.code ?_
  refine CE.seq ?_
  refine CE.seq ?_
  refine CE.region ?_
  refine WL.det (op_move rfl) rfl rfl rfl ?_
  refine WL.det (op_nei rfl rfl) rfl rfl rfl ?_
  refine WL.det (op_move rfl) rfl rfl rfl ?_
  refine WL.yes rfl rfl rfl (ltb rfl) rfl rfl ?_
  refine WL.det (op_move rfl) rfl rfl rfl ?_
  refine WL.yes rfl rfl rfl (ltb rfl) rfl rfl ?_
  refine WL.det (op_nei rfl rfl) rfl rfl rfl ?_
  refine WL.det (op_pick_f rfl rfl rfl) rfl rfl rfl ?_
  refine WL.det (op_move rfl) rfl rfl rfl ?_
  refine WL.yes rfl rfl rfl (ltb rfl) rfl rfl ?_
  refine WL.det (op_move rfl) rfl rfl rfl ?_
  refine WL.yes rfl rfl rfl (ltb rfl) rfl rfl ?_
  refine WL.det (op_nei rfl rfl) rfl rfl rfl ?_
  refine WL.det (op_pick_f rfl rfl rfl) rfl rfl rfl ?_
  refine WL.det (op_move rfl) rfl rfl rfl ?_
  refine WL.yes rfl rfl rfl (ltb rfl) rfl rfl ?_
  refine WL.det (op_move rfl) rfl rfl rfl ?_
  refine WL.yes rfl rfl rfl (ltb rfl) rfl rfl ?_
  refine WL.det (op_len rfl Try.runUnderlying59) rfl rfl rfl ?_
  refine WL.yes rfl rfl rfl (ltb rfl) rfl rfl ?_
  refine WL.det (op_nei rfl rfl) rfl rfl rfl ?_
  refine WL.det (op_pick_f rfl rfl rfl) rfl rfl rfl ?_
  refine WL.det (op_move rfl) rfl rfl rfl ?_
  refine WL.yes rfl rfl rfl (ltb rfl) rfl rfl ?_
  refine WL.det (op_move rfl) rfl rfl rfl ?_
  refine WL.yes rfl rfl rfl (ltb rfl) rfl rfl ?_
  refine WL.det (op_len rfl Try.runUnderlying24) rfl rfl rfl ?_
  refine WL.yes rfl rfl rfl (ltb rfl) rfl rfl ?_
  refine WL.det (op_nei rfl rfl) rfl rfl rfl ?_
  refine WL.det (op_pick_f rfl rfl rfl) rfl rfl rfl ?_
  refine WL.det (op_move rfl) rfl rfl rfl ?_
  refine WL.yes rfl rfl rfl (ltb rfl) rfl rfl ?_
  refine WL.det (op_move rfl) rfl rfl rfl ?_
  refine WL.yes rfl rfl rfl (ltb rfl) rfl rfl ?_
  refine WL.det (op_indexSl (off' := 0) rfl rfl rfl Try.runUnderlying24 Try.sizeOf27 (by omega) (by omega) rfl) rfl rfl rfl ?_
  refine WL.yes rfl rfl rfl (ltb rfl) rfl rfl ?_
  refine WL.det (op_load1 (i := 0) rfl Try.isAgg27 ((((((r12.ext m12).ext m13).mod m14 (nC (lE (lL (lL r12.lt m12.size) lR)) nN)).ext m15).ext m16).mod m17 (nC (lE (lL (lL r12.lt (lT (lT (lT m12.size m13.size) m14.size) m15.size)) lR)) nN)).rng rfl rfl) rfl rfl rfl ?_
  refine WL.yes rfl rfl rfl (ltb rfl) rfl rfl ?_
  refine WL.det (op_move rfl) rfl rfl rfl ?_
  refine WL.yes rfl rfl rfl (ltb rfl) rfl rfl ?_
  refine WL.call (oc_call (vs := [vF ((zz1.xs).getD (zz1.i) 0), vF ((zz1.xs).getD (zz1.i) 0)]) (cap := []) rfl rfl rfl Try.call35 (c_SameSample ((zz1.xs).getD (zz1.i) 0) ((zz1.xs).getD (zz1.i) 0) ((zz1.xs).getD (zz1.i) 0) ((zz1.xs).getD (zz1.i) 0) rfl rfl w17)) rfl rfl (ltb rfl) ?_
  rintro _ _ ⟨rfl, rfl⟩
  refine WL.yes rfl rfl rfl (ltb rfl) rfl rfl ?_
  refine WL.det (op_not rfl) rfl rfl rfl ?_
  refine WL.det (op_pick_f rfl rfl rfl) rfl rfl rfl ?_
  refine WL.det (op_move rfl) rfl rfl rfl ?_
  refine WL.yes rfl rfl rfl (ltb rfl) rfl (bnot_t (beq_self_eq_true _)) ?_
  refine WL.det (op_move rfl) rfl rfl rfl ?_
  refine WL.yes rfl rfl rfl (ltb rfl) rfl (bnot_t (beq_self_eq_true _)) ?_
  refine WL.det (op_indexSl (off' := 1) rfl rfl rfl Try.runUnderlying24 Try.sizeOf27 (by omega) (by omega) rfl) rfl rfl rfl ?_
  refine WL.yes rfl rfl rfl (ltb rfl) rfl (bnot_t (beq_self_eq_true _)) ?_
  refine WL.det (op_load1 (i := 1) rfl Try.isAgg27 ((((((r12.ext m12).ext m13).mod m14 (nC (lE (lL (lL r12.lt m12.size) lR)) nN)).ext m15).ext m16).mod m17 (nC (lE (lL (lL r12.lt (lT (lT (lT m12.size m13.size) m14.size) m15.size)) lR)) nN)).rng rfl rfl) rfl rfl rfl ?_
  refine WL.yes rfl rfl rfl (ltb rfl) rfl (bnot_t (beq_self_eq_true _)) ?_
  refine WL.det (op_move rfl) rfl rfl rfl ?_
  refine WL.yes rfl rfl rfl (ltb rfl) rfl (bnot_t (beq_self_eq_true _)) ?_
  refine WL.call (oc_call (vs := [vF ((zz2.xs).getD (zz2.i) 0), vF ((zz2.xs).getD (zz2.i) 0)]) (cap := []) rfl rfl rfl Try.call35 (c_SameSample ((zz2.xs).getD (zz2.i) 0) ((zz2.xs).getD (zz2.i) 0) ((zz2.xs).getD (zz2.i) 0) ((zz2.xs).getD (zz2.i) 0) rfl rfl w17)) rfl rfl (ltb rfl) ?_
  rintro _ _ ⟨rfl, rfl⟩
  refine WL.yes rfl rfl rfl (ltb rfl) rfl (bnot_t (beq_self_eq_true _)) ?_
  refine WL.det (op_not rfl) rfl rfl rfl ?_
  refine WL.det (op_pick_f rfl (bnot_t (beq_self_eq_true _)) rfl) rfl rfl rfl ?_
  refine WL.end ?_
  refine NE.code ?_
  refine CE.cond_f rfl (bnot_t (beq_self_eq_true _)) ?_
  refine CE.skip' ?_
  refine NE.code ?_
  refine CE.seq ?_
  refine CE.region ?_
  refine WL.det (op_loadA (i := 0) (cs := [vS b'1 0 n'1 c'1, vI ((zz1.i : Nat) : Int), vI 3, vF ta1, vF 0, vF 0, vF (zz1.t0), vF (zz1.t1), vI 2, vF da1, vF mw1, vF 0, vF (zz1.d0), vF (zz1.d1), vF lw1]) rfl Try.isAgg33 Try.sizeOf33 ((((((((((((((r4.ext m4).ext m5).mod m6 (nC (lE (lL (lL r2.lt (lT m3.size m4.size)) lR)) nN)).ext m7).ext m8).ext m9).ext m10).ext m11).ext m12).ext m13).mod m14 (nC (lE (lL (lL r2.lt (lT (lT (lT (lT (lT (lT (lT (lT (lT m3.size m4.size) m5.size) m6.size) m7.size) m8.size) m9.size) m10.size) m11.size) m12.size)) lR)) nN)).ext m15).ext m16).mod m17 (nC (lE (lL (lL r2.lt (lT (lT (lT (lT (lT (lT (lT (lT (lT (lT (lT (lT m3.size m4.size) m5.size) m6.size) m7.size) m8.size) m9.size) m10.size) m11.size) m12.size) m13.size) m14.size) m15.size)) lR)) nN)).rng rfl rfl rfl) rfl rfl rfl ?_
  refine WL.det (op_loadA (i := 0) (cs := [vS b'1 0 n'1 c'1, vI ((zz1.i : Nat) : Int), vI 3, vF ta1, vF 0, vF 0, vF (zz1.t0), vF (zz1.t1), vI 2, vF da1, vF mw1, vF 0, vF (zz1.d0), vF (zz1.d1), vF lw1]) rfl Try.isAgg33 Try.sizeOf33 ((((((((((((((r4.ext m4).ext m5).mod m6 (nC (lE (lL (lL r2.lt (lT m3.size m4.size)) lR)) nN)).ext m7).ext m8).ext m9).ext m10).ext m11).ext m12).ext m13).mod m14 (nC (lE (lL (lL r2.lt (lT (lT (lT (lT (lT (lT (lT (lT (lT m3.size m4.size) m5.size) m6.size) m7.size) m8.size) m9.size) m10.size) m11.size) m12.size)) lR)) nN)).ext m15).ext m16).mod m17 (nC (lE (lL (lL r2.lt (lT (lT (lT (lT (lT (lT (lT (lT (lT (lT (lT (lT m3.size m4.size) m5.size) m6.size) m7.size) m8.size) m9.size) m10.size) m11.size) m12.size) m13.size) m14.size) m15.size)) lR)) nN)).rng rfl rfl rfl) rfl rfl rfl ?_
  refine WL.op (op_buildSl (qs := [(0, .agg #[vS b'1 0 n'1 c'1, vI ((zz1.i : Nat) : Int), vI 3, vF ta1, vF 0, vF 0, vF (zz1.t0), vF (zz1.t1), vI 2, vF da1, vF mw1, vF 0, vF (zz1.d0), vF (zz1.d1), vF lw1]), (1, .agg #[vS b'1 0 n'1 c'1, vI ((zz1.i : Nat) : Int), vI 3, vF ta1, vF 0, vF 0, vF (zz1.t0), vF (zz1.t1), vI 2, vF da1, vF mw1, vF 0, vF (zz1.d0), vF (zz1.d1), vF lw1])]) (cells := #[vS b'1 0 n'1 c'1, vI ((zz1.i : Nat) : Int), vI 3, vF ta1, vF 0, vF 0, vF (zz1.t0), vF (zz1.t1), vI 2, vF da1, vF mw1, vF 0, vF (zz1.d0), vF (zz1.d1), vF lw1, vS b'1 0 n'1 c'1, vI ((zz1.i : Nat) : Int), vI 3, vF ta1, vF 0, vF 0, vF (zz1.t0), vF (zz1.t1), vI 2, vF da1, vF mw1, vF 0, vF (zz1.d0), vF (zz1.d1), vF lw1]) rfl Try.runUnderlying59 Try.sizeOf33 Try.zeroValue33 (by decide) (by decide) (by kernel_rfl)) rfl rfl (ltb rfl) ?_
  rintro _ w18 ⟨rfl, r23, m18, z11⟩
  refine WL.det (op_move rfl) rfl rfl rfl ?_
  refine WL.det (op_move rfl) rfl rfl rfl ?_
  refine WL.det (op_move rfl) rfl rfl rfl ?_
  refine WL.op (op_buildSl (qs := [(0, vF (plainF xsu nu)), (1, vF (plainF xsu nu))]) (cells := #[vF (plainF xsu nu), vF (plainF xsu nu)]) rfl Try.runUnderlying24 Try.sizeOf27 Try.zeroValue27 (by decide) (by decide) (by kernel_rfl)) rfl rfl (ltb rfl) ?_
  rintro _ w19 ⟨rfl, r24, m19, z12⟩
  refine WL.call (oc_call (vs := [vS w17.heap.size 0 2 2, vF (plainF xsv nv), vS w18.heap.size 0 2 2]) (cap := []) rfl rfl rfl Try.call33 (c_iBridge2 n'1 c'1 b'1 ta1 da1 mw1 lw1 zz1 n'1 c'1 b'1 ta1 da1 mw1 lw1 zz1 2 w17.heap.size (plainF xsv nv) 2 w18.heap.size (plainF xsu nu) (plainF xsu nu) (by first | assumption | exact StrB.l (by assumption)) (by first | assumption | exact WayB.w (by assumption)) (by first | assumption | exact StrB.l (by assumption)) (by first | assumption | exact WayB.w (by assumption)) (by first | assumption | decide +kernel | exact plainF_fin _ _) h11 h11 w19 (r23.ext m19).rng r24.rng ((((((((((((((((((r1.ext m2).mod m3 (nC (lE (lL r1.lt lR)) nN)).ext m4).ext m5).mod m6 (nC (lE (lL (lL r1.lt (lT (lT m2.size m3.size) m4.size)) lR)) nN)).ext m7).ext m8).ext m9).ext m10).ext m11).ext m12).ext m13).mod m14 (nC (lE (lL (lL r1.lt (lT (lT (lT (lT (lT (lT (lT (lT (lT (lT m2.size m3.size) m4.size) m5.size) m6.size) m7.size) m8.size) m9.size) m10.size) m11.size) m12.size)) lR)) nN)).ext m15).ext m16).mod m17 (nC (lE (lL (lL r1.lt (lT (lT (lT (lT (lT (lT (lT (lT (lT (lT (lT (lT (lT m2.size m3.size) m4.size) m5.size) m6.size) m7.size) m8.size) m9.size) m10.size) m11.size) m12.size) m13.size) m14.size) m15.size)) lR)) nN)).ext m18).ext m19).rng ((((((((((((((((((r1.ext m2).mod m3 (nC (lE (lL r1.lt lR)) nN)).ext m4).ext m5).mod m6 (nC (lE (lL (lL r1.lt (lT (lT m2.size m3.size) m4.size)) lR)) nN)).ext m7).ext m8).ext m9).ext m10).ext m11).ext m12).ext m13).mod m14 (nC (lE (lL (lL r1.lt (lT (lT (lT (lT (lT (lT (lT (lT (lT (lT m2.size m3.size) m4.size) m5.size) m6.size) m7.size) m8.size) m9.size) m10.size) m11.size) m12.size)) lR)) nN)).ext m15).ext m16).mod m17 (nC (lE (lL (lL r1.lt (lT (lT (lT (lT (lT (lT (lT (lT (lT (lT (lT (lT (lT m2.size m3.size) m4.size) m5.size) m6.size) m7.size) m8.size) m9.size) m10.size) m11.size) m12.size) m13.size) m14.size) m15.size)) lR)) nN)).ext m18).ext m19).rng)) rfl rfl (ltb rfl) ?_
  rintro _ w20 ⟨e'2, ce'2, f'2, cf'2, b1'4, c1'4, b2'2, c2'2, rfl, h19, h20, r25, r26, r27, r28, ge9, ge10, ge11, ge12, m20⟩
  refine WL.det (op_move rfl) rfl rfl rfl ?_
  refine WL.det (op_extract rfl rfl) rfl rfl rfl ?_
  refine WL.det (op_extract rfl rfl) rfl rfl rfl ?_
  refine WL.det (op_extract rfl rfl) rfl rfl rfl ?_
  refine WL.det (op_assign rfl) rfl rfl rfl ?_
  refine WL.det (op_assign rfl) rfl rfl rfl ?_
  refine WL.det (op_assign rfl) rfl rfl rfl ?_
  refine WL.end ?_
  refine NE.code ?_
  refine CE.seq ?_
  refine CE.region ?_
  refine WL.det (op_loadA (i := 0) (cs := [vS b'1 0 n'1 c'1, vI ((zz1.i : Nat) : Int), vI 3, vF ta1, vF 0, vF 0, vF (zz1.t0), vF (zz1.t1), vI 2, vF da1, vF mw1, vF 0, vF (zz1.d0), vF (zz1.d1), vF lw1]) rfl Try.isAgg33 Try.sizeOf33 (((((((((((((((((r4.ext m4).ext m5).mod m6 (nC (lE (lL (lL r2.lt (lT m3.size m4.size)) lR)) nN)).ext m7).ext m8).ext m9).ext m10).ext m11).ext m12).ext m13).mod m14 (nC (lE (lL (lL r2.lt (lT (lT (lT (lT (lT (lT (lT (lT (lT m3.size m4.size) m5.size) m6.size) m7.size) m8.size) m9.size) m10.size) m11.size) m12.size)) lR)) nN)).ext m15).ext m16).mod m17 (nC (lE (lL (lL r2.lt (lT (lT (lT (lT (lT (lT (lT (lT (lT (lT (lT (lT m3.size m4.size) m5.size) m6.size) m7.size) m8.size) m9.size) m10.size) m11.size) m12.size) m13.size) m14.size) m15.size)) lR)) nN)).ext m18).ext m19).ext m20).rng rfl rfl rfl) rfl rfl rfl ?_
  refine WL.det (op_loadA (i := 0) (cs := [vS b'1 0 n'1 c'1, vI ((zz1.i : Nat) : Int), vI 3, vF ta1, vF 0, vF 0, vF (zz1.t0), vF (zz1.t1), vI 2, vF da1, vF mw1, vF 0, vF (zz1.d0), vF (zz1.d1), vF lw1]) rfl Try.isAgg33 Try.sizeOf33 (((((((((((((((((r4.ext m4).ext m5).mod m6 (nC (lE (lL (lL r2.lt (lT m3.size m4.size)) lR)) nN)).ext m7).ext m8).ext m9).ext m10).ext m11).ext m12).ext m13).mod m14 (nC (lE (lL (lL r2.lt (lT (lT (lT (lT (lT (lT (lT (lT (lT m3.size m4.size) m5.size) m6.size) m7.size) m8.size) m9.size) m10.size) m11.size) m12.size)) lR)) nN)).ext m15).ext m16).mod m17 (nC (lE (lL (lL r2.lt (lT (lT (lT (lT (lT (lT (lT (lT (lT (lT (lT (lT m3.size m4.size) m5.size) m6.size) m7.size) m8.size) m9.size) m10.size) m11.size) m12.size) m13.size) m14.size) m15.size)) lR)) nN)).ext m18).ext m19).ext m20).rng rfl rfl rfl) rfl rfl rfl ?_
  refine WL.op (op_buildSl (qs := [(0, .agg #[vS b'1 0 n'1 c'1, vI ((zz1.i : Nat) : Int), vI 3, vF ta1, vF 0, vF 0, vF (zz1.t0), vF (zz1.t1), vI 2, vF da1, vF mw1, vF 0, vF (zz1.d0), vF (zz1.d1), vF lw1]), (1, .agg #[vS b'1 0 n'1 c'1, vI ((zz1.i : Nat) : Int), vI 3, vF ta1, vF 0, vF 0, vF (zz1.t0), vF (zz1.t1), vI 2, vF da1, vF mw1, vF 0, vF (zz1.d0), vF (zz1.d1), vF lw1])]) (cells := #[vS b'1 0 n'1 c'1, vI ((zz1.i : Nat) : Int), vI 3, vF ta1, vF 0, vF 0, vF (zz1.t0), vF (zz1.t1), vI 2, vF da1, vF mw1, vF 0, vF (zz1.d0), vF (zz1.d1), vF lw1, vS b'1 0 n'1 c'1, vI ((zz1.i : Nat) : Int), vI 3, vF ta1, vF 0, vF 0, vF (zz1.t0), vF (zz1.t1), vI 2, vF da1, vF mw1, vF 0, vF (zz1.d0), vF (zz1.d1), vF lw1]) rfl Try.runUnderlying59 Try.sizeOf33 Try.zeroValue33 (by decide) (by decide) (by kernel_rfl)) rfl rfl (ltb rfl) ?_
  rintro _ w21 ⟨rfl, r29, m21, z13⟩
  refine WL.det (op_move rfl) rfl rfl rfl ?_
  refine WL.det (op_move rfl) rfl rfl rfl ?_
  refine WL.det (op_move rfl) rfl rfl rfl ?_
  refine WL.op (op_buildSl (qs := [(0, vF (plainF xsu nu)), (1, vF (plainF xsu nu))]) (cells := #[vF (plainF xsu nu), vF (plainF xsu nu)]) rfl Try.runUnderlying24 Try.sizeOf27 Try.zeroValue27 (by decide) (by decide) (by kernel_rfl)) rfl rfl (ltb rfl) ?_
  rintro _ w22 ⟨rfl, r30, m22, z14⟩
  refine WL.call (oc_call (vs := [vS w20.heap.size 0 2 2, vF (plainF xsv nv), vS w21.heap.size 0 2 2]) (cap := []) rfl rfl rfl Try.call36 (c_sBridge2 n'1 c'1 b'1 ta1 da1 mw1 lw1 zz1 n'1 c'1 b'1 ta1 da1 mw1 lw1 zz1 2 w20.heap.size (plainF xsv nv) 2 w21.heap.size (plainF xsu nu) (plainF xsu nu) (by first | assumption | exact StrB.l (by assumption)) (by first | assumption | exact WayB.w (by assumption)) (by first | assumption | exact StrB.l (by assumption)) (by first | assumption | exact WayB.w (by assumption)) (by first | assumption | decide +kernel | exact plainF_fin _ _) h11 h11 w22 (r29.ext m22).rng r30.rng (((((((((((((((((((((r1.ext m2).mod m3 (nC (lE (lL r1.lt lR)) nN)).ext m4).ext m5).mod m6 (nC (lE (lL (lL r1.lt (lT (lT m2.size m3.size) m4.size)) lR)) nN)).ext m7).ext m8).ext m9).ext m10).ext m11).ext m12).ext m13).mod m14 (nC (lE (lL (lL r1.lt (lT (lT (lT (lT (lT (lT (lT (lT (lT (lT m2.size m3.size) m4.size) m5.size) m6.size) m7.size) m8.size) m9.size) m10.size) m11.size) m12.size)) lR)) nN)).ext m15).ext m16).mod m17 (nC (lE (lL (lL r1.lt (lT (lT (lT (lT (lT (lT (lT (lT (lT (lT (lT (lT (lT m2.size m3.size) m4.size) m5.size) m6.size) m7.size) m8.size) m9.size) m10.size) m11.size) m12.size) m13.size) m14.size) m15.size)) lR)) nN)).ext m18).ext m19).ext m20).ext m21).ext m22).rng (((((((((((((((((((((r1.ext m2).mod m3 (nC (lE (lL r1.lt lR)) nN)).ext m4).ext m5).mod m6 (nC (lE (lL (lL r1.lt (lT (lT m2.size m3.size) m4.size)) lR)) nN)).ext m7).ext m8).ext m9).ext m10).ext m11).ext m12).ext m13).mod m14 (nC (lE (lL (lL r1.lt (lT (lT (lT (lT (lT (lT (lT (lT (lT (lT m2.size m3.size) m4.size) m5.size) m6.size) m7.size) m8.size) m9.size) m10.size) m11.size) m12.size)) lR)) nN)).ext m15).ext m16).mod m17 (nC (lE (lL (lL r1.lt (lT (lT (lT (lT (lT (lT (lT (lT (lT (lT (lT (lT (lT m2.size m3.size) m4.size) m5.size) m6.size) m7.size) m8.size) m9.size) m10.size) m11.size) m12.size) m13.size) m14.size) m15.size)) lR)) nN)).ext m18).ext m19).ext m20).ext m21).ext m22).rng)) rfl rfl (ltb rfl) ?_
  rintro _ w23 ⟨e'3, ce'3, f'3, cf'3, b1'5, c1'5, b2'3, c2'3, rfl, h21, h22, r31, r32, r33, r34, ge13, ge14, ge15, ge16, m23⟩
  refine WL.det (op_move rfl) rfl rfl rfl ?_
  refine WL.det (op_extract rfl rfl) rfl rfl rfl ?_
  refine WL.det (op_extract rfl rfl) rfl rfl rfl ?_
  refine WL.det (op_extract rfl rfl) rfl rfl rfl ?_
  refine WL.det (op_assign rfl) rfl rfl rfl ?_
  refine WL.det (op_assign rfl) rfl rfl rfl ?_
  refine WL.det (op_assign rfl) rfl rfl rfl ?_
  refine WL.end ?_
  refine NE.code ?_
  refine CE.seq ?_
  refine CE.seq ?_
  refine CE.draw (fun | 19 => some (fun _ wA uA wB => uA = .bool true ∧ Mod [] wA wB) | 25 => some (fun _ wA uA wB => uA = .bool true ∧ Mod [] wA wB) | _ => none) [0, 1, 2, 3, 4, 5, 6, 7, 8, 9, 10, 11, 12, 13, 14, 15, 16, 17, 18, 19, 20, 21, 22, 23, 24, 25, 26, 27, 28, 29, 30, 31, 32, 33, 34] [35, 36, 37] [] (by kernel_rfl) (by kernel_rfl) ?_
  have md1 : Mod [] w23 w23.drew := (Mod.refl _ _).drew
  generalize w23.drew = w24 at md1 ⊢
  refine DR.det (i := 0) rfl rfl (by kernel_rfl) (.free rfl) rfl rfl (fun wD mD => op_move rfl) ?_
  refine DR.det (i := 1) rfl rfl (by kernel_rfl) (.free rfl) rfl rfl (fun wD mD => op_move rfl) ?_
  refine DR.det (i := 2) rfl rfl (by kernel_rfl) (.free rfl) rfl rfl (fun wD mD => op_nei rfl rfl) ?_
  refine DR.det (i := 3) rfl rfl (by kernel_rfl) (.free rfl) rfl rfl (fun wD mD => op_move rfl) ?_
  refine DR.det (i := 4) rfl rfl (by kernel_rfl) (.yes rfl rfl rfl (ltb rfl) rfl rfl) rfl rfl (fun wD mD => op_move rfl) ?_
  refine DR.det (i := 5) rfl rfl (by kernel_rfl) (.yes rfl rfl rfl (ltb rfl) rfl rfl) rfl rfl (fun wD mD => op_nei rfl rfl) ?_
  refine DR.det (i := 6) rfl rfl (by kernel_rfl) (.free rfl) rfl rfl (fun wD mD => op_pick_f rfl rfl rfl) ?_
  refine DR.det (i := 7) rfl rfl (by kernel_rfl) (.free rfl) rfl rfl (fun wD mD => op_move rfl) ?_
  refine DR.det (i := 8) rfl rfl (by kernel_rfl) (.yes rfl rfl rfl (ltb rfl) rfl rfl) rfl rfl (fun wD mD => op_move rfl) ?_
  refine DR.det (i := 9) rfl rfl (by kernel_rfl) (.yes rfl rfl rfl (ltb rfl) rfl rfl) rfl rfl (fun wD mD => op_len rfl Try.runUnderlying59) ?_
  refine DR.det (i := 10) rfl rfl (by kernel_rfl) (.yes rfl rfl rfl (ltb rfl) rfl rfl) rfl rfl (fun wD mD => op_nei rfl rfl) ?_
  refine DR.det (i := 11) rfl rfl (by kernel_rfl) (.free rfl) rfl rfl (fun wD mD => op_pick_f rfl rfl rfl) ?_
  refine DR.det (i := 12) rfl rfl (by kernel_rfl) (.free rfl) rfl rfl (fun wD mD => op_move rfl) ?_
  refine DR.det (i := 13) rfl rfl (by kernel_rfl) (.yes rfl rfl rfl (ltb rfl) rfl rfl) rfl rfl (fun wD mD => op_move rfl) ?_
  refine DR.det (i := 14) rfl rfl (by kernel_rfl) (.yes rfl rfl rfl (ltb rfl) rfl rfl) rfl rfl (fun wD mD => op_indexSl (off' := 0) rfl rfl rfl Try.runUnderlying59 Try.sizeOf33 (by omega) (by omega) rfl) ?_
  refine DR.det (i := 15) rfl rfl (by kernel_rfl) (.yes rfl rfl rfl (ltb rfl) rfl rfl) rfl rfl (fun wD mD => op_loadA (i := 0) (cs := [vS b1'4 0 n'1 c1'4, vI (((zz1.i + 1) % n'1 : Nat) : Int), vI 3, vF ta1, vF 0, vF 0, vF (stepS 3 ta1 0 0 (zz1.t0) (zz1.t1) ((zz1.xs).getD (zz1.i) 0)), vF (stepT 3 ta1 0 0 (zz1.t0) (zz1.t1) ((zz1.xs).getD (zz1.i) 0)), vI 2, vF da1, vF mw1, vF 0, vF (stepS 2 da1 mw1 0 (zz1.d0) (zz1.d1) (stepY 3 ta1 0 0 (zz1.t0) (zz1.t1) ((zz1.xs).getD (zz1.i) 0))), vF (stepT 2 da1 mw1 0 (zz1.d0) (zz1.d1) (stepY 3 ta1 0 0 (zz1.t0) (zz1.t1) ((zz1.xs).getD (zz1.i) 0))), vF lw1]) rfl Try.isAgg33 Try.sizeOf33 (((((r25.ext m21).ext m22).ext m23).ext md1).ext mD).rng rfl rfl rfl) ?_
  refine DR.det (i := 16) rfl rfl (by kernel_rfl) (.yes rfl rfl rfl (ltb rfl) rfl rfl) rfl rfl (fun wD mD => op_move rfl) ?_
  refine DR.det (i := 17) rfl rfl (by kernel_rfl) (.yes rfl rfl rfl (ltb rfl) rfl rfl) rfl rfl (fun wD mD => op_indexSl (off' := 0) rfl rfl rfl Try.runUnderlying59 Try.sizeOf33 (by omega) (by omega) rfl) ?_
  refine DR.det (i := 18) rfl rfl (by kernel_rfl) (.yes rfl rfl rfl (ltb rfl) rfl rfl) rfl rfl (fun wD mD => op_loadA (i := 0) (cs := [vS b1'5 0 n'1 c1'5, vI (((zz1.i + 1) % n'1 : Nat) : Int), vI 3, vF ta1, vF 0, vF 0, vF (stepS 3 ta1 0 0 (zz1.t0) (zz1.t1) ((zz1.xs).getD (zz1.i) 0)), vF (stepT 3 ta1 0 0 (zz1.t0) (zz1.t1) ((zz1.xs).getD (zz1.i) 0)), vI 2, vF da1, vF mw1, vF 0, vF (stepS 2 da1 mw1 0 (zz1.d0) (zz1.d1) (stepY 3 ta1 0 0 (zz1.t0) (zz1.t1) ((zz1.xs).getD (zz1.i) 0))), vF (stepT 2 da1 mw1 0 (zz1.d0) (zz1.d1) (stepY 3 ta1 0 0 (zz1.t0) (zz1.t1) ((zz1.xs).getD (zz1.i) 0))), vF lw1]) rfl Try.isAgg33 Try.sizeOf33 ((r31.ext md1).ext mD).rng rfl rfl rfl) ?_
  refine DR.call (i := 19) (fun uA => uA = .bool true) rfl rfl (by kernel_rfl) (.yes rfl rfl rfl (ltb rfl) rfl rfl) rfl (ltb rfl) ⟨_, rfl⟩ (vs := [.func (.func 20) #[] #[], .agg #[vS b1'4 0 n'1 c1'4, vI (((zz1.i + 1) % n'1 : Nat) : Int), vI 3, vF ta1, vF 0, vF 0, vF (stepS 3 ta1 0 0 (zz1.t0) (zz1.t1) ((zz1.xs).getD (zz1.i) 0)), vF (stepT 3 ta1 0 0 (zz1.t0) (zz1.t1) ((zz1.xs).getD (zz1.i) 0)), vI 2, vF da1, vF mw1, vF 0, vF (stepS 2 da1 mw1 0 (zz1.d0) (zz1.d1) (stepY 3 ta1 0 0 (zz1.t0) (zz1.t1) ((zz1.xs).getD (zz1.i) 0))), vF (stepT 2 da1 mw1 0 (zz1.d0) (zz1.d1) (stepY 3 ta1 0 0 (zz1.t0) (zz1.t1) ((zz1.xs).getD (zz1.i) 0))), vF lw1], .agg #[vS b1'5 0 n'1 c1'5, vI (((zz1.i + 1) % n'1 : Nat) : Int), vI 3, vF ta1, vF 0, vF 0, vF (stepS 3 ta1 0 0 (zz1.t0) (zz1.t1) ((zz1.xs).getD (zz1.i) 0)), vF (stepT 3 ta1 0 0 (zz1.t0) (zz1.t1) ((zz1.xs).getD (zz1.i) 0)), vI 2, vF da1, vF mw1, vF 0, vF (stepS 2 da1 mw1 0 (zz1.d0) (zz1.d1) (stepY 3 ta1 0 0 (zz1.t0) (zz1.t1) ((zz1.xs).getD (zz1.i) 0))), vF (stepT 2 da1 mw1 0 (zz1.d0) (zz1.d1) (stepY 3 ta1 0 0 (zz1.t0) (zz1.t1) ((zz1.xs).getD (zz1.i) 0))), vF lw1]]) rfl (fun wD mD => oc_call (vs := [.agg #[vS b1'4 0 n'1 c1'4, vI (((zz1.i + 1) % n'1 : Nat) : Int), vI 3, vF ta1, vF 0, vF 0, vF (stepS 3 ta1 0 0 (zz1.t0) (zz1.t1) ((zz1.xs).getD (zz1.i) 0)), vF (stepT 3 ta1 0 0 (zz1.t0) (zz1.t1) ((zz1.xs).getD (zz1.i) 0)), vI 2, vF da1, vF mw1, vF 0, vF (stepS 2 da1 mw1 0 (zz1.d0) (zz1.d1) (stepY 3 ta1 0 0 (zz1.t0) (zz1.t1) ((zz1.xs).getD (zz1.i) 0))), vF (stepT 2 da1 mw1 0 (zz1.d0) (zz1.d1) (stepY 3 ta1 0 0 (zz1.t0) (zz1.t1) ((zz1.xs).getD (zz1.i) 0))), vF lw1], .agg #[vS b1'5 0 n'1 c1'5, vI (((zz1.i + 1) % n'1 : Nat) : Int), vI 3, vF ta1, vF 0, vF 0, vF (stepS 3 ta1 0 0 (zz1.t0) (zz1.t1) ((zz1.xs).getD (zz1.i) 0)), vF (stepT 3 ta1 0 0 (zz1.t0) (zz1.t1) ((zz1.xs).getD (zz1.i) 0)), vI 2, vF da1, vF mw1, vF 0, vF (stepS 2 da1 mw1 0 (zz1.d0) (zz1.d1) (stepY 3 ta1 0 0 (zz1.t0) (zz1.t1) ((zz1.xs).getD (zz1.i) 0))), vF (stepT 2 da1 mw1 0 (zz1.d0) (zz1.d1) (stepY 3 ta1 0 0 (zz1.t0) (zz1.t1) ((zz1.xs).getD (zz1.i) 0))), vF lw1]]) (cap := []) rfl rfl rfl Try.call20 (c_SameString n'1 c1'4 b1'4 (zz1.xs.set zz1.i (keptF (fop .add .f32 (fop .mul .f32 (stepY 2 da1 mw1 0 (zz1.d0) (zz1.d1) (stepY 3 ta1 0 0 (zz1.t0) (zz1.t1) ((zz1.xs).getD (zz1.i) 0))) lw1) (fop .add .f32 (plainF xsu nu) (fop .mul .f32 (plainF xsv nv) (fop .add .f32 ((zz1.xs).getD (zz1.i) 0) ((zz1.xs).getD (zz1.i) 0))))))) (((zz1.i + 1) % n'1 : Nat) : Int) (3 : Int) ta1 0 0 (stepS 3 ta1 0 0 (zz1.t0) (zz1.t1) ((zz1.xs).getD (zz1.i) 0)) (stepT 3 ta1 0 0 (zz1.t0) (zz1.t1) ((zz1.xs).getD (zz1.i) 0)) (2 : Int) da1 mw1 0 (stepS 2 da1 mw1 0 (zz1.d0) (zz1.d1) (stepY 3 ta1 0 0 (zz1.t0) (zz1.t1) ((zz1.xs).getD (zz1.i) 0))) (stepT 2 da1 mw1 0 (zz1.d0) (zz1.d1) (stepY 3 ta1 0 0 (zz1.t0) (zz1.t1) ((zz1.xs).getD (zz1.i) 0))) lw1 c1'5 b1'5 (zz1.xs.set zz1.i (keptF (fop .add .f32 (fop .mul .f32 (stepY 2 da1 mw1 0 (zz1.d0) (zz1.d1) (stepY 3 ta1 0 0 (zz1.t0) (zz1.t1) ((zz1.xs).getD (zz1.i) 0))) lw1) (fop .add .f32 (plainF xsu nu) (fop .mul .f32 (plainF xsv nv) (fop .add .f32 ((zz1.xs).getD (zz1.i) 0) ((zz1.xs).getD (zz1.i) 0))))))) h19 h21 (by first | with_reducible exact Cn.refl _ | assumption | exact Cn.eq2 (by assumption) (by assumption)) (by omega) wD (((((r27.ext m21).ext m22).ext m23).ext md1).ext mD).rng ((r33.ext md1).ext mD).rng)) ?_ ?_
  · rintro w1 _ w2 m1 ⟨rfl, m2⟩; exact ⟨rfl, m2⟩
  rintro _ rfl
  refine DR.det (i := 20) rfl rfl (by kernel_rfl) (.yes rfl rfl rfl (ltb rfl) rfl rfl) rfl rfl (fun wD mD => op_not rfl) ?_
  refine DR.det (i := 21) rfl rfl (by kernel_rfl) (.free rfl) rfl rfl (fun wD mD => op_pick_f rfl rfl rfl) ?_
  refine DR.det (i := 22) rfl rfl (by kernel_rfl) (.free rfl) rfl rfl (fun wD mD => op_move rfl) ?_
  refine DR.det (i := 23) rfl rfl (by kernel_rfl) (.yes rfl rfl rfl (ltb rfl) rfl rfl) rfl rfl (fun wD mD => op_move rfl) ?_
  refine DR.det (i := 24) rfl rfl (by kernel_rfl) (.yes rfl rfl rfl (ltb rfl) rfl rfl) rfl rfl (fun wD mD => op_move rfl) ?_
  refine DR.call (i := 25) (fun uA => uA = .bool true) rfl rfl (by kernel_rfl) (.yes rfl rfl rfl (ltb rfl) rfl rfl) rfl (ltb rfl) ⟨_, rfl⟩ (vs := [.func (.func 37) #[] #[], vS f'2 0 2 cf'2, vS f'3 0 2 cf'3]) rfl (fun wD mD => oc_call (vs := [vS f'2 0 2 cf'2, vS f'3 0 2 cf'3]) (cap := []) rfl rfl rfl Try.call37 (c_SameSamplesX 2 cf'2 f'2 [((zz1.xs).getD (zz1.i) 0), ((zz1.xs).getD (zz1.i) 0)] cf'3 f'3 [((zz1.xs).getD (zz1.i) 0), ((zz1.xs).getD (zz1.i) 0)] rfl rfl (by exact Cn.refl _) (by omega) wD (((((r26.ext m21).ext m22).ext m23).ext md1).ext mD).rng ((r32.ext md1).ext mD).rng)) ?_ ?_
  · rintro w1 _ w2 m1 ⟨rfl, m2⟩; exact ⟨rfl, m2⟩
  rintro _ rfl
  refine DR.det (i := 26) rfl rfl (by kernel_rfl) (.yes rfl rfl rfl (ltb rfl) rfl rfl) rfl rfl (fun wD mD => op_not rfl) ?_
  refine DR.det (i := 27) rfl rfl (by kernel_rfl) (.free rfl) rfl rfl (fun wD mD => op_pick_f rfl rfl rfl) ?_
  refine DR.det (i := 28) rfl rfl (by kernel_rfl) (.free rfl) rfl rfl (fun wD mD => op_move rfl) ?_
  refine DR.det (i := 29) rfl rfl (by kernel_rfl) (.yes rfl rfl rfl (ltb rfl) rfl rfl) rfl rfl (fun wD mD => op_move rfl) ?_
  refine DR.det (i := 30) rfl rfl (by kernel_rfl) (.yes rfl rfl rfl (ltb rfl) rfl rfl) rfl rfl (fun wD mD => op_indexSl (off' := 0) rfl rfl rfl Try.runUnderlying59 Try.sizeOf33 (by omega) (by omega) rfl) ?_
  refine DR.det (i := 31) rfl rfl (by kernel_rfl) (.yes rfl rfl rfl (ltb rfl) rfl rfl) rfl rfl (fun wD mD => op_loadA (i := 0) (cs := [vS b1'4 0 n'1 c1'4, vI (((zz1.i + 1) % n'1 : Nat) : Int), vI 3, vF ta1, vF 0, vF 0, vF (stepS 3 ta1 0 0 (zz1.t0) (zz1.t1) ((zz1.xs).getD (zz1.i) 0)), vF (stepT 3 ta1 0 0 (zz1.t0) (zz1.t1) ((zz1.xs).getD (zz1.i) 0)), vI 2, vF da1, vF mw1, vF 0, vF (stepS 2 da1 mw1 0 (zz1.d0) (zz1.d1) (stepY 3 ta1 0 0 (zz1.t0) (zz1.t1) ((zz1.xs).getD (zz1.i) 0))), vF (stepT 2 da1 mw1 0 (zz1.d0) (zz1.d1) (stepY 3 ta1 0 0 (zz1.t0) (zz1.t1) ((zz1.xs).getD (zz1.i) 0))), vF lw1]) rfl Try.isAgg33 Try.sizeOf33 (((((r25.ext m21).ext m22).ext m23).ext md1).ext mD).rng rfl rfl rfl) ?_
  refine DR.det (i := 32) rfl rfl (by kernel_rfl) (.yes rfl rfl rfl (ltb rfl) rfl rfl) rfl rfl (fun wD mD => op_move rfl) ?_
  refine DR.det (i := 33) rfl rfl (by kernel_rfl) (.yes rfl rfl rfl (ltb rfl) rfl rfl) rfl rfl (fun wD mD => op_indexSl (off' := 15) rfl rfl rfl Try.runUnderlying59 Try.sizeOf33 (by omega) (by omega) rfl) ?_
  refine DR.det (i := 34) rfl rfl (by kernel_rfl) (.yes rfl rfl rfl (ltb rfl) rfl rfl) rfl rfl (fun wD mD => op_loadA (i := 15) (cs := [vS b2'2 0 n'1 c2'2, vI (((zz1.i + 1) % n'1 : Nat) : Int), vI 3, vF ta1, vF 0, vF 0, vF (stepS 3 ta1 0 0 (zz1.t0) (zz1.t1) ((zz1.xs).getD (zz1.i) 0)), vF (stepT 3 ta1 0 0 (zz1.t0) (zz1.t1) ((zz1.xs).getD (zz1.i) 0)), vI 2, vF da1, vF mw1, vF 0, vF (stepS 2 da1 mw1 0 (zz1.d0) (zz1.d1) (stepY 3 ta1 0 0 (zz1.t0) (zz1.t1) ((zz1.xs).getD (zz1.i) 0))), vF (stepT 2 da1 mw1 0 (zz1.d0) (zz1.d1) (stepY 3 ta1 0 0 (zz1.t0) (zz1.t1) ((zz1.xs).getD (zz1.i) 0))), vF lw1]) rfl Try.isAgg33 Try.sizeOf33 (((((r25.ext m21).ext m22).ext m23).ext md1).ext mD).rng rfl rfl rfl) ?_
  refine DR.done rfl ?_
  intro w25 m24
  refine WO.call rfl (.yes rfl rfl rfl (ltb rfl) rfl rfl) rfl (ltb rfl) (oc_call (vs := [.agg #[vS b1'4 0 n'1 c1'4, vI (((zz1.i + 1) % n'1 : Nat) : Int), vI 3, vF ta1, vF 0, vF 0, vF (stepS 3 ta1 0 0 (zz1.t0) (zz1.t1) ((zz1.xs).getD (zz1.i) 0)), vF (stepT 3 ta1 0 0 (zz1.t0) (zz1.t1) ((zz1.xs).getD (zz1.i) 0)), vI 2, vF da1, vF mw1, vF 0, vF (stepS 2 da1 mw1 0 (zz1.d0) (zz1.d1) (stepY 3 ta1 0 0 (zz1.t0) (zz1.t1) ((zz1.xs).getD (zz1.i) 0))), vF (stepT 2 da1 mw1 0 (zz1.d0) (zz1.d1) (stepY 3 ta1 0 0 (zz1.t0) (zz1.t1) ((zz1.xs).getD (zz1.i) 0))), vF lw1], .agg #[vS b2'2 0 n'1 c2'2, vI (((zz1.i + 1) % n'1 : Nat) : Int), vI 3, vF ta1, vF 0, vF 0, vF (stepS 3 ta1 0 0 (zz1.t0) (zz1.t1) ((zz1.xs).getD (zz1.i) 0)), vF (stepT 3 ta1 0 0 (zz1.t0) (zz1.t1) ((zz1.xs).getD (zz1.i) 0)), vI 2, vF da1, vF mw1, vF 0, vF (stepS 2 da1 mw1 0 (zz1.d0) (zz1.d1) (stepY 3 ta1 0 0 (zz1.t0) (zz1.t1) ((zz1.xs).getD (zz1.i) 0))), vF (stepT 2 da1 mw1 0 (zz1.d0) (zz1.d1) (stepY 3 ta1 0 0 (zz1.t0) (zz1.t1) ((zz1.xs).getD (zz1.i) 0))), vF lw1]]) (cap := []) rfl rfl rfl Try.call20 (c_SameString n'1 c1'4 b1'4 (zz1.xs.set zz1.i (keptF (fop .add .f32 (fop .mul .f32 (stepY 2 da1 mw1 0 (zz1.d0) (zz1.d1) (stepY 3 ta1 0 0 (zz1.t0) (zz1.t1) ((zz1.xs).getD (zz1.i) 0))) lw1) (fop .add .f32 (plainF xsu nu) (fop .mul .f32 (plainF xsv nv) (fop .add .f32 ((zz1.xs).getD (zz1.i) 0) ((zz1.xs).getD (zz1.i) 0))))))) (((zz1.i + 1) % n'1 : Nat) : Int) (3 : Int) ta1 0 0 (stepS 3 ta1 0 0 (zz1.t0) (zz1.t1) ((zz1.xs).getD (zz1.i) 0)) (stepT 3 ta1 0 0 (zz1.t0) (zz1.t1) ((zz1.xs).getD (zz1.i) 0)) (2 : Int) da1 mw1 0 (stepS 2 da1 mw1 0 (zz1.d0) (zz1.d1) (stepY 3 ta1 0 0 (zz1.t0) (zz1.t1) ((zz1.xs).getD (zz1.i) 0))) (stepT 2 da1 mw1 0 (zz1.d0) (zz1.d1) (stepY 3 ta1 0 0 (zz1.t0) (zz1.t1) ((zz1.xs).getD (zz1.i) 0))) lw1 c2'2 b2'2 (zz1.xs.set zz1.i (keptF (fop .add .f32 (fop .mul .f32 (stepY 2 da1 mw1 0 (zz1.d0) (zz1.d1) (stepY 3 ta1 0 0 (zz1.t0) (zz1.t1) ((zz1.xs).getD (zz1.i) 0))) lw1) (fop .add .f32 (plainF xsu nu) (fop .mul .f32 (plainF xsv nv) (fop .add .f32 ((zz1.xs).getD (zz1.i) 0) ((zz1.xs).getD (zz1.i) 0))))))) h19 h20 (by first | with_reducible exact Cn.refl _ | assumption | exact Cn.eq2 (by assumption) (by assumption)) (by omega) w25 (((((r27.ext m21).ext m22).ext m23).ext md1).ext m24).rng (((((r28.ext m21).ext m22).ext m23).ext md1).ext m24).rng)) ?_
  rintro _ w26 ⟨rfl, m25⟩
  refine WO.det (op_not rfl) rfl (.yes rfl rfl rfl (ltb rfl) rfl rfl) rfl rfl ?_
  refine WO.det (op_pick_f rfl rfl rfl) rfl (.free rfl) rfl rfl ?_
  refine WO.end ?_
  refine NE.code ?_
  refine CE.cond_f rfl rfl ?_
  refine CE.skip' ?_
  refine NE.code ?_
  refine CE.seq ?_
  refine CE.seq ?_
  refine CE.draw (fun _ => none) [0, 1, 2, 3, 4, 5, 6, 7, 8, 9] [10] [] (by kernel_rfl) (by kernel_rfl) ?_
  have md2 : Mod [] w26 w26.drew := (Mod.refl _ _).drew
  generalize w26.drew = w27 at md2 ⊢
  refine DR.det (i := 0) rfl rfl (by kernel_rfl) (.free rfl) rfl rfl (fun wD mD => op_move rfl) ?_
  refine DR.det (i := 1) rfl rfl (by kernel_rfl) (.free rfl) rfl rfl (fun wD mD => op_indexSl (off' := 0) rfl rfl rfl Try.runUnderlying59 Try.sizeOf33 (by omega) (by omega) rfl) ?_
  refine DR.det (i := 2) rfl rfl (by kernel_rfl) (.free rfl) rfl rfl (fun wD mD => op_fieldAddr (off' := 0) rfl Try.runUnderlying33 rfl rfl Try.sizeOf26 rfl) ?_
  refine DR.det (i := 3) rfl rfl (by kernel_rfl) (.free rfl) rfl rfl (fun wD mD => op_fieldAddr (off' := 0) rfl Try.runUnderlying26 rfl rfl Try.sizeOf24 rfl) ?_
  refine DR.det (i := 4) rfl rfl (by kernel_rfl) (.free rfl) rfl rfl (fun wD mD => op_load1 (i := 0) rfl Try.isAgg24 (((((((((((((((((r11.ext m12).ext m13).mod m14 (nC (lE (lL (lL r11.lt m12.size) lR)) nN)).ext m15).ext m16).mod m17 (nC (lE (lL (lL r11.lt (lT (lT (lT m12.size m13.size) m14.size) m15.size)) lR)) nN)).ext m18).ext m19).ext m20).ext m21).ext m22).ext m23).ext md1).ext m24).ext m25).ext md2).ext mD).rng rfl rfl) ?_
  refine DR.det (i := 5) rfl rfl (by kernel_rfl) (.free rfl) rfl rfl (fun wD mD => op_len rfl Try.runUnderlying24) ?_
  refine DR.det (i := 6) rfl rfl (by kernel_rfl) (.free rfl) rfl rfl (fun wD mD => op_fieldAddr (off' := 0) rfl Try.runUnderlying33 rfl rfl Try.sizeOf26 rfl) ?_
  refine DR.det (i := 7) rfl rfl (by kernel_rfl) (.free rfl) rfl rfl (fun wD mD => op_fieldAddr (off' := 0) rfl Try.runUnderlying26 rfl rfl Try.sizeOf24 rfl) ?_
  refine DR.det (i := 8) rfl rfl (by kernel_rfl) (.free rfl) rfl rfl (fun wD mD => op_load1 (i := 0) rfl Try.isAgg24 ((((((((((((((r18.ext m15).ext m16).mod m17 (nC (lE (lL (lL r16.lt (lT m14.size m15.size)) lR)) nN)).ext m18).ext m19).ext m20).ext m21).ext m22).ext m23).ext md1).ext m24).ext m25).ext md2).ext mD).rng rfl rfl) ?_
  refine DR.det (i := 9) rfl rfl (by kernel_rfl) (.free rfl) rfl rfl (fun wD mD => op_len rfl Try.runUnderlying24) ?_
  refine DR.done rfl ?_
  intro w28 m26
  refine WO.det (op_nei_f rfl rfl rfl) rfl (.free rfl) rfl rfl ?_
  refine WO.end ?_
  refine NE.code ?_
  refine CE.cond_f rfl rfl ?_
  refine CE.skip' ?_
  refine NE.code ?_
  refine CE.seq ?_
  refine CE.seq ?_
  refine CE.region ?_
  refine WL.det (op_assign rfl) rfl rfl rfl ?_
  refine WL.end ?_
  refine NE.code ?_
  have hX9 := br_zero (plain_pl xsu nu) ((WayB.x (by assumption : WayB n'1 zz1 21) zz1.i).mono (show 21 ≤ 40 by omega)) ((WayB.x (by assumption : WayB n'2 zz2 21) zz2.i).mono (show 21 ≤ 40 by omega))
  have hB9 : ∀ j, Bd ((zz1.xs.set zz1.i (keptF (fop .add .f32 (fop .mul .f32 (stepY 2 da1 mw1 0 (zz1.d0) (zz1.d1) (stepY 3 ta1 0 0 (zz1.t0) (zz1.t1) ((zz1.xs).getD (zz1.i) 0))) lw1) (plainF xsu nu)))).getD j 0) 25 := (WayB.next (by assumption : WayB n'1 zz1 21) (by assumption : StrB n'1 ta1 da1 mw1 lw1) ((plain_pl xsu nu).bd.mono (by omega)) (by omega)).x
  refine CE.block ?_
  refine CE.loop (fun (i : Nat) => [(24, vI ((i : Nat) : Int)), (4, .bool false), (9, vS e'1 0 2 ce'1), (12, vP w12.heap.size 0), (15, vP w15.heap.size 0)]) (fun (i : Nat) => fun W => (i ≤ n'1) ∧ Mod [] w28 W) (fun (i : Nat) => n'1 - i) 0 (⟨rfl, rfl, rfl, rfl, rfl, trivial⟩) ⟨(by omega), Mod.refl _ _⟩ ?_
  rintro i w29 ⟨hi, m27⟩
  show CE _ _ _ _ [(24, vI ((i : Nat) : Int)), (4, .bool false), (9, vS e'1 0 2 ce'1), (12, vP w12.heap.size 0), (15, vP w15.heap.size 0)] _
  refine CE.seq ?_
  refine CE.seq ?_
  refine CE.region ?_
  refine WL.det (op_move rfl) rfl rfl rfl ?_
  refine WL.det (op_fieldAddr (off' := 0) rfl Try.runUnderlying33 rfl rfl Try.sizeOf26 rfl) rfl rfl rfl ?_
  refine WL.det (op_fieldAddr (off' := 0) rfl Try.runUnderlying26 rfl rfl Try.sizeOf24 rfl) rfl rfl rfl ?_
  refine WL.det (op_load1 (i := 0) rfl Try.isAgg24 (((((((((((((((r18.ext m15).ext m16).mod m17 (nC (lE (lL (lL r16.lt (lT m14.size m15.size)) lR)) nN)).ext m18).ext m19).ext m20).ext m21).ext m22).ext m23).ext md1).ext m24).ext m25).ext md2).ext m26).ext m27).rng rfl rfl) rfl rfl rfl ?_
  refine WL.det (op_len rfl Try.runUnderlying24) rfl rfl rfl ?_
  refine WL.det (op_lti rfl rfl) rfl rfl rfl ?_
  refine WL.end ?_
  refine NE.code ?_
  rcases Bool.eq_false_or_eq_true (decide (((i : Nat) : Int) < ((n'1 : Nat) : Int))) with hb1 | hb1
  · have hp1 := of_decide_eq_true hb1
    refine CE.cond_t rfl hb1 ?_
    refine CE.skip' ?_
    refine NE.code ?_
    refine CE.seq ?_
    refine CE.block ?_
    refine CE.seq ?_
    refine CE.draw (fun _ => none) [0, 1, 2, 3, 4, 5, 6, 7, 8, 9, 10, 11, 12, 13, 14, 15, 16, 17, 18, 19, 20, 21, 22, 23, 24, 25, 26, 27] [28, 29] [] (by kernel_rfl) (by kernel_rfl) ?_
    have md3 : Mod [] w29 w29.drew := (Mod.refl _ _).drew
    generalize w29.drew = w30 at md3 ⊢
    refine DR.det (i := 0) rfl rfl (by kernel_rfl) (.free rfl) rfl rfl (fun wD mD => op_move rfl) ?_
    refine DR.det (i := 1) rfl rfl (by kernel_rfl) (.free rfl) rfl rfl (fun wD mD => op_indexSl (off' := 0) rfl rfl rfl Try.runUnderlying59 Try.sizeOf33 (by omega) (by omega) rfl) ?_
    refine DR.det (i := 2) rfl rfl (by kernel_rfl) (.free rfl) rfl rfl (fun wD mD => op_fieldAddr (off' := 0) rfl Try.runUnderlying33 rfl rfl Try.sizeOf26 rfl) ?_
    refine DR.det (i := 3) rfl rfl (by kernel_rfl) (.free rfl) rfl rfl (fun wD mD => op_fieldAddr (off' := 0) rfl Try.runUnderlying26 rfl rfl Try.sizeOf24 rfl) ?_
    refine DR.det (i := 4) rfl rfl (by kernel_rfl) (.free rfl) rfl rfl (fun wD mD => op_load1 (i := 0) rfl Try.isAgg24 ((((((((((((((((((((r11.ext m12).ext m13).mod m14 (nC (lE (lL (lL r11.lt m12.size) lR)) nN)).ext m15).ext m16).mod m17 (nC (lE (lL (lL r11.lt (lT (lT (lT m12.size m13.size) m14.size) m15.size)) lR)) nN)).ext m18).ext m19).ext m20).ext m21).ext m22).ext m23).ext md1).ext m24).ext m25).ext md2).ext m26).ext m27).ext md3).ext mD).rng rfl rfl) ?_
    refine DR.det (i := 5) rfl rfl (by kernel_rfl) (.free rfl) rfl rfl (fun wD mD => op_move rfl) ?_
    refine DR.det (i := 6) rfl rfl (by kernel_rfl) (.free rfl) rfl rfl (fun wD mD => op_indexSl (off' := 0 + i) rfl rfl rfl Try.runUnderlying24 Try.sizeOf27 (by omega) (by omega) (by omega)) ?_
    refine DR.det (i := 7) rfl rfl (by kernel_rfl) (.free rfl) rfl rfl (fun wD mD => op_load1 (i := i) rfl Try.isAgg27 ((((((((((((((((((((r13.ext m12).ext m13).mod m14 (nC (lE (lL (lL r13.lt m12.size) lR)) nN)).ext m15).ext m16).mod m17 (nC (lE (lL (lL r13.lt (lT (lT (lT m12.size m13.size) m14.size) m15.size)) lR)) nN)).ext m18).ext m19).ext m20).ext m21).ext m22).ext m23).ext md1).ext m24).ext m25).ext md2).ext m26).ext m27).ext md3).ext mD).rng rfl (fl_get (by have eL : List.length (zz1.xs.set zz1.i (keptF (fop .add .f32 (fop .mul .f32 (stepY 2 da1 mw1 0 (zz1.d0) (zz1.d1) (stepY 3 ta1 0 0 (zz1.t0) (zz1.t1) ((zz1.xs).getD (zz1.i) 0))) lw1) (fop .add .f32 (plainF xsu nu) (fop .mul .f32 0 (fop .add .f32 ((zz1.xs).getD (zz1.i) 0) ((zz2.xs).getD (zz2.i) 0))))))) = n'1 := h15; omega))) ?_
    refine DR.det (i := 8) rfl rfl (by kernel_rfl) (.free rfl) rfl rfl (fun wD mD => op_fieldAddr (off' := 0) rfl Try.runUnderlying33 rfl rfl Try.sizeOf26 rfl) ?_
    refine DR.det (i := 9) rfl rfl (by kernel_rfl) (.free rfl) rfl rfl (fun wD mD => op_fieldAddr (off' := 0) rfl Try.runUnderlying26 rfl rfl Try.sizeOf24 rfl) ?_
    refine DR.det (i := 10) rfl rfl (by kernel_rfl) (.free rfl) rfl rfl (fun wD mD => op_load1 (i := 0) rfl Try.isAgg24 (((((((((((((((((r18.ext m15).ext m16).mod m17 (nC (lE (lL (lL r16.lt (lT m14.size m15.size)) lR)) nN)).ext m18).ext m19).ext m20).ext m21).ext m22).ext m23).ext md1).ext m24).ext m25).ext md2).ext m26).ext m27).ext md3).ext mD).rng rfl rfl) ?_
    refine DR.det (i := 11) rfl rfl (by kernel_rfl) (.free rfl) rfl rfl (fun wD mD => op_move rfl) ?_
    refine DR.det (i := 12) rfl rfl (by kernel_rfl) (.free rfl) rfl rfl (fun wD mD => op_indexSl (off' := 0 + i) rfl rfl rfl Try.runUnderlying24 Try.sizeOf27 (by omega) (by omega) (by omega)) ?_
    refine DR.det (i := 13) rfl rfl (by kernel_rfl) (.free rfl) rfl rfl (fun wD mD => op_load1 (i := i) rfl Try.isAgg27 (((((((((((((((((((r15.ext m13).mod m14 (nC (lE (lL r15.lt lR)) nN)).ext m15).ext m16).mod m17 (nC (lE (lL (lL r15.lt (lT (lT m13.size m14.size) m15.size)) lR)) nN)).ext m18).ext m19).ext m20).ext m21).ext m22).ext m23).ext md1).ext m24).ext m25).ext md2).ext m26).ext m27).ext md3).ext mD).rng rfl (fl_get (by have eL : List.length (zz1.xs.set zz1.i (keptF (fop .add .f32 (fop .mul .f32 (stepY 2 da1 mw1 0 (zz1.d0) (zz1.d1) (stepY 3 ta1 0 0 (zz1.t0) (zz1.t1) ((zz1.xs).getD (zz1.i) 0))) lw1) (plainF xsu nu)))) = n'1 := h17; omega))) ?_
    refine DR.det (i := 14) rfl rfl (by kernel_rfl) (.free rfl) rfl rfl (fun wD mD => op_fne (c := !(fEq .f32 ((zz1.xs.set zz1.i (keptF (fop .add .f32 (fop .mul .f32 (stepY 2 da1 mw1 0 (zz1.d0) (zz1.d1) (stepY 3 ta1 0 0 (zz1.t0) (zz1.t1) ((zz1.xs).getD (zz1.i) 0))) lw1) (fop .add .f32 (plainF xsu nu) (fop .mul .f32 0 (fop .add .f32 ((zz1.xs).getD (zz1.i) 0) ((zz2.xs).getD (zz2.i) 0))))))).getD i 0) ((zz1.xs.set zz1.i (keptF (fop .add .f32 (fop .mul .f32 (stepY 2 da1 mw1 0 (zz1.d0) (zz1.d1) (stepY 3 ta1 0 0 (zz1.t0) (zz1.t1) ((zz1.xs).getD (zz1.i) 0))) lw1) (plainF xsu nu)))).getD i 0))) rfl rfl rfl rfl rfl) ?_
    refine DR.det (i := 15) rfl rfl (by kernel_rfl) (.free rfl) rfl rfl (fun wD mD => op_move rfl) ?_
    refine DR.skip (i := 16) rfl (by kernel_rfl) (.no rfl rfl rfl (ltb rfl) rfl (bnot_t (by rw [hX9]; exact bd_eq (hB9 i) (by omega)))) rfl (ltb rfl) ?_
    refine DR.skip (i := 17) rfl (by kernel_rfl) (.no rfl rfl rfl (ltb rfl) rfl (bnot_t (by rw [hX9]; exact bd_eq (hB9 i) (by omega)))) rfl (ltb rfl) ?_
    refine DR.skip (i := 18) rfl (by kernel_rfl) (.no rfl rfl rfl (ltb rfl) rfl (bnot_t (by rw [hX9]; exact bd_eq (hB9 i) (by omega)))) rfl (ltb rfl) ?_
    refine DR.skip (i := 19) rfl (by kernel_rfl) (.no rfl rfl rfl (ltb rfl) rfl (bnot_t (by rw [hX9]; exact bd_eq (hB9 i) (by omega)))) rfl (ltb rfl) ?_
    refine DR.skip (i := 20) rfl (by kernel_rfl) (.no rfl rfl rfl (ltb rfl) rfl (bnot_t (by rw [hX9]; exact bd_eq (hB9 i) (by omega)))) rfl (ltb rfl) ?_
    refine DR.skip (i := 21) rfl (by kernel_rfl) (.no rfl rfl rfl (ltb rfl) rfl (bnot_t (by rw [hX9]; exact bd_eq (hB9 i) (by omega)))) rfl (ltb rfl) ?_
    refine DR.skip (i := 22) rfl (by kernel_rfl) (.no rfl rfl rfl (ltb rfl) rfl (bnot_t (by rw [hX9]; exact bd_eq (hB9 i) (by omega)))) rfl (ltb rfl) ?_
    refine DR.skip (i := 23) rfl (by kernel_rfl) (.no rfl rfl rfl (ltb rfl) rfl (bnot_t (by rw [hX9]; exact bd_eq (hB9 i) (by omega)))) rfl (ltb rfl) ?_
    refine DR.skip (i := 24) rfl (by kernel_rfl) (.no rfl rfl rfl (ltb rfl) rfl (bnot_t (by rw [hX9]; exact bd_eq (hB9 i) (by omega)))) rfl (ltb rfl) ?_
    refine DR.skip (i := 25) rfl (by kernel_rfl) (.no rfl rfl rfl (ltb rfl) rfl (bnot_t (by rw [hX9]; exact bd_eq (hB9 i) (by omega)))) rfl (ltb rfl) ?_
    refine DR.skip (i := 26) rfl (by kernel_rfl) (.no rfl rfl rfl (ltb rfl) rfl (bnot_t (by rw [hX9]; exact bd_eq (hB9 i) (by omega)))) rfl (ltb rfl) ?_
    refine DR.skip (i := 27) rfl (by kernel_rfl) (.no rfl rfl rfl (ltb rfl) rfl (bnot_t (by rw [hX9]; exact bd_eq (hB9 i) (by omega)))) rfl (ltb rfl) ?_
    refine DR.done rfl ?_
    intro w31 m28
    refine WO.skip rfl (.no rfl rfl rfl (ltb rfl) rfl (bnot_t (by rw [hX9]; exact bd_eq (hB9 i) (by omega)))) rfl (ltb rfl) ?_
    refine WO.det (op_pick_f rfl (bnot_t (by rw [hX9]; exact bd_eq (hB9 i) (by omega))) rfl) rfl (.free rfl) rfl rfl ?_
    refine WO.end ?_
    refine NE.code ?_
    refine CE.cond_f rfl rfl ?_
    refine CE.skip' ?_
    refine NE.blk ?_
    refine NE.code ?_
    refine CE.region ?_
    refine WL.det (op_move rfl) rfl rfl rfl ?_
    refine WL.det (op_add (r := ((i + 1 : Nat) : Int)) rfl rfl (w_i64 (by omega) (by omega))) rfl rfl rfl ?_
    refine WL.det (op_assign rfl) rfl rfl rfl ?_
    refine WL.end ?_
    exact NE.again (i + 1) (⟨rfl, rfl, rfl, rfl, rfl, trivial⟩) ⟨(by omega), ((m27.nt md3).nt m28)⟩ (by first | (dsimp only; omega) | omega)
  · have hp1 := of_decide_eq_false hb1
    refine CE.cond_f rfl hb1 ?_
    refine CE.exit' ?_
    refine XE.exit_then ?_
    refine XE.exit_then ?_
    refine XE.exit_here ?_
    refine NE.code ?_
    refine CE.seq ?_
    refine CE.draw (fun _ => none) [0, 1, 2, 3, 4, 5, 6, 7, 8, 9] [10, 11] [] (by kernel_rfl) (by kernel_rfl) ?_
    have md4 : Mod [] w29 w29.drew := (Mod.refl _ _).drew
    generalize w29.drew = w32 at md4 ⊢
    refine DR.det (i := 0) rfl rfl (by kernel_rfl) (.free rfl) rfl rfl (fun wD mD => op_move rfl) ?_
    refine DR.det (i := 1) rfl rfl (by kernel_rfl) (.free rfl) rfl rfl (fun wD mD => op_indexSl (off' := 15) rfl rfl rfl Try.runUnderlying59 Try.sizeOf33 (by omega) (by omega) rfl) ?_
    refine DR.det (i := 2) rfl rfl (by kernel_rfl) (.free rfl) rfl rfl (fun wD mD => op_fieldAddr (off' := 15) rfl Try.runUnderlying33 rfl rfl Try.sizeOf26 rfl) ?_
    refine DR.det (i := 3) rfl rfl (by kernel_rfl) (.free rfl) rfl rfl (fun wD mD => op_fieldAddr (off' := 15) rfl Try.runUnderlying26 rfl rfl Try.sizeOf24 rfl) ?_
    refine DR.det (i := 4) rfl rfl (by kernel_rfl) (.free rfl) rfl rfl (fun wD mD => op_load1 (i := 15) rfl Try.isAgg24 ((((((((((((((((((((r11.ext m12).ext m13).mod m14 (nC (lE (lL (lL r11.lt m12.size) lR)) nN)).ext m15).ext m16).mod m17 (nC (lE (lL (lL r11.lt (lT (lT (lT m12.size m13.size) m14.size) m15.size)) lR)) nN)).ext m18).ext m19).ext m20).ext m21).ext m22).ext m23).ext md1).ext m24).ext m25).ext md2).ext m26).ext m27).ext md4).ext mD).rng rfl rfl) ?_
    refine DR.det (i := 5) rfl rfl (by kernel_rfl) (.free rfl) rfl rfl (fun wD mD => op_len rfl Try.runUnderlying24) ?_
    refine DR.det (i := 6) rfl rfl (by kernel_rfl) (.free rfl) rfl rfl (fun wD mD => op_fieldAddr (off' := 0) rfl Try.runUnderlying33 rfl rfl Try.sizeOf26 rfl) ?_
    refine DR.det (i := 7) rfl rfl (by kernel_rfl) (.free rfl) rfl rfl (fun wD mD => op_fieldAddr (off' := 0) rfl Try.runUnderlying26 rfl rfl Try.sizeOf24 rfl) ?_
    refine DR.det (i := 8) rfl rfl (by kernel_rfl) (.free rfl) rfl rfl (fun wD mD => op_load1 (i := 0) rfl Try.isAgg24 ((((((((((((((r22.ext m18).ext m19).ext m20).ext m21).ext m22).ext m23).ext md1).ext m24).ext m25).ext md2).ext m26).ext m27).ext md4).ext mD).rng rfl rfl) ?_
    refine DR.det (i := 9) rfl rfl (by kernel_rfl) (.free rfl) rfl rfl (fun wD mD => op_len rfl Try.runUnderlying24) ?_
    refine DR.done rfl ?_
    intro w33 m29
    refine WO.det (op_eqi_t rfl rfl rfl) rfl (.free rfl) rfl rfl ?_
    refine WO.det (op_assign rfl) rfl (.free rfl) rfl rfl ?_
    refine WO.end ?_
    refine NE.code ?_
    refine CE.ret' ?_
    refine XE.leave1 Try.results6 rfl ?_
    refine ⟨rfl, ((((((((((((((((((((((((((((((((Mod.refl [] w).nt m1).nt m2).then m3 ((aC (.inr (lT m1.size lR)) aN))).nt m4).nt m5).then m6 ((aC (.inr (lT (lT (lT (lT m1.size m2.size) m3.size) m4.size) lR)) aN))).nt m7).nt m8).nt m9).nt m10).nt m11).nt m12).nt m13).then m14 ((aC (.inr (lT (lT (lT (lT (lT (lT (lT (lT (lT (lT (lT (lT m1.size m2.size) m3.size) m4.size) m5.size) m6.size) m7.size) m8.size) m9.size) m10.size) m11.size) m12.size) lR)) aN))).nt m15).nt m16).then m17 ((aC (.inr (lT (lT (lT (lT (lT (lT (lT (lT (lT (lT (lT (lT (lT (lT (lT m1.size m2.size) m3.size) m4.size) m5.size) m6.size) m7.size) m8.size) m9.size) m10.size) m11.size) m12.size) m13.size) m14.size) m15.size) lR)) aN))).nt m18).nt m19).nt m20).nt m21).nt m22).nt m23).nt md1).nt m24).nt m25).nt md2).nt m26).nt m27).nt md4).nt m29)⟩

end Go.Proofs.Ytabfdgpldcegiaa
