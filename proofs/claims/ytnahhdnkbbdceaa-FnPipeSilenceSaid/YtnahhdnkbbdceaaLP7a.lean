/- The law on the silence of pipes, walked (b1, b2, good). -/
import Derived.Test.YtnahhdnkbbdceaaN3
import Derived.Test.YtnahhdnkbbdceaaE8
import Derived.Test.YtnahhdnkbbdceaaE14
import Derived.Test.YtnahhdnkbbdceaaE20
set_option linter.unusedVariables false
set_option linter.unusedSimpArgs false
set_option maxRecDepth 100000
set_option maxHeartbeats 8000000
namespace Go.Proofs.Ytnahhdnkbbdceaa

theorem law_psil_b1 (nu : Nat) (cu : Nat) (Au : Option Addr) (bu : Nat) (ou : Nat) (xsu : List Nat) (nv : Nat) (cv : Nat) (Av : Option Addr) (bv : Nat) (ov : Nat) (xsv : List Nat) (lnu : xsu.length = nu) (hAu : 0 < nu → Au = some ⟨bu, ou, none⟩) (hBu : ∀ i, xsu.getD i 0 < 256) (lnv : xsv.length = nv) (hAv : 0 < nv → Av = some ⟨bv, ov, none⟩) (hBv : ∀ i, xsv.getD i 0 < 256) (hnu : 4096 < nu) (w : World) (ru : Rng w bu ou (bys xsu)) (rv : Rng w bv ov (bys xsv)) : Cl Try.prog 3 #[.slice Au nu cu, .slice Av nv cv] w fun v w' => v = .bool true ∧ Mod [] w w' := by
 refine Cl.of Try.func3 Try.ntmps3 rfl rfl (ρ := [(0, .slice Au nu cu), (1, .slice Av nv cv)]) rfl ?_
 refine CE.seq (CE.region ?_)
 refine WL.det (op_assign rfl) rfl rfl rfl ?_
 refine WL.end (NE.code (CE.seq (CE.seq (CE.region ?_))))
 refine WL.det (op_move rfl) rfl rfl rfl ?_
 refine WL.call (oc_call (vs := [.slice Au nu cu]) (cap := []) rfl rfl rfl Try.call13 (c_f6big nu cu Au w)) rfl rfl (ltb rfl) ?_
 rintro _ _ ⟨rfl, rfl⟩
 refine WL.det (op_move rfl) rfl rfl rfl ?_
 iterate 2 refine WL.no rfl rfl rfl (ltb rfl) rfl (decide_eq_true (by omega)) rfl (ltb rfl) ?_
 refine WL.det (op_pick_t rfl (decide_eq_true (by omega)) rfl) rfl rfl rfl ?_
 refine WL.end (NE.code ?_)
 refine CE.cond_t rfl rfl ?_
 refine CE.seq (CE.region ?_)
 refine WL.det (op_assign rfl) rfl rfl rfl ?_
 refine WL.end (NE.code (CE.ret' (XE.ret_then ?_)))
 refine XE.leave1 Try.results3 rfl ?_
 refine ⟨rfl, (Mod.refl [] w)⟩

theorem law_psil_b2 (nu : Nat) (cu : Nat) (Au : Option Addr) (bu : Nat) (ou : Nat) (xsu : List Nat) (nv : Nat) (cv : Nat) (Av : Option Addr) (bv : Nat) (ov : Nat) (xsv : List Nat) (lnu : xsu.length = nu) (hAu : 0 < nu → Au = some ⟨bu, ou, none⟩) (hBu : ∀ i, xsu.getD i 0 < 256) (lnv : xsv.length = nv) (hAv : 0 < nv → Av = some ⟨bv, ov, none⟩) (hBv : ∀ i, xsv.getD i 0 < 256) (hnu : nu ≤ 4096) (hnv : 4096 < nv) (w : World) (ru : Rng w bu ou (bys xsu)) (rv : Rng w bv ov (bys xsv)) : Cl Try.prog 3 #[.slice Au nu cu, .slice Av nv cv] w fun v w' => v = .bool true ∧ Mod [] w w' := by
 refine Cl.of Try.func3 Try.ntmps3 rfl rfl (ρ := [(0, .slice Au nu cu), (1, .slice Av nv cv)]) rfl ?_
 refine CE.seq (CE.region ?_)
 refine WL.det (op_assign rfl) rfl rfl rfl ?_
 refine WL.end (NE.code (CE.seq (CE.seq (CE.region ?_))))
 refine WL.det (op_move rfl) rfl rfl rfl ?_
 refine WL.call (oc_call (vs := [.slice Au nu cu]) (cap := []) rfl rfl rfl Try.call13 (c_f6big nu cu Au w)) rfl rfl (ltb rfl) ?_
 rintro _ _ ⟨rfl, rfl⟩
 refine WL.det (op_move rfl) rfl rfl rfl ?_
 refine WL.yes rfl rfl rfl (ltb rfl) rfl (decide_eq_false (by omega)) ?_
 refine WL.det (op_move rfl) rfl rfl rfl ?_
 refine WL.yes rfl rfl rfl (ltb rfl) rfl (decide_eq_false (by omega)) ?_
 refine WL.call (oc_call (vs := [.slice Av nv cv]) (cap := []) rfl rfl rfl Try.call13 (c_f6big nv cv Av w)) rfl rfl (ltb rfl) ?_
 rintro _ _ ⟨rfl, rfl⟩
 refine WL.det (op_pick_f rfl (decide_eq_false (by omega)) rfl) rfl rfl rfl ?_
 refine WL.end (NE.code ?_)
 refine CE.cond_t rfl (decide_eq_true (by omega)) ?_
 refine CE.seq (CE.region ?_)
 refine WL.det (op_assign rfl) rfl rfl rfl ?_
 refine WL.end (NE.code (CE.ret' (XE.ret_then ?_)))
 refine XE.leave1 Try.results3 rfl ?_
 refine ⟨rfl, (Mod.refl [] w)⟩

theorem law_psil (nu : Nat) (cu : Nat) (Au : Option Addr) (bu : Nat) (ou : Nat) (xsu : List Nat) (nv : Nat) (cv : Nat) (Av : Option Addr) (bv : Nat) (ov : Nat) (xsv : List Nat) (lnu : xsu.length = nu) (hAu : 0 < nu → Au = some ⟨bu, ou, none⟩) (hBu : ∀ i, xsu.getD i 0 < 256) (lnv : xsv.length = nv) (hAv : 0 < nv → Av = some ⟨bv, ov, none⟩) (hBv : ∀ i, xsv.getD i 0 < 256) (hnu : nu ≤ 4096) (hnv : nv ≤ 4096) (w : World) (ru : Rng w bu ou (bys xsu)) (rv : Rng w bv ov (bys xsv)) : Cl Try.prog 3 #[.slice Au nu cu, .slice Av nv cv] w fun v w' => v = .bool true ∧ Mod [] w w' := by
 refine Cl.of Try.func3 Try.ntmps3 rfl rfl (ρ := [(0, .slice Au nu cu), (1, .slice Av nv cv)]) rfl ?_
 refine CE.seq (CE.region ?_)
 refine WL.det (op_assign rfl) rfl rfl rfl ?_
 refine WL.end (NE.code (CE.seq (CE.seq (CE.region ?_))))
 refine WL.det (op_move rfl) rfl rfl rfl ?_
 refine WL.call (oc_call (vs := [.slice Au nu cu]) (cap := []) rfl rfl rfl Try.call13 (c_f6big nu cu Au w)) rfl rfl (ltb rfl) ?_
 rintro _ _ ⟨rfl, rfl⟩
 refine WL.det (op_move rfl) rfl rfl rfl ?_
 refine WL.yes rfl rfl rfl (ltb rfl) rfl (decide_eq_false (by omega)) ?_
 refine WL.det (op_move rfl) rfl rfl rfl ?_
 refine WL.yes rfl rfl rfl (ltb rfl) rfl (decide_eq_false (by omega)) ?_
 refine WL.call (oc_call (vs := [.slice Av nv cv]) (cap := []) rfl rfl rfl Try.call13 (c_f6big nv cv Av w)) rfl rfl (ltb rfl) ?_
 rintro _ _ ⟨rfl, rfl⟩
 refine WL.det (op_pick_f rfl (decide_eq_false (by omega)) rfl) rfl rfl rfl ?_
 refine WL.end (NE.code ?_)
 refine CE.cond_f rfl (decide_eq_false (by omega)) ?_
 refine CE.skip' (NE.code (CE.seq (CE.region ?_)))
 refine WL.det (op_move rfl) rfl rfl rfl ?_
 refine WL.call (oc_call (vs := [.slice Au nu cu, vI 6]) (cap := []) rfl rfl rfl Try.call14 (c_P6Pick nu cu Au bu ou xsu 6 lnu hAu hBu (by omega) (by omega) (by omega) w ru)) rfl rfl (ltb rfl) ?_
 rintro _ w1 ⟨u1, rfl, h1, m1⟩
 refine WL.det (op_add (r := ((1 + u1 : Nat) : Int)) rfl rfl (w_i64 (by omega) (by omega))) rfl rfl rfl ?_
 refine WL.det (op_assign rfl) rfl rfl rfl ?_
 refine WL.end (NE.code (CE.seq (CE.region ?_)))
 refine WL.det (op_move rfl) rfl rfl rfl ?_
 refine WL.op (op_buildSl (qs := [(0, vI ((1 + u1 : Nat) : Int))]) (cells := #[vI ((1 + u1 : Nat) : Int)]) rfl Try.runUnderlying36 Try.sizeOf2 Try.zeroValue2 (by decide) (by decide) (by kernel_rfl)) rfl rfl (ltb rfl) ?_
 rintro _ w2 ⟨rfl, r1, m2, z1⟩
 refine WL.op (op_emptySl rfl Try.runUnderlying26 Try.sizeOf27) rfl rfl (ltb rfl) ?_
 rintro _ w3 ⟨rfl, r2, m3, z2⟩
 refine WL.det (op_move rfl) rfl rfl rfl ?_
 refine WL.det (op_rem (r := (((1 + u1) % 2 : Nat) : Int)) rfl rfl (by omega) rfl) rfl rfl rfl ?_
 refine WL.det (op_eqi rfl rfl) rfl rfl rfl ?_
 refine WL.det (op_move rfl) rfl rfl rfl ?_
 have r3 := (((rv.ext m1).ext m2).ext m3)
 refine WL.call (oc_call (vs := [.slice Av nv cv, vI 7]) (cap := []) rfl rfl rfl Try.call14 (c_P6Pick nv cv Av bv ov xsv 7 lnv hAv hBv (by omega) (by omega) (by omega) w3 r3)) rfl rfl (ltb rfl) ?_
 rintro _ w4 ⟨u2, rfl, h2, m4⟩
 refine WL.det (op_cvt_if rfl Try.runUnderlying2 Try.runUnderlying27) rfl rfl rfl ?_
 refine WL.op (op_farith (e := (fop .quo .f32 (FloatKind.f32.nearest ((u2 : Nat) : Int)) 1090519040)) (.inr (.inr (.inr rfl))) rfl rfl rfl rfl rfl) rfl rfl (ltb rfl) ?_
 rintro _ w5 ⟨⟨f1, rfl, hf1, lf1⟩, m5⟩
 have r4 := (((r1.ext m3).ext m4).ext m5)
 refine WL.call (oc_call (vs := [vS w1.heap.size 0 1 1, vS w2.heap.size 0 0 0, .bool ((((1 + u1) % 2 : Nat) : Int) == (0 : Int)), vF f1, vF 1061158912]) (cap := []) rfl rfl rfl Try.call15 (c_sNewN (1 + u1) 1 w1.heap.size 0 w2.heap.size ((((1 + u1) % 2 : Nat) : Int) == (0 : Int)) f1 (by omega) (by omega) lf1 (by exact ⟨_, by assumption, by assumption⟩) w5 r4.rng ((r2.ext m4).ext m5).rng)) rfl rfl (ltb rfl) ?_
 rintro _ w6 ⟨bR'1, cR'1, PR'1, bL'1, cL'1, PL'1, bS'1, cS'1, r_1, zz1, rfl, h3, h4, h5, h6, h7, h8, r5, r6, r7, ge1, ge2, ge3, ne1, ne2, ne3, fm1, fn1, fn2, fn3, fn4, fm2, fn5, fn6, fn7, m6⟩
 refine WL.det (op_move rfl) rfl rfl rfl ?_
 iterate 2 refine WL.det (op_extract rfl rfl) rfl rfl rfl ?_
 refine WL.op (op_alloc (cs := [.slice none 0 0, .slice none 0 0, .slice none 0 0, vI 0, vF 0, vF 0, vF 0, vF 0, vF 0, .bool false, vF 0, vF 0, vF 0]) Try.zeroValue33 rfl) rfl rfl (ltb rfl) ?_
 rintro _ w7 ⟨rfl, r8, m7, z3⟩
 refine WL.op0 (op_store (i := 0) (cs := [vS bR'1 0 1 cR'1, vS bL'1 0 1 cL'1, vS bS'1 0 0 cS'1, vI 1, vF r_1, vF f1, vF 0, vF (zz1.s0), vF (zz1.s1), .bool ((((1 + u1) % 2 : Nat) : Int) == (0 : Int)), vF 1061158912, vF 1061158912, vF 3200253952]) rfl rfl rfl Try.sizeOf33 rfl r8 rfl (lB rfl) rfl) rfl rfl ?_
 rintro _ w8 ⟨r9, m8, z4⟩
 have r10 : Row w8 w6.heap.size 0 [vS bR'1 0 1 cR'1, vS bL'1 0 1 cL'1, vS bS'1 0 0 cS'1, vI 1, vF r_1, vF f1, vF 0, vF (zz1.s0), vF (zz1.s1), .bool ((((1 + u1) % 2 : Nat) : Int) == (0 : Int)), vF 1061158912, vF 1061158912, vF 3200253952] := Row.congr r9 rfl
 refine WL.det (op_assign rfl) rfl rfl rfl ?_
 refine WL.end (NE.code (CE.seq (CE.region ?_)))
 refine WL.det (op_loadA (i := 0) (cs := [vS bR'1 0 1 cR'1, vS bL'1 0 1 cL'1, vS bS'1 0 0 cS'1, vI 1, vF r_1, vF f1, vF 0, vF (zz1.s0), vF (zz1.s1), .bool ((((1 + u1) % 2 : Nat) : Int) == (0 : Int)), vF 1061158912, vF 1061158912, vF 3200253952]) rfl Try.isAgg33 Try.sizeOf33 r10.rng rfl rfl rfl) rfl rfl rfl ?_
 refine WL.call (oc_call (vs := [.agg #[vS bR'1 0 1 cR'1, vS bL'1 0 1 cL'1, vS bS'1 0 0 cS'1, vI 1, vF r_1, vF f1, vF 0, vF (zz1.s0), vF (zz1.s1), .bool ((((1 + u1) % 2 : Nat) : Int) == (0 : Int)), vF 1061158912, vF 1061158912, vF 3200253952], vF 0, vF 0]) (cap := []) rfl rfl rfl Try.call16 (c_sReedN zz1 r_1 f1 ((((1 + u1) % 2 : Nat) : Int) == (0 : Int)) 1061158912 3200253952 cR'1 bR'1 PR'1 w5.heap.size cL'1 bL'1 PL'1 w5.heap.size cS'1 bS'1 [] (by assumption) h3 h4 rfl (by decide +kernel) (by decide +kernel) w8 ((r5.ext m7).mod m8 (nC (lE (lL r5.lt lR)) nN)).rng ((r6.ext m7).mod m8 (nC (lE (lL r6.lt lR)) nN)).rng ((r7.ext m7).mod m8 (nC (lE (lL r7.lt lR)) nN)).rng ((fm1.ext m7).mod m8 (fun j hj => (nC (lE (lL (OF.lt fm1 (Nat.lt_of_lt_of_eq (Nat.lt_of_lt_of_eq hj h7) h7.symm)) lR)) nN))) ((fm2.ext m7).mod m8 (fun j hj => (nC (lE (lL (OF.lt fm2 (Nat.lt_of_lt_of_eq (Nat.lt_of_lt_of_eq hj h8) h8.symm)) lR)) nN))))) rfl rfl (ltb rfl) ?_
 rintro _ w9 ⟨bR'2, cR'2, PR'2, bL'2, cL'2, PL'2, bS'2, cS'2, rfl, h9, h10, h11, h12, r11, r12, r13, ge4, ge5, ge6, ne4, ne5, ne6, fm3, fn8, fn9, fn10, fn11, fm4, fn12, fn13, fn14, m9⟩
 refine WL.det (op_move rfl) rfl rfl rfl ?_
 iterate 2 refine WL.det (op_extract rfl rfl) rfl rfl rfl ?_
 refine WL.op0 (op_store (i := 0) (cs := [vS bR'2 0 1 cR'2, vS bL'2 0 1 cL'2, vS bS'2 0 0 cS'2, vI 1, vF r_1, vF f1, vF 0, vF (zz1.s0), vF (zz1.s1), .bool ((((1 + u1) % 2 : Nat) : Int) == (0 : Int)), vF 1061158912, vF 0, vF 0]) rfl rfl rfl Try.sizeOf33 rfl (r10.ext m9) rfl (lB rfl) rfl) rfl rfl ?_
 rintro _ w10 ⟨r14, m10, z5⟩
 have r15 : Row w10 w6.heap.size 0 [vS bR'2 0 1 cR'2, vS bL'2 0 1 cL'2, vS bS'2 0 0 cS'2, vI 1, vF r_1, vF f1, vF 0, vF (zz1.s0), vF (zz1.s1), .bool ((((1 + u1) % 2 : Nat) : Int) == (0 : Int)), vF 1061158912, vF 0, vF 0] := Row.congr r14 rfl
 refine WL.det (op_assign rfl) rfl rfl rfl ?_
 refine WL.end (NE.code (CE.seq ?_))
 refine CE.draw (fun | 2 => some (fun _ wA uA wB => ∃ (Lq : List Nat) (b' : Nat) (c' : Nat) (A' : Option Addr), uA = .slice A' 12 c' ∧ (Lq.length = 12) ∧ (W32 Lq) ∧ (0 < 12 → A' = some ⟨b', 0, none⟩) ∧ (∀ j, Bd (Lq.getD j 0) 2) ∧ Row wB b' 0 (fl Lq) ∧ wA.heap.size ≤ b' ∧ Mod [] wA wB) | 3 => some (fun _ wA uA wB => ∃ (bR' : Nat) (cR' : Nat) (PR' : List BC) (bL' : Nat) (cL' : Nat) (PL' : List BC) (bS' : Nat) (cS' : Nat) (e' : Nat) (c3' : Nat) (A' : Option Addr) (ys : List Nat) (zz : PipeSt), uA = .tuple #[.agg #[vS bR' 0 1 cR', vS bL' 0 1 cL', vS bS' 0 0 cS', vI 1, vF r_1, vF f1, vF 0, vF (zz.s0), vF (zz.s1), .bool ((((1 + u1) % 2 : Nat) : Int) == (0 : Int)), vF 1061158912, vF 0, vF 0], .slice A' 12 c3', vI 0] ∧ (PR'.length = 1) ∧ (PL'.length = 1) ∧ (0 < 12 → A' = some ⟨e', 0, none⟩) ∧ (ys.length = 12) ∧ (W32 ys) ∧ (LX r_1 f1 zz) ∧ (zz.R.length = 1) ∧ (zz.L.length = 1) ∧ (PB zz 15) ∧ Row wB bR' 0 (olc zz.R PR') ∧ Row wB bL' 0 (olc zz.L PL') ∧ Row wB bS' 0 (fl []) ∧ Row wB e' 0 (fl ys) ∧ wA.heap.size ≤ bR' ∧ wA.heap.size ≤ bL' ∧ wA.heap.size ≤ bS' ∧ wA.heap.size ≤ e' ∧ bR' ≠ bL' ∧ bR' ≠ bS' ∧ bL' ≠ bS' ∧ bR' ≠ e' ∧ bL' ≠ e' ∧ bS' ≠ e' ∧ OF wA.heap.size wB zz.R PR' ∧ (∀ i, i < 1 → (PR'.getD i BC.d).b ≠ bR') ∧ (∀ i, i < 1 → (PR'.getD i BC.d).b ≠ bL') ∧ (∀ i, i < 1 → (PR'.getD i BC.d).b ≠ bS') ∧ (∀ i j, i < 1 → j < 1 → (PR'.getD i BC.d).b ≠ (PL'.getD j BC.d).b) ∧ (∀ i, i < 1 → (PR'.getD i BC.d).b ≠ e') ∧ OF wA.heap.size wB zz.L PL' ∧ (∀ i, i < 1 → (PL'.getD i BC.d).b ≠ bR') ∧ (∀ i, i < 1 → (PL'.getD i BC.d).b ≠ bL') ∧ (∀ i, i < 1 → (PL'.getD i BC.d).b ≠ bS') ∧ (∀ i, i < 1 → (PL'.getD i BC.d).b ≠ e') ∧ Mod [] wA wB) | _ => none) [0, 1, 2, 3, 4, 5, 6, 7, 8, 9] [10] [w6.heap.size] (by kernel_rfl) (by kernel_rfl) ?_
 have md1 : Mod [] w10 w10.drew := (Mod.refl _ _).drew
 generalize w10.drew = w11 at md1 ⊢
 refine DR.det (i := 1) rfl rfl (by kernel_rfl) (.free rfl) rfl rfl (fun wD mD => op_move rfl) ?_
 refine DR.cut [0, 2, 3, 4] 4 5 rfl (by kernel_rfl) ?_
 refine DR.det (i := 0) rfl rfl (by kernel_rfl) (.free rfl) rfl rfl (fun wD mD => op_loadA (i := 0) (cs := [vS bR'2 0 1 cR'2, vS bL'2 0 1 cL'2, vS bS'2 0 0 cS'2, vI 1, vF r_1, vF f1, vF 0, vF (zz1.s0), vF (zz1.s1), .bool ((((1 + u1) % 2 : Nat) : Int) == (0 : Int)), vF 1061158912, vF 0, vF 0]) rfl Try.isAgg33 Try.sizeOf33 ((r15.ext md1).ext mD).rng rfl rfl rfl) ?_
 refine DR.one (i := 2) rfl rfl (by kernel_rfl) (.free rfl) rfl (ltb rfl) (vs := [.func (.func 18) #[] #[], .slice Av nv cv, vI 12]) rfl ?_
 intro w12 m11
 refine ⟨oc_call (vs := [.slice Av nv cv, vI 12]) (cap := []) rfl rfl rfl Try.call18 (c_P6Plains nv cv Av bv ov xsv lnv hAv hBv (by omega) w12 (((Rng.youngS rv ((Rng.youngS rv ((((r3.ext m4).ext m5).ext m6).ext m7) m8 (allge_cons (lT (lT (lT (lT (lT (lT m1.size m2.size) m3.size) m4.size) m5.size) m6.size) lR) allge_nil)).ext m9) m10 (allge_cons (lT (lT (lT (lT (lT (lT m1.size m2.size) m3.size) m4.size) m5.size) m6.size) lR) allge_nil)).ext md1).ext m11)), ?_⟩
 rintro _ w13 ⟨Lq1, b'1, c'1, A'1, rfl, h13, h14, h15, h16, r16, ge7, m12⟩
 refine ⟨(((Mod.refl [] w11).nt m11).nt m12), ?_⟩
 refine DR.rebase ?_
 refine DR.one (i := 3) rfl rfl (by kernel_rfl) (.free rfl) rfl (ltb rfl) (vs := [.func (.func 17) #[] #[], .agg #[vS bR'2 0 1 cR'2, vS bL'2 0 1 cL'2, vS bS'2 0 0 cS'2, vI 1, vF r_1, vF f1, vF 0, vF (zz1.s0), vF (zz1.s1), .bool ((((1 + u1) % 2 : Nat) : Int) == (0 : Int)), vF 1061158912, vF 0, vF 0], .slice A'1 12 c'1]) rfl ?_
 intro w14 m13
 refine ⟨oc_call (vs := [.agg #[vS bR'2 0 1 cR'2, vS bL'2 0 1 cL'2, vS bS'2 0 0 cS'2, vI 1, vF r_1, vF f1, vF 0, vF (zz1.s0), vF (zz1.s1), .bool ((((1 + u1) % 2 : Nat) : Int) == (0 : Int)), vF 1061158912, vF 0, vF 0], .slice A'1 12 c'1]) (cap := []) rfl rfl rfl Try.call17 (c_sPlayN zz1 r_1 f1 ((((1 + u1) % 2 : Nat) : Int) == (0 : Int)) cR'2 bR'2 PR'2 w8.heap.size cL'2 bL'2 PL'2 w8.heap.size cS'2 bS'2 [] c'1 A'1 b'1 0 Lq1 (by assumption) h9 h10 rfl h13 h15 (by assumption) (by assumption) (by assumption) w14 (((((r11.mod m10 (nC (lG (lL (lL r8.lt m8.size) ge4)) nN)).ext md1).ext m11).ext m12).ext m13).rng (((((r12.mod m10 (nC (lG (lL (lL r8.lt m8.size) ge5)) nN)).ext md1).ext m11).ext m12).ext m13).rng (((((r13.mod m10 (nC (lG (lL (lL r8.lt m8.size) ge6)) nN)).ext md1).ext m11).ext m12).ext m13).rng (r16.ext m13).rng (((((fm3.mod m10 (fun j hj => (nC (lG (lL (lL r8.lt m8.size) (fm3.ge j (Nat.lt_of_lt_of_eq (Nat.lt_of_lt_of_eq hj h11) h11.symm)))) nN))).ext md1).ext m11).ext m12).ext m13) (((((fm4.mod m10 (fun j hj => (nC (lG (lL (lL r8.lt m8.size) (fm4.ge j (Nat.lt_of_lt_of_eq (Nat.lt_of_lt_of_eq hj h12) h12.symm)))) nN))).ext md1).ext m11).ext m12).ext m13)), ?_⟩
 rintro _ w15 ⟨bR'3, cR'3, PR'3, bL'3, cL'3, PL'3, bS'3, cS'3, e'1, c3'1, A'2, ys1, zz2, rfl, h17, h18, h19, h20, h21, h22, h23, h24, h25, r17, r18, r19, r20, ge8, ge9, ge10, ge11, ne7, ne8, ne9, ne10, ne11, ne12, fm5, fn15, fn16, fn17, fn18, fn19, fm6, fn20, fn21, fn22, fn23, m14⟩
 refine ⟨(((Mod.refl [] w13).nt m13).nt m14), ?_⟩
 refine DR.rebase ?_
 refine DR.det (i := 4) rfl rfl (by kernel_rfl) (.free rfl) rfl rfl (fun wD mD => op_move rfl) ?_
 refine DR.join (by kernel_rfl) ?_
 intro w16 m15 _
 refine ⟨((((((Mod.refl [w6.heap.size] w11).nt m11).nt m12).nt m13).nt m14).nt m15), ?_⟩
 refine DR.det (i := 5) rfl rfl (by kernel_rfl) (.free rfl) rfl rfl (fun wD mD => op_extract rfl rfl) ?_
 refine DR.det (i := 6) rfl rfl (by kernel_rfl) (.free rfl) rfl rfl (fun wD mD => op_extract rfl rfl) ?_
 refine DR.det (i := 7) rfl rfl (by kernel_rfl) (.free rfl) rfl rfl (fun wD mD => op_extract rfl rfl) ?_
 refine DR.st1 (i := 8) rfl rfl (by kernel_rfl) (.free rfl) rfl ?_
 intro w17 m16
 refine Op1.mono (op_store (i := 0) (cs := [vS bR'3 0 1 cR'3, vS bL'3 0 1 cL'3, vS bS'3 0 0 cS'3, vI 1, vF r_1, vF f1, vF 0, vF (zz2.s0), vF (zz2.s1), .bool ((((1 + u1) % 2 : Nat) : Int) == (0 : Int)), vF 1061158912, vF 0, vF 0]) rfl rfl rfl Try.sizeOf33 rfl (((((((r15.ext md1).ext m11).ext m12).ext m13).ext m14).ext m15).ext m16) rfl (lB rfl) rfl) ?_
 rintro _ w18 ⟨r21, m17, z6⟩
 have r22 : Row w18 w6.heap.size 0 [vS bR'3 0 1 cR'3, vS bL'3 0 1 cL'3, vS bS'3 0 0 cS'3, vI 1, vF r_1, vF f1, vF 0, vF (zz2.s0), vF (zz2.s1), .bool ((((1 + u1) % 2 : Nat) : Int) == (0 : Int)), vF 1061158912, vF 0, vF 0] := Row.congr r21 rfl
 refine ⟨((((((((Mod.refl [w6.heap.size] w11).nt m11).nt m12).nt m13).nt m14).nt m15).nt m16).then m17 ((aC (.inl (by simp)) aN))), ?_⟩
 refine DR.rebase ?_
 refine DR.det (i := 9) rfl rfl (by kernel_rfl) (.free rfl) rfl rfl (fun wD mD => op_assign rfl) ?_
 refine DR.done rfl ?_
 intro w19 m18
 refine WO.det (op_assign rfl) rfl (.free rfl) rfl rfl ?_
 refine WO.end (NE.code (CE.seq (CE.region ?_)))
 refine WL.det (op_loadA (i := 0) (cs := [vS bR'3 0 1 cR'3, vS bL'3 0 1 cL'3, vS bS'3 0 0 cS'3, vI 1, vF r_1, vF f1, vF 0, vF (zz2.s0), vF (zz2.s1), .bool ((((1 + u1) % 2 : Nat) : Int) == (0 : Int)), vF 1061158912, vF 0, vF 0]) rfl Try.isAgg33 Try.sizeOf33 (r22.ext m18).rng rfl rfl rfl) rfl rfl rfl ?_
 have sz1 := (lT (lT (lT (lT (lT (lT m8.size m9.size) m10.size) md1.size) m11.size) m12.size) m13.size)
 have r23 := ((((r17.ext m15).ext m16).mod m17 (nC (lG (lL (lL r8.lt sz1) ge8)) nN)).ext m18)
 have r24 := ((((r18.ext m15).ext m16).mod m17 (nC (lG (lL (lL r8.lt sz1) ge9)) nN)).ext m18)
 have r25 := ((((r19.ext m15).ext m16).mod m17 (nC (lG (lL (lL r8.lt sz1) ge10)) nN)).ext m18)
 refine WL.call (oc_call (vs := [.agg #[vS bR'3 0 1 cR'3, vS bL'3 0 1 cL'3, vS bS'3 0 0 cS'3, vI 1, vF r_1, vF f1, vF 0, vF (zz2.s0), vF (zz2.s1), .bool ((((1 + u1) % 2 : Nat) : Int) == (0 : Int)), vF 1061158912, vF 0, vF 0], vI 2000]) (cap := []) rfl rfl rfl Try.call19 (c_iSilN zz2 r_1 f1 ((((1 + u1) % 2 : Nat) : Int) == (0 : Int)) cR'3 bR'3 PR'3 w14.heap.size cL'3 bL'3 PL'3 w14.heap.size cS'3 bS'3 [] (by assumption) h17 h18 rfl (by assumption) w19 r23.rng r24.rng r25.rng ((((fm5.ext m15).ext m16).mod m17 (fun j hj => (nC (lG (lL (lL r8.lt sz1) (fm5.ge j (Nat.lt_of_lt_of_eq (Nat.lt_of_lt_of_eq hj h23) h23.symm)))) nN))).ext m18) ((((fm6.ext m15).ext m16).mod m17 (fun j hj => (nC (lG (lL (lL r8.lt sz1) (fm6.ge j (Nat.lt_of_lt_of_eq (Nat.lt_of_lt_of_eq hj h24) h24.symm)))) nN))).ext m18))) rfl rfl (ltb rfl) ?_
 rintro _ w20 ⟨mq1, rfl, h26, h27, m19⟩
 refine WL.det (op_move rfl) rfl rfl rfl ?_
 iterate 2 refine WL.det (op_extract rfl rfl) rfl rfl rfl ?_
 iterate 2 refine WL.det (op_assign rfl) rfl rfl rfl ?_
 refine WL.end (NE.code (CE.seq (CE.region ?_)))
 refine WL.det (op_loadA (i := 0) (cs := [vS bR'3 0 1 cR'3, vS bL'3 0 1 cL'3, vS bS'3 0 0 cS'3, vI 1, vF r_1, vF f1, vF 0, vF (zz2.s0), vF (zz2.s1), .bool ((((1 + u1) % 2 : Nat) : Int) == (0 : Int)), vF 1061158912, vF 0, vF 0]) rfl Try.isAgg33 Try.sizeOf33 ((r22.ext m18).ext m19).rng rfl rfl rfl) rfl rfl rfl ?_
 refine WL.call (oc_call (vs := [.agg #[vS bR'3 0 1 cR'3, vS bL'3 0 1 cL'3, vS bS'3 0 0 cS'3, vI 1, vF r_1, vF f1, vF 0, vF (zz2.s0), vF (zz2.s1), .bool ((((1 + u1) % 2 : Nat) : Int) == (0 : Int)), vF 1061158912, vF 0, vF 0], vI 2000]) (cap := []) rfl rfl rfl Try.call20 (c_sSilN zz2 r_1 f1 ((((1 + u1) % 2 : Nat) : Int) == (0 : Int)) cR'3 bR'3 PR'3 w14.heap.size cL'3 bL'3 PL'3 w14.heap.size cS'3 bS'3 [] (by assumption) h17 h18 rfl (by assumption) w20 (r23.ext m19).rng (r24.ext m19).rng (r25.ext m19).rng (((((fm5.ext m15).ext m16).mod m17 (fun j hj => (nC (lG (lL (lL r8.lt sz1) (fm5.ge j (Nat.lt_of_lt_of_eq (Nat.lt_of_lt_of_eq hj h23) h23.symm)))) nN))).ext m18).ext m19) (((((fm6.ext m15).ext m16).mod m17 (fun j hj => (nC (lG (lL (lL r8.lt sz1) (fm6.ge j (Nat.lt_of_lt_of_eq (Nat.lt_of_lt_of_eq hj h24) h24.symm)))) nN))).ext m18).ext m19))) rfl rfl (ltb rfl) ?_
 rintro _ w21 ⟨mq2, rfl, h28, h29, m20⟩
 refine WL.det (op_move rfl) rfl rfl rfl ?_
 iterate 2 refine WL.det (op_extract rfl rfl) rfl rfl rfl ?_
 iterate 2 refine WL.det (op_assign rfl) rfl rfl rfl ?_
 refine WL.end (NE.code (CE.seq (CE.seq (CE.region ?_))))
 refine WL.det (op_move rfl) rfl rfl rfl ?_
 refine WL.det (op_nei rfl rfl) rfl rfl rfl ?_
 refine WL.det (op_move rfl) rfl rfl rfl ?_
 refine WL.yes rfl rfl rfl (ltb rfl) rfl rfl ?_
 refine WL.det (op_move rfl) rfl rfl rfl ?_
 refine WL.yes rfl rfl rfl (ltb rfl) rfl rfl ?_
 refine WL.det (op_nei rfl rfl) rfl rfl rfl ?_
 refine WL.det (op_pick_f rfl rfl rfl) rfl rfl rfl ?_
 refine WL.det (op_move rfl) rfl rfl rfl ?_
 refine WL.yes rfl rfl rfl (ltb rfl) rfl rfl ?_
 refine WL.det (op_move rfl) rfl rfl rfl ?_
 refine WL.yes rfl rfl rfl (ltb rfl) rfl rfl ?_
 refine WL.det (op_nei rfl rfl) rfl rfl rfl ?_
 refine WL.det (op_pick_f rfl rfl rfl) rfl rfl rfl ?_
 refine WL.det (op_move rfl) rfl rfl rfl ?_
 refine WL.yes rfl rfl rfl (ltb rfl) rfl rfl ?_
 refine WL.det (op_move rfl) rfl rfl rfl ?_
 refine WL.yes rfl rfl rfl (ltb rfl) rfl rfl ?_
 refine WL.det (op_move rfl) rfl rfl rfl ?_
 refine WL.yes rfl rfl rfl (ltb rfl) rfl rfl ?_
 refine WL.det (op_nei rfl rfl) rfl rfl rfl ?_
 refine WL.det (op_pick_f rfl rfl rfl) rfl rfl rfl ?_
 refine WL.det (op_move rfl) rfl rfl rfl ?_
 refine WL.yes rfl rfl rfl (ltb rfl) rfl rfl ?_
 refine WL.det (op_move rfl) rfl rfl rfl ?_
 refine WL.yes rfl rfl rfl (ltb rfl) rfl rfl ?_
 refine WL.det (op_nei rfl rfl) rfl rfl rfl ?_
 refine WL.det (op_pick_f rfl rfl rfl) rfl rfl rfl ?_
 refine WL.det (op_move rfl) rfl rfl rfl ?_
 refine WL.yes rfl rfl rfl (ltb rfl) rfl rfl ?_
 refine WL.det (op_move rfl) rfl rfl rfl ?_
 refine WL.yes rfl rfl rfl (ltb rfl) rfl rfl ?_
 refine WL.det (op_move rfl) rfl rfl rfl ?_
 refine WL.yes rfl rfl rfl (ltb rfl) rfl rfl ?_
 refine WL.det (op_nei rfl rfl) rfl rfl rfl ?_
 refine WL.det (op_pick_f rfl rfl rfl) rfl rfl rfl ?_
 refine WL.end (NE.code ?_)
 refine CE.cond_f rfl (bne_eq_false_iff_eq.2 (by omega)) ?_
 refine CE.skip' (NE.code (CE.seq ?_))
 refine CE.drawF (fun | 3 => some (fun _ wA uA wB => ∃ (bR' : Nat) (cR' : Nat) (PR' : List BC) (bL' : Nat) (cL' : Nat) (PL' : List BC) (bS' : Nat) (cS' : Nat) (e' : Nat) (c3' : Nat) (A' : Option Addr) (ys : List Nat) (zz : PipeSt), uA = .tuple #[.agg #[vS bR' 0 1 cR', vS bL' 0 1 cL', vS bS' 0 0 cS', vI 1, vF r_1, vF f1, vF 0, vF (zz.s0), vF (zz.s1), .bool ((((1 + u1) % 2 : Nat) : Int) == (0 : Int)), vF 1061158912, vF 0, vF 0], .slice A' mq2 c3', vI 0] ∧ (PR'.length = 1) ∧ (PL'.length = 1) ∧ (0 < mq2 → A' = some ⟨e', 0, none⟩) ∧ (ys.length = mq2) ∧ (W32 ys) ∧ (Cn ys (outs (zOut r_1 f1 ((((1 + u1) % 2 : Nat) : Int) == (0 : Int)) zz2 (fun _ => 0)) mq2)) ∧ (LX r_1 f1 zz) ∧ (zz.R.length = 1) ∧ (zz.L.length = 1) ∧ (zz = zAt r_1 f1 ((((1 + u1) % 2 : Nat) : Int) == (0 : Int)) zz2 (fun _ => 0) mq2) ∧ Row wB bR' 0 (olc zz.R PR') ∧ Row wB bL' 0 (olc zz.L PL') ∧ Row wB bS' 0 (fl []) ∧ Row wB e' 0 (fl ys) ∧ wA.heap.size ≤ bR' ∧ wA.heap.size ≤ bL' ∧ wA.heap.size ≤ bS' ∧ wA.heap.size ≤ e' ∧ bR' ≠ bL' ∧ bR' ≠ bS' ∧ bL' ≠ bS' ∧ bR' ≠ e' ∧ bL' ≠ e' ∧ bS' ≠ e' ∧ OF wA.heap.size wB zz.R PR' ∧ (∀ i, i < 1 → (PR'.getD i BC.d).b ≠ bR') ∧ (∀ i, i < 1 → (PR'.getD i BC.d).b ≠ bL') ∧ (∀ i, i < 1 → (PR'.getD i BC.d).b ≠ bS') ∧ (∀ i j, i < 1 → j < 1 → (PR'.getD i BC.d).b ≠ (PL'.getD j BC.d).b) ∧ (∀ i, i < 1 → (PR'.getD i BC.d).b ≠ e') ∧ OF wA.heap.size wB zz.L PL' ∧ (∀ i, i < 1 → (PL'.getD i BC.d).b ≠ bR') ∧ (∀ i, i < 1 → (PL'.getD i BC.d).b ≠ bL') ∧ (∀ i, i < 1 → (PL'.getD i BC.d).b ≠ bS') ∧ (∀ i, i < 1 → (PL'.getD i BC.d).b ≠ e') ∧ Mod [] wA wB) | _ => none) [0, 1, 2, 3, 4, 5, 6, 7, 8, 9, 10] [11] [] (fun ρ W => ∃ (e2_2_0 : Nat) (e2_3_0 : Nat) (e2_3_1 : Nat) (e2_3_2 : List BC) (e2_3_3 : Nat) (e2_3_4 : Nat) (e2_3_5 : List BC) (e2_3_6 : Nat) (e2_3_7 : Nat) (e2_3_8 : Nat) (e2_3_9 : Nat) (e2_3_10 : Option Addr) (e2_3_11 : List Nat) (e2_3_12 : PipeSt) (e2_8_0 : Nat), ρ = [(4, .bool false), (6, vP w6.heap.size 0), (13, vI ((mq2 : Nat) : Int)), (15, vP e2_8_0 0), (107, vI 0)] ∧ Row W e2_2_0 0 (fl (List.replicate mq2 0)) ∧ Row W e2_3_0 0 (olc e2_3_12.R e2_3_2) ∧ Row W e2_3_3 0 (olc e2_3_12.L e2_3_5) ∧ Row W e2_3_6 0 (fl []) ∧ Row W e2_3_8 0 (fl e2_3_11) ∧ Row W e2_8_0 0 [vS e2_3_0 0 1 e2_3_1, vS e2_3_3 0 1 e2_3_4, vS e2_3_6 0 0 e2_3_7, vI 1, vF r_1, vF f1, vF 0, vF (e2_3_12.s0), vF (e2_3_12.s1), .bool ((((1 + u1) % 2 : Nat) : Int) == (0 : Int)), vF 1061158912, vF 0, vF 0] ∧ w21.heap.size ≤ e2_2_0 ∧ w21.heap.size ≤ e2_3_0 ∧ w21.heap.size ≤ e2_3_3 ∧ w21.heap.size ≤ e2_3_6 ∧ w21.heap.size ≤ e2_3_8 ∧ w21.heap.size ≤ e2_8_0 ∧ e2_2_0 ≠ e2_3_0 ∧ e2_2_0 ≠ e2_3_3 ∧ e2_2_0 ≠ e2_3_6 ∧ e2_2_0 ≠ e2_3_8 ∧ e2_2_0 ≠ e2_8_0 ∧ e2_3_0 ≠ e2_3_3 ∧ e2_3_0 ≠ e2_3_6 ∧ e2_3_0 ≠ e2_3_8 ∧ e2_3_0 ≠ e2_8_0 ∧ e2_3_3 ≠ e2_3_6 ∧ e2_3_3 ≠ e2_3_8 ∧ e2_3_3 ≠ e2_8_0 ∧ e2_3_6 ≠ e2_3_8 ∧ e2_3_6 ≠ e2_8_0 ∧ e2_3_8 ≠ e2_8_0 ∧ (e2_3_2.length = 1) ∧ (e2_3_5.length = 1) ∧ (0 < mq2 → e2_3_10 = some ⟨e2_3_8, 0, none⟩) ∧ (e2_3_11.length = mq2) ∧ (W32 e2_3_11) ∧ (Cn e2_3_11 (outs (zOut r_1 f1 ((((1 + u1) % 2 : Nat) : Int) == (0 : Int)) zz2 (fun _ => 0)) mq2)) ∧ (LX r_1 f1 e2_3_12) ∧ (e2_3_12.R.length = 1) ∧ (e2_3_12.L.length = 1) ∧ (e2_3_12 = zAt r_1 f1 ((((1 + u1) % 2 : Nat) : Int) == (0 : Int)) zz2 (fun _ => 0) mq2) ∧ OF w21.heap.size W e2_3_12.R e2_3_2 ∧ (∀ i, i < 1 → (e2_3_2.getD i BC.d).b ≠ e2_2_0) ∧ (∀ i, i < 1 → (e2_3_2.getD i BC.d).b ≠ e2_3_0) ∧ (∀ i, i < 1 → (e2_3_2.getD i BC.d).b ≠ e2_3_3) ∧ (∀ i, i < 1 → (e2_3_2.getD i BC.d).b ≠ e2_3_6) ∧ (∀ i, i < 1 → (e2_3_2.getD i BC.d).b ≠ e2_3_8) ∧ (∀ i, i < 1 → (e2_3_2.getD i BC.d).b ≠ e2_8_0) ∧ (∀ i j, i < 1 → j < 1 → (e2_3_2.getD i BC.d).b ≠ (e2_3_5.getD j BC.d).b) ∧ OF w21.heap.size W e2_3_12.L e2_3_5 ∧ (∀ i, i < 1 → (e2_3_5.getD i BC.d).b ≠ e2_2_0) ∧ (∀ i, i < 1 → (e2_3_5.getD i BC.d).b ≠ e2_3_0) ∧ (∀ i, i < 1 → (e2_3_5.getD i BC.d).b ≠ e2_3_3) ∧ (∀ i, i < 1 → (e2_3_5.getD i BC.d).b ≠ e2_3_6) ∧ (∀ i, i < 1 → (e2_3_5.getD i BC.d).b ≠ e2_3_8) ∧ (∀ i, i < 1 → (e2_3_5.getD i BC.d).b ≠ e2_8_0) ∧ Mod [] w21 W) (by kernel_rfl) (by kernel_rfl) ?_ ?_
 have md2 : Mod [] w21 w21.drew := (Mod.refl _ _).drew
 generalize w21.drew = w22 at md2 ⊢
 ·refine DR.det (i := 0) rfl rfl (by kernel_rfl) (.free rfl) rfl rfl (fun wD mD => op_loadA (i := 0) (cs := [vS bR'3 0 1 cR'3, vS bL'3 0 1 cL'3, vS bS'3 0 0 cS'3, vI 1, vF r_1, vF f1, vF 0, vF (zz2.s0), vF (zz2.s1), .bool ((((1 + u1) % 2 : Nat) : Int) == (0 : Int)), vF 1061158912, vF 0, vF 0]) rfl Try.isAgg33 Try.sizeOf33 (((((r22.ext m18).ext m19).ext m20).ext md2).ext mD).rng rfl rfl rfl) ?_
  refine DR.det (i := 1) rfl rfl (by kernel_rfl) (.free rfl) rfl rfl (fun wD mD => op_move rfl) ?_
  refine DR.fork (is := [2, 8]) (by kernel_rfl) (by decide) (all2 ?_ ?_)
  ·refine DP.op (i := 2) rfl rfl (.free rfl) rfl (ltb rfl) ?_
   intro w23 m21
   refine Op1.mono (op_makeF (i := Try.t27) rfl rfl rfl rfl Try.underlying26 rfl rfl rfl rfl (by first | omega | decide)) ?_
   rintro _ w24 ⟨rfl, r26, m22, z7⟩
   refine ⟨(((Mod.refl [] w22).nt m21).nt m22), ?_⟩
   refine DR.fork (is := [3, 8]) (by kernel_rfl) (by decide) (all2 ?_ ?_)
   ·refine DP.call (i := 3) rfl rfl (.free rfl) rfl (ltb rfl) (vs := [.func (.func 21) #[] #[], .agg #[vS bR'3 0 1 cR'3, vS bL'3 0 1 cL'3, vS bS'3 0 0 cS'3, vI 1, vF r_1, vF f1, vF 0, vF (zz2.s0), vF (zz2.s1), .bool ((((1 + u1) % 2 : Nat) : Int) == (0 : Int)), vF 1061158912, vF 0, vF 0], vS w23.heap.size 0 mq2 mq2]) rfl ?_
    intro w25 m23
    refine ⟨oc_call (vs := [.agg #[vS bR'3 0 1 cR'3, vS bL'3 0 1 cL'3, vS bS'3 0 0 cS'3, vI 1, vF r_1, vF f1, vF 0, vF (zz2.s0), vF (zz2.s1), .bool ((((1 + u1) % 2 : Nat) : Int) == (0 : Int)), vF 1061158912, vF 0, vF 0], vS w23.heap.size 0 mq2 mq2]) (cap := []) rfl rfl rfl Try.call21 (c_iPlayN zz2 r_1 f1 ((((1 + u1) % 2 : Nat) : Int) == (0 : Int)) cR'3 bR'3 PR'3 w14.heap.size cL'3 bL'3 PL'3 w14.heap.size cS'3 bS'3 [] mq2 mq2 (some ⟨w23.heap.size, 0, none⟩) w23.heap.size 0 (List.replicate mq2 0) (by assumption) h17 h18 rfl List.length_replicate (fun _ => rfl) (by rfl) (by omega) w25 ((((((r23.ext m19).ext m20).ext md2).ext m21).ext m22).ext m23).rng ((((((r24.ext m19).ext m20).ext md2).ext m21).ext m22).ext m23).rng ((((((r25.ext m19).ext m20).ext md2).ext m21).ext m22).ext m23).rng (r26.ext m23).rng ((((((((((fm5.ext m15).ext m16).mod m17 (fun j hj => (nC (lG (lL (lL r8.lt sz1) (fm5.ge j (Nat.lt_of_lt_of_eq (Nat.lt_of_lt_of_eq hj h23) h23.symm)))) nN))).ext m18).ext m19).ext m20).ext md2).ext m21).ext m22).ext m23) ((((((((((fm6.ext m15).ext m16).mod m17 (fun j hj => (nC (lG (lL (lL r8.lt sz1) (fm6.ge j (Nat.lt_of_lt_of_eq (Nat.lt_of_lt_of_eq hj h24) h24.symm)))) nN))).ext m18).ext m19).ext m20).ext md2).ext m21).ext m22).ext m23)), ?_⟩
    rintro _ w26 ⟨bR'4, cR'4, PR'4, bL'4, cL'4, PL'4, bS'4, cS'4, e'2, c3'2, A'3, ys2, zz3, rfl, h30, h31, h32, h33, h34, h35, h36, h37, h38, h39, r27, r28, r29, r30, ge12, ge13, ge14, ge15, ne13, ne14, ne15, ne16, ne17, ne18, fm7, fn24, fn25, fn26, fn27, fn28, fm8, fn29, fn30, fn31, fn32, m24⟩
    refine ⟨(((((Mod.refl [] w22).nt m21).nt m22).nt m23).nt m24), ?_⟩
    refine DR.det (i := 4) rfl rfl (by kernel_rfl) (.free rfl) rfl rfl (fun wD mD => op_move rfl) ?_
    refine DR.det (i := 5) rfl rfl (by kernel_rfl) (.free rfl) rfl rfl (fun wD mD => op_extract rfl rfl) ?_
    refine DR.det (i := 6) rfl rfl (by kernel_rfl) (.free rfl) rfl rfl (fun wD mD => op_extract rfl rfl) ?_
    refine DR.det (i := 7) rfl rfl (by kernel_rfl) (.free rfl) rfl rfl (fun wD mD => op_extract rfl rfl) ?_
    refine DR.one1 (i := 8) rfl rfl (by kernel_rfl) (.free rfl) rfl (ltb rfl) ?_
    intro w27 m25
    refine Op1.mono (op_alloc (cs := [.slice none 0 0, .slice none 0 0, .slice none 0 0, vI 0, vF 0, vF 0, vF 0, vF 0, vF 0, .bool false, vF 0, vF 0, vF 0]) Try.zeroValue33 rfl) ?_
    rintro _ w28 ⟨rfl, r31, m26, z8⟩
    refine ⟨(((((((Mod.refl [] w22).nt m21).nt m22).nt m23).nt m24).nt m25).nt m26), ?_⟩
    refine DR.st1 (i := 9) rfl rfl (by kernel_rfl) (.free rfl) rfl ?_
    intro w29 m27
    refine Op1.mono (op_store (i := 0) (cs := [vS bR'4 0 1 cR'4, vS bL'4 0 1 cL'4, vS bS'4 0 0 cS'4, vI 1, vF r_1, vF f1, vF 0, vF (zz3.s0), vF (zz3.s1), .bool ((((1 + u1) % 2 : Nat) : Int) == (0 : Int)), vF 1061158912, vF 0, vF 0]) rfl rfl rfl Try.sizeOf33 rfl (r31.ext m27) rfl (lB rfl) rfl) ?_
    rintro _ w30 ⟨r32, m28, z9⟩
    have r33 : Row w30 w27.heap.size 0 [vS bR'4 0 1 cR'4, vS bL'4 0 1 cL'4, vS bS'4 0 0 cS'4, vI 1, vF r_1, vF f1, vF 0, vF (zz3.s0), vF (zz3.s1), .bool ((((1 + u1) % 2 : Nat) : Int) == (0 : Int)), vF 1061158912, vF 0, vF 0] := Row.congr r32 rfl
    have sz2 := (lT (lT (lT (lT m21.size m22.size) m23.size) m24.size) m25.size)
    refine ⟨(((((((((Mod.refl [] w22).nt m21).nt m22).nt m23).nt m24).nt m25).nt m26).nt m27).then m28 ((aC (.inr (lT sz2 lR)) aN))), ?_⟩
    refine DR.rebase ?_
    refine DR.det (i := 10) rfl rfl (by kernel_rfl) (.free rfl) rfl rfl (fun wD mD => op_assign rfl) ?_
    refine DR.sub [(4, .bool false), (6, vP w6.heap.size 0), (13, vI ((mq2 : Nat) : Int)), (15, vP w27.heap.size 0), (107, vI 0)] ⟨rfl, rfl, rfl, rfl, rfl, trivial⟩ ?_
    refine DR.meet rfl ?_
    intro w31 m29
    have sz3 := (lT (lT m23.size m24.size) m25.size)
    have r34 := (((((((r26.ext m23).ext m24).ext m25).ext m26).ext m27).mod m28 (nC (lE (lL (lL r26.lt sz3) lR)) nN)).ext m29)
    have r35 := (((((r27.ext m25).ext m26).ext m27).mod m28 (nC (lE (lL (lL r27.lt m25.size) lR)) nN)).ext m29)
    have r36 := (((((r28.ext m25).ext m26).ext m27).mod m28 (nC (lE (lL (lL r28.lt m25.size) lR)) nN)).ext m29)
    have r37 := (((((r29.ext m25).ext m26).ext m27).mod m28 (nC (lE (lL (lL r29.lt m25.size) lR)) nN)).ext m29)
    have r38 := (((((r30.ext m25).ext m26).ext m27).mod m28 (nC (lE (lL (lL r30.lt m25.size) lR)) nN)).ext m29)
    have sz4 := (lT (lT (lT md2.size m21.size) m22.size) m23.size)
    have sz5 := (lT (lT sz4 m24.size) m25.size)
    exact ⟨w23.heap.size, bR'4, cR'4, PR'4, bL'4, cL'4, PL'4, bS'4, cS'4, e'2, c3'2, A'3, ys2, zz3, w27.heap.size, rfl, r34, r35, r36, r37, r38, (r33.ext m29), (lT (lT md2.size m21.size) lR), (lT sz4 ge12), (lT sz4 ge13), (lT sz4 ge14), (lT sz4 ge15), (lT sz5 lR), (lE (lL (lL r26.lt m23.size) ge12)), (lE (lL (lL r26.lt m23.size) ge13)), (lE (lL (lL r26.lt m23.size) ge14)), (lE (lL (lL r26.lt m23.size) ge15)), (lE (lL (lL r26.lt sz3) lR)), ne13, ne14, ne16, (lE (lL (lL r27.lt m25.size) lR)), ne15, ne17, (lE (lL (lL r28.lt m25.size) lR)), ne18, (lE (lL (lL r29.lt m25.size) lR)), (lE (lL (lL r30.lt m25.size) lR)), h30, h31, h32, h33, h34, h35, h36, h37, h38, h39, (OF.low (((((fm7.ext m25).ext m26).ext m27).mod m28 (fun j hj => (nC (lE (lL (OF.lt fm7 (Nat.lt_of_lt_of_eq (Nat.lt_of_lt_of_eq hj h37) h37.symm)) (lT m25.size lR))) nN))).ext m29) sz4), (fun j hj => (lG (lL (lL r26.lt m23.size) (fm7.ge j (Nat.lt_of_lt_of_eq (show j < 1 by omega) h37.symm))))), (fun j hj => (fn24 j (show j < 1 by omega))), (fun j hj => (fn25 j (show j < 1 by omega))), (fun j hj => (fn26 j (show j < 1 by omega))), (fun j hj => (fn28 j (show j < 1 by omega))), (fun j hj => (lE (lL (OF.lt fm7 (Nat.lt_of_lt_of_eq (show j < 1 by omega) h37.symm)) (lT m25.size lR)))), (fun j q hj hq => (fn27 j q (show j < 1 by omega) (show q < 1 by omega))), (OF.low (((((fm8.ext m25).ext m26).ext m27).mod m28 (fun j hj => (nC (lE (lL (OF.lt fm8 (Nat.lt_of_lt_of_eq (Nat.lt_of_lt_of_eq hj h38) h38.symm)) (lT m25.size lR))) nN))).ext m29) sz4), (fun j hj => (lG (lL (lL r26.lt m23.size) (fm8.ge j (Nat.lt_of_lt_of_eq (show j < 1 by omega) h38.symm))))), (fun j hj => (fn29 j (show j < 1 by omega))), (fun j hj => (fn30 j (show j < 1 by omega))), (fun j hj => (fn31 j (show j < 1 by omega))), (fun j hj => (fn32 j (show j < 1 by omega))), (fun j hj => (lE (lL (OF.lt fm8 (Nat.lt_of_lt_of_eq (show j < 1 by omega) h38.symm)) (lT m25.size lR)))), (((((((((((Mod.refl [] w21).nt md2).nt m21).nt m22).nt m23).nt m24).nt m25).nt m26).nt m27).then m28 ((aC (.inr (lT sz5 lR)) aN))).nt m29)⟩
   ·refine DP.op (i := 8) rfl rfl (.free rfl) rfl (ltb rfl) ?_
    intro w32 m30
    refine Op1.mono (op_alloc (cs := [.slice none 0 0, .slice none 0 0, .slice none 0 0, vI 0, vF 0, vF 0, vF 0, vF 0, vF 0, .bool false, vF 0, vF 0, vF 0]) Try.zeroValue33 rfl) ?_
    rintro _ w33 ⟨rfl, r39, m31, z10⟩
    refine ⟨(((((Mod.refl [] w22).nt m21).nt m22).nt m30).nt m31), ?_⟩
    refine DR.one (i := 3) rfl rfl (by kernel_rfl) (.free rfl) rfl (ltb rfl) (vs := [.func (.func 21) #[] #[], .agg #[vS bR'3 0 1 cR'3, vS bL'3 0 1 cL'3, vS bS'3 0 0 cS'3, vI 1, vF r_1, vF f1, vF 0, vF (zz2.s0), vF (zz2.s1), .bool ((((1 + u1) % 2 : Nat) : Int) == (0 : Int)), vF 1061158912, vF 0, vF 0], vS w23.heap.size 0 mq2 mq2]) rfl ?_
    intro w34 m32
    refine ⟨oc_call (vs := [.agg #[vS bR'3 0 1 cR'3, vS bL'3 0 1 cL'3, vS bS'3 0 0 cS'3, vI 1, vF r_1, vF f1, vF 0, vF (zz2.s0), vF (zz2.s1), .bool ((((1 + u1) % 2 : Nat) : Int) == (0 : Int)), vF 1061158912, vF 0, vF 0], vS w23.heap.size 0 mq2 mq2]) (cap := []) rfl rfl rfl Try.call21 (c_iPlayN zz2 r_1 f1 ((((1 + u1) % 2 : Nat) : Int) == (0 : Int)) cR'3 bR'3 PR'3 w14.heap.size cL'3 bL'3 PL'3 w14.heap.size cS'3 bS'3 [] mq2 mq2 (some ⟨w23.heap.size, 0, none⟩) w23.heap.size 0 (List.replicate mq2 0) (by assumption) h17 h18 rfl List.length_replicate (fun _ => rfl) (by rfl) (by omega) w34 ((((((((r23.ext m19).ext m20).ext md2).ext m21).ext m22).ext m30).ext m31).ext m32).rng ((((((((r24.ext m19).ext m20).ext md2).ext m21).ext m22).ext m30).ext m31).ext m32).rng ((((((((r25.ext m19).ext m20).ext md2).ext m21).ext m22).ext m30).ext m31).ext m32).rng (((r26.ext m30).ext m31).ext m32).rng ((((((((((((fm5.ext m15).ext m16).mod m17 (fun j hj => (nC (lG (lL (lL r8.lt sz1) (fm5.ge j (Nat.lt_of_lt_of_eq (Nat.lt_of_lt_of_eq hj h23) h23.symm)))) nN))).ext m18).ext m19).ext m20).ext md2).ext m21).ext m22).ext m30).ext m31).ext m32) ((((((((((((fm6.ext m15).ext m16).mod m17 (fun j hj => (nC (lG (lL (lL r8.lt sz1) (fm6.ge j (Nat.lt_of_lt_of_eq (Nat.lt_of_lt_of_eq hj h24) h24.symm)))) nN))).ext m18).ext m19).ext m20).ext md2).ext m21).ext m22).ext m30).ext m31).ext m32)), ?_⟩
    rintro _ w35 ⟨bR'5, cR'5, PR'5, bL'5, cL'5, PL'5, bS'5, cS'5, e'3, c3'3, A'4, ys3, zz4, rfl, h40, h41, h42, h43, h44, h45, h46, h47, h48, h49, r40, r41, r42, r43, ge16, ge17, ge18, ge19, ne19, ne20, ne21, ne22, ne23, ne24, fm9, fn33, fn34, fn35, fn36, fn37, fm10, fn38, fn39, fn40, fn41, m33⟩
    refine ⟨(((((((Mod.refl [] w22).nt m21).nt m22).nt m30).nt m31).nt m32).nt m33), ?_⟩
    refine DR.det (i := 4) rfl rfl (by kernel_rfl) (.free rfl) rfl rfl (fun wD mD => op_move rfl) ?_
    refine DR.det (i := 5) rfl rfl (by kernel_rfl) (.free rfl) rfl rfl (fun wD mD => op_extract rfl rfl) ?_
    refine DR.det (i := 6) rfl rfl (by kernel_rfl) (.free rfl) rfl rfl (fun wD mD => op_extract rfl rfl) ?_
    refine DR.det (i := 7) rfl rfl (by kernel_rfl) (.free rfl) rfl rfl (fun wD mD => op_extract rfl rfl) ?_
    refine DR.st1 (i := 9) rfl rfl (by kernel_rfl) (.free rfl) rfl ?_
    intro w36 m34
    refine Op1.mono (op_store (i := 0) (cs := [vS bR'5 0 1 cR'5, vS bL'5 0 1 cL'5, vS bS'5 0 0 cS'5, vI 1, vF r_1, vF f1, vF 0, vF (zz4.s0), vF (zz4.s1), .bool ((((1 + u1) % 2 : Nat) : Int) == (0 : Int)), vF 1061158912, vF 0, vF 0]) rfl rfl rfl Try.sizeOf33 rfl (((r39.ext m32).ext m33).ext m34) rfl (lB rfl) rfl) ?_
    rintro _ w37 ⟨r44, m35, z11⟩
    have r45 : Row w37 w32.heap.size 0 [vS bR'5 0 1 cR'5, vS bL'5 0 1 cL'5, vS bS'5 0 0 cS'5, vI 1, vF r_1, vF f1, vF 0, vF (zz4.s0), vF (zz4.s1), .bool ((((1 + u1) % 2 : Nat) : Int) == (0 : Int)), vF 1061158912, vF 0, vF 0] := Row.congr r44 rfl
    have sz6 := (lT (lT m21.size m22.size) m30.size)
    refine ⟨(((((((((Mod.refl [] w22).nt m21).nt m22).nt m30).nt m31).nt m32).nt m33).nt m34).then m35 ((aC (.inr (lT sz6 lR)) aN))), ?_⟩
    refine DR.rebase ?_
    refine DR.det (i := 10) rfl rfl (by kernel_rfl) (.free rfl) rfl rfl (fun wD mD => op_assign rfl) ?_
    refine DR.sub [(4, .bool false), (6, vP w6.heap.size 0), (13, vI ((mq2 : Nat) : Int)), (15, vP w32.heap.size 0), (107, vI 0)] ⟨rfl, rfl, rfl, rfl, rfl, trivial⟩ ?_
    refine DR.meet rfl ?_
    intro w38 m36
    have r46 := (((((((r26.ext m30).ext m31).ext m32).ext m33).ext m34).mod m35 (nC (lE (lL (lL r26.lt m30.size) lR)) nN)).ext m36)
    have r47 := (((r40.ext m34).mod m35 (nC (lG (lL (lL r39.lt m32.size) ge16)) nN)).ext m36)
    have r48 := (((r41.ext m34).mod m35 (nC (lG (lL (lL r39.lt m32.size) ge17)) nN)).ext m36)
    have r49 := (((r42.ext m34).mod m35 (nC (lG (lL (lL r39.lt m32.size) ge18)) nN)).ext m36)
    have r50 := (((r43.ext m34).mod m35 (nC (lG (lL (lL r39.lt m32.size) ge19)) nN)).ext m36)
    have sz7 := (lT (lT (lT (lT (lT md2.size m21.size) m22.size) m30.size) m31.size) m32.size)
    have sz8 := (lT (lT (lT md2.size m21.size) m22.size) m30.size)
    have sz9 := (lT (lT m30.size m31.size) m32.size)
    exact ⟨w23.heap.size, bR'5, cR'5, PR'5, bL'5, cL'5, PL'5, bS'5, cS'5, e'3, c3'3, A'4, ys3, zz4, w32.heap.size, rfl, r46, r47, r48, r49, r50, (r45.ext m36), (lT (lT md2.size m21.size) lR), (lT sz7 ge16), (lT sz7 ge17), (lT sz7 ge18), (lT sz7 ge19), (lT sz8 lR), (lE (lL (lL r26.lt sz9) ge16)), (lE (lL (lL r26.lt sz9) ge17)), (lE (lL (lL r26.lt sz9) ge18)), (lE (lL (lL r26.lt sz9) ge19)), (lE (lL (lL r26.lt m30.size) lR)), ne19, ne20, ne22, (lG (lL (lL r39.lt m32.size) ge16)), ne21, ne23, (lG (lL (lL r39.lt m32.size) ge17)), ne24, (lG (lL (lL r39.lt m32.size) ge18)), (lG (lL (lL r39.lt m32.size) ge19)), h40, h41, h42, h43, h44, h45, h46, h47, h48, h49, (OF.low (((fm9.ext m34).mod m35 (fun j hj => (nC (lG (lL (lL r39.lt m32.size) (fm9.ge j (Nat.lt_of_lt_of_eq (Nat.lt_of_lt_of_eq hj h47) h47.symm)))) nN))).ext m36) sz7), (fun j hj => (lG (lL (lL r26.lt sz9) (fm9.ge j (Nat.lt_of_lt_of_eq (show j < 1 by omega) h47.symm))))), (fun j hj => (fn33 j (show j < 1 by omega))), (fun j hj => (fn34 j (show j < 1 by omega))), (fun j hj => (fn35 j (show j < 1 by omega))), (fun j hj => (fn37 j (show j < 1 by omega))), (fun j hj => (lG (lL (lL r39.lt m32.size) (fm9.ge j (Nat.lt_of_lt_of_eq (show j < 1 by omega) h47.symm))))), (fun j q hj hq => (fn36 j q (show j < 1 by omega) (show q < 1 by omega))), (OF.low (((fm10.ext m34).mod m35 (fun j hj => (nC (lG (lL (lL r39.lt m32.size) (fm10.ge j (Nat.lt_of_lt_of_eq (Nat.lt_of_lt_of_eq hj h48) h48.symm)))) nN))).ext m36) sz7), (fun j hj => (lG (lL (lL r26.lt sz9) (fm10.ge j (Nat.lt_of_lt_of_eq (show j < 1 by omega) h48.symm))))), (fun j hj => (fn38 j (show j < 1 by omega))), (fun j hj => (fn39 j (show j < 1 by omega))), (fun j hj => (fn40 j (show j < 1 by omega))), (fun j hj => (fn41 j (show j < 1 by omega))), (fun j hj => (lG (lL (lL r39.lt m32.size) (fm10.ge j (Nat.lt_of_lt_of_eq (show j < 1 by omega) h48.symm))))), (((((((((((Mod.refl [] w21).nt md2).nt m21).nt m22).nt m30).nt m31).nt m32).nt m33).nt m34).then m35 ((aC (.inr (lT sz8 lR)) aN))).nt m36)⟩
  ·refine DP.op (i := 8) rfl rfl (.free rfl) rfl (ltb rfl) ?_
   intro w39 m37
   refine Op1.mono (op_alloc (cs := [.slice none 0 0, .slice none 0 0, .slice none 0 0, vI 0, vF 0, vF 0, vF 0, vF 0, vF 0, .bool false, vF 0, vF 0, vF 0]) Try.zeroValue33 rfl) ?_
   rintro _ w40 ⟨rfl, r51, m38, z12⟩
   refine ⟨(((Mod.refl [] w22).nt m37).nt m38), ?_⟩
   refine DR.one1 (i := 2) rfl rfl (by kernel_rfl) (.free rfl) rfl (ltb rfl) ?_
   intro w41 m39
   refine Op1.mono (op_makeF (i := Try.t27) rfl rfl rfl rfl Try.underlying26 rfl rfl rfl rfl (by first | omega | decide)) ?_
   rintro _ w42 ⟨rfl, r52, m40, z13⟩
   refine ⟨(((((Mod.refl [] w22).nt m37).nt m38).nt m39).nt m40), ?_⟩
   refine DR.one (i := 3) rfl rfl (by kernel_rfl) (.free rfl) rfl (ltb rfl) (vs := [.func (.func 21) #[] #[], .agg #[vS bR'3 0 1 cR'3, vS bL'3 0 1 cL'3, vS bS'3 0 0 cS'3, vI 1, vF r_1, vF f1, vF 0, vF (zz2.s0), vF (zz2.s1), .bool ((((1 + u1) % 2 : Nat) : Int) == (0 : Int)), vF 1061158912, vF 0, vF 0], vS w41.heap.size 0 mq2 mq2]) rfl ?_
   intro w43 m41
   refine ⟨oc_call (vs := [.agg #[vS bR'3 0 1 cR'3, vS bL'3 0 1 cL'3, vS bS'3 0 0 cS'3, vI 1, vF r_1, vF f1, vF 0, vF (zz2.s0), vF (zz2.s1), .bool ((((1 + u1) % 2 : Nat) : Int) == (0 : Int)), vF 1061158912, vF 0, vF 0], vS w41.heap.size 0 mq2 mq2]) (cap := []) rfl rfl rfl Try.call21 (c_iPlayN zz2 r_1 f1 ((((1 + u1) % 2 : Nat) : Int) == (0 : Int)) cR'3 bR'3 PR'3 w14.heap.size cL'3 bL'3 PL'3 w14.heap.size cS'3 bS'3 [] mq2 mq2 (some ⟨w41.heap.size, 0, none⟩) w41.heap.size 0 (List.replicate mq2 0) (by assumption) h17 h18 rfl List.length_replicate (fun _ => rfl) (by rfl) (by omega) w43 ((((((((r23.ext m19).ext m20).ext md2).ext m37).ext m38).ext m39).ext m40).ext m41).rng ((((((((r24.ext m19).ext m20).ext md2).ext m37).ext m38).ext m39).ext m40).ext m41).rng ((((((((r25.ext m19).ext m20).ext md2).ext m37).ext m38).ext m39).ext m40).ext m41).rng (r52.ext m41).rng ((((((((((((fm5.ext m15).ext m16).mod m17 (fun j hj => (nC (lG (lL (lL r8.lt sz1) (fm5.ge j (Nat.lt_of_lt_of_eq (Nat.lt_of_lt_of_eq hj h23) h23.symm)))) nN))).ext m18).ext m19).ext m20).ext md2).ext m37).ext m38).ext m39).ext m40).ext m41) ((((((((((((fm6.ext m15).ext m16).mod m17 (fun j hj => (nC (lG (lL (lL r8.lt sz1) (fm6.ge j (Nat.lt_of_lt_of_eq (Nat.lt_of_lt_of_eq hj h24) h24.symm)))) nN))).ext m18).ext m19).ext m20).ext md2).ext m37).ext m38).ext m39).ext m40).ext m41)), ?_⟩
   rintro _ w44 ⟨bR'6, cR'6, PR'6, bL'6, cL'6, PL'6, bS'6, cS'6, e'4, c3'4, A'5, ys4, zz5, rfl, h50, h51, h52, h53, h54, h55, h56, h57, h58, h59, r53, r54, r55, r56, ge20, ge21, ge22, ge23, ne25, ne26, ne27, ne28, ne29, ne30, fm11, fn42, fn43, fn44, fn45, fn46, fm12, fn47, fn48, fn49, fn50, m42⟩
   refine ⟨(((((((Mod.refl [] w22).nt m37).nt m38).nt m39).nt m40).nt m41).nt m42), ?_⟩
   refine DR.det (i := 4) rfl rfl (by kernel_rfl) (.free rfl) rfl rfl (fun wD mD => op_move rfl) ?_
   refine DR.det (i := 5) rfl rfl (by kernel_rfl) (.free rfl) rfl rfl (fun wD mD => op_extract rfl rfl) ?_
   refine DR.det (i := 6) rfl rfl (by kernel_rfl) (.free rfl) rfl rfl (fun wD mD => op_extract rfl rfl) ?_
   refine DR.det (i := 7) rfl rfl (by kernel_rfl) (.free rfl) rfl rfl (fun wD mD => op_extract rfl rfl) ?_
   refine DR.st1 (i := 9) rfl rfl (by kernel_rfl) (.free rfl) rfl ?_
   intro w45 m43
   refine Op1.mono (op_store (i := 0) (cs := [vS bR'6 0 1 cR'6, vS bL'6 0 1 cL'6, vS bS'6 0 0 cS'6, vI 1, vF r_1, vF f1, vF 0, vF (zz5.s0), vF (zz5.s1), .bool ((((1 + u1) % 2 : Nat) : Int) == (0 : Int)), vF 1061158912, vF 0, vF 0]) rfl rfl rfl Try.sizeOf33 rfl (((((r51.ext m39).ext m40).ext m41).ext m42).ext m43) rfl (lB rfl) rfl) ?_
   rintro _ w46 ⟨r57, m44, z14⟩
   have r58 : Row w46 w39.heap.size 0 [vS bR'6 0 1 cR'6, vS bL'6 0 1 cL'6, vS bS'6 0 0 cS'6, vI 1, vF r_1, vF f1, vF 0, vF (zz5.s0), vF (zz5.s1), .bool ((((1 + u1) % 2 : Nat) : Int) == (0 : Int)), vF 1061158912, vF 0, vF 0] := Row.congr r57 rfl
   refine ⟨(((((((((Mod.refl [] w22).nt m37).nt m38).nt m39).nt m40).nt m41).nt m42).nt m43).then m44 ((aC (.inr (lT m37.size lR)) aN))), ?_⟩
   refine DR.rebase ?_
   refine DR.det (i := 10) rfl rfl (by kernel_rfl) (.free rfl) rfl rfl (fun wD mD => op_assign rfl) ?_
   refine DR.sub [(4, .bool false), (6, vP w6.heap.size 0), (13, vI ((mq2 : Nat) : Int)), (15, vP w39.heap.size 0), (107, vI 0)] ⟨rfl, rfl, rfl, rfl, rfl, trivial⟩ ?_
   refine DR.meet rfl ?_
   intro w47 m45
   have r59 := (((((r52.ext m41).ext m42).ext m43).mod m44 (nC (lG (lL (lL r51.lt m39.size) lR)) nN)).ext m45)
   have sz10 := (lT (lT m39.size m40.size) m41.size)
   have r60 := (((r53.ext m43).mod m44 (nC (lG (lL (lL r51.lt sz10) ge20)) nN)).ext m45)
   have r61 := (((r54.ext m43).mod m44 (nC (lG (lL (lL r51.lt sz10) ge21)) nN)).ext m45)
   have r62 := (((r55.ext m43).mod m44 (nC (lG (lL (lL r51.lt sz10) ge22)) nN)).ext m45)
   have r63 := (((r56.ext m43).mod m44 (nC (lG (lL (lL r51.lt sz10) ge23)) nN)).ext m45)
   have sz11 := (lT (lT (lT md2.size m37.size) m38.size) m39.size)
   have sz12 := (lT (lT sz11 m40.size) m41.size)
   exact ⟨w41.heap.size, bR'6, cR'6, PR'6, bL'6, cL'6, PL'6, bS'6, cS'6, e'4, c3'4, A'5, ys4, zz5, w39.heap.size, rfl, r59, r60, r61, r62, r63, (r58.ext m45), (lT sz11 lR), (lT sz12 ge20), (lT sz12 ge21), (lT sz12 ge22), (lT sz12 ge23), (lT (lT md2.size m37.size) lR), (lE (lL (lL r52.lt m41.size) ge20)), (lE (lL (lL r52.lt m41.size) ge21)), (lE (lL (lL r52.lt m41.size) ge22)), (lE (lL (lL r52.lt m41.size) ge23)), (lG (lL (lL r51.lt m39.size) lR)), ne25, ne26, ne28, (lG (lL (lL r51.lt sz10) ge20)), ne27, ne29, (lG (lL (lL r51.lt sz10) ge21)), ne30, (lG (lL (lL r51.lt sz10) ge22)), (lG (lL (lL r51.lt sz10) ge23)), h50, h51, h52, h53, h54, h55, h56, h57, h58, h59, (OF.low (((fm11.ext m43).mod m44 (fun j hj => (nC (lG (lL (lL r51.lt sz10) (fm11.ge j (Nat.lt_of_lt_of_eq (Nat.lt_of_lt_of_eq hj h57) h57.symm)))) nN))).ext m45) sz12), (fun j hj => (lG (lL (lL r52.lt m41.size) (fm11.ge j (Nat.lt_of_lt_of_eq (show j < 1 by omega) h57.symm))))), (fun j hj => (fn42 j (show j < 1 by omega))), (fun j hj => (fn43 j (show j < 1 by omega))), (fun j hj => (fn44 j (show j < 1 by omega))), (fun j hj => (fn46 j (show j < 1 by omega))), (fun j hj => (lG (lL (lL r51.lt sz10) (fm11.ge j (Nat.lt_of_lt_of_eq (show j < 1 by omega) h57.symm))))), (fun j q hj hq => (fn45 j q (show j < 1 by omega) (show q < 1 by omega))), (OF.low (((fm12.ext m43).mod m44 (fun j hj => (nC (lG (lL (lL r51.lt sz10) (fm12.ge j (Nat.lt_of_lt_of_eq (Nat.lt_of_lt_of_eq hj h58) h58.symm)))) nN))).ext m45) sz12), (fun j hj => (lG (lL (lL r52.lt m41.size) (fm12.ge j (Nat.lt_of_lt_of_eq (show j < 1 by omega) h58.symm))))), (fun j hj => (fn47 j (show j < 1 by omega))), (fun j hj => (fn48 j (show j < 1 by omega))), (fun j hj => (fn49 j (show j < 1 by omega))), (fun j hj => (fn50 j (show j < 1 by omega))), (fun j hj => (lG (lL (lL r51.lt sz10) (fm12.ge j (Nat.lt_of_lt_of_eq (show j < 1 by omega) h58.symm))))), (((((((((((Mod.refl [] w21).nt md2).nt m37).nt m38).nt m39).nt m40).nt m41).nt m42).nt m43).then m44 ((aC (.inr (lT (lT md2.size m37.size) lR)) aN))).nt m45)⟩
 ·rintro _ w48 ⟨e2_2_0, e2_3_0, e2_3_1, e2_3_2, e2_3_3, e2_3_4, e2_3_5, e2_3_6, e2_3_7, e2_3_8, e2_3_9, e2_3_10, e2_3_11, e2_3_12, e2_8_0, rfl, rr2_0, rr2_1, rr2_2, rr2_3, rr2_4, rr2_5, ge24, ge25, ge26, ge27, ge28, ge29, ne31, ne32, ne33, ne34, ne35, ne36, ne37, ne38, ne39, ne40, ne41, ne42, ne43, ne44, ne45, hp2_3_0, hp2_3_1, hp2_3_2, hp2_3_3, hp2_3_4, hp2_3_5, hp2_3_6, hp2_3_7, hp2_3_8, hp2_3_9, fr2_0, fa2_0_0, fa2_0_1, fa2_0_2, fa2_0_3, fa2_0_4, fa2_0_5, fb2_0_0, fr2_1, fa2_1_0, fa2_1_1, fa2_1_2, fa2_1_3, fa2_1_4, fa2_1_5, m46⟩
  refine WO.det (op_assign rfl) rfl (.free rfl) rfl rfl ?_
  refine WO.end (NE.code (CE.seq (CE.region ?_)))
  refine WL.det (op_loadA (i := 0) (cs := [vS e2_3_0 0 1 e2_3_1, vS e2_3_3 0 1 e2_3_4, vS e2_3_6 0 0 e2_3_7, vI 1, vF r_1, vF f1, vF 0, vF (e2_3_12.s0), vF (e2_3_12.s1), .bool ((((1 + u1) % 2 : Nat) : Int) == (0 : Int)), vF 1061158912, vF 0, vF 0]) rfl Try.isAgg33 Try.sizeOf33 rr2_5.rng rfl rfl rfl) rfl rfl rfl ?_
  refine WL.call (oc_call (vs := [.agg #[vS e2_3_0 0 1 e2_3_1, vS e2_3_3 0 1 e2_3_4, vS e2_3_6 0 0 e2_3_7, vI 1, vF r_1, vF f1, vF 0, vF (e2_3_12.s0), vF (e2_3_12.s1), .bool ((((1 + u1) % 2 : Nat) : Int) == (0 : Int)), vF 1061158912, vF 0, vF 0]]) (cap := []) rfl rfl rfl Try.call22 (c_IsSilN e2_3_12 r_1 f1 ((((1 + u1) % 2 : Nat) : Int) == (0 : Int)) e2_3_1 e2_3_0 e2_3_2 w21.heap.size e2_3_4 e2_3_3 e2_3_5 w21.heap.size e2_3_7 e2_3_6 [] (by assumption) hp2_3_0 hp2_3_1 rfl w48 rr2_1.rng rr2_2.rng rr2_3.rng fr2_0 fr2_1)) rfl rfl (ltb rfl) ?_
  rintro _ w49 ⟨rfl, m47⟩
  refine WL.det (op_move rfl) rfl rfl rfl ?_
  iterate 2 refine WL.det (op_extract rfl rfl) rfl rfl rfl ?_
  iterate 2 refine WL.det (op_assign rfl) rfl rfl rfl ?_
  refine WL.end (NE.code (CE.seq ?_))
  refine CE.drawF (fun | 2 => some (fun _ wA uA wB => ∃ (bR' : Nat) (cR' : Nat) (PR' : List BC) (bL' : Nat) (cL' : Nat) (PL' : List BC) (bS' : Nat) (cS' : Nat) (e' : Nat) (c3' : Nat) (A' : Option Addr) (ys : List Nat) (zz : PipeSt), uA = .tuple #[.agg #[vS bR' 0 1 cR', vS bL' 0 1 cL', vS bS' 0 0 cS', vI 1, vF r_1, vF f1, vF 0, vF (zz.s0), vF (zz.s1), .bool ((((1 + u1) % 2 : Nat) : Int) == (0 : Int)), vF 1061158912, vF 0, vF 0], .slice A' 5 c3', vI 0] ∧ (PR'.length = 1) ∧ (PL'.length = 1) ∧ (0 < 5 → A' = some ⟨e', 0, none⟩) ∧ (ys.length = 5) ∧ (W32 ys) ∧ (Cn ys (outs (zOut r_1 f1 ((((1 + u1) % 2 : Nat) : Int) == (0 : Int)) e2_3_12 (fun _ => 0)) 5)) ∧ (LX r_1 f1 zz) ∧ (zz.R.length = 1) ∧ (zz.L.length = 1) ∧ (zz = zAt r_1 f1 ((((1 + u1) % 2 : Nat) : Int) == (0 : Int)) e2_3_12 (fun _ => 0) 5) ∧ Row wB bR' 0 (olc zz.R PR') ∧ Row wB bL' 0 (olc zz.L PL') ∧ Row wB bS' 0 (fl []) ∧ Row wB e' 0 (fl ys) ∧ wA.heap.size ≤ bR' ∧ wA.heap.size ≤ bL' ∧ wA.heap.size ≤ bS' ∧ wA.heap.size ≤ e' ∧ bR' ≠ bL' ∧ bR' ≠ bS' ∧ bL' ≠ bS' ∧ bR' ≠ e' ∧ bL' ≠ e' ∧ bS' ≠ e' ∧ OF wA.heap.size wB zz.R PR' ∧ (∀ i, i < 1 → (PR'.getD i BC.d).b ≠ bR') ∧ (∀ i, i < 1 → (PR'.getD i BC.d).b ≠ bL') ∧ (∀ i, i < 1 → (PR'.getD i BC.d).b ≠ bS') ∧ (∀ i j, i < 1 → j < 1 → (PR'.getD i BC.d).b ≠ (PL'.getD j BC.d).b) ∧ (∀ i, i < 1 → (PR'.getD i BC.d).b ≠ e') ∧ OF wA.heap.size wB zz.L PL' ∧ (∀ i, i < 1 → (PL'.getD i BC.d).b ≠ bR') ∧ (∀ i, i < 1 → (PL'.getD i BC.d).b ≠ bL') ∧ (∀ i, i < 1 → (PL'.getD i BC.d).b ≠ bS') ∧ (∀ i, i < 1 → (PL'.getD i BC.d).b ≠ e') ∧ Mod [] wA wB) | _ => none) [0, 1, 2, 3, 4, 5, 6, 7, 8, 9] [10] [] (fun ρ W => ∃ (e3_1_0 : Nat) (e3_2_0 : Nat) (e3_2_1 : Nat) (e3_2_2 : List BC) (e3_2_3 : Nat) (e3_2_4 : Nat) (e3_2_5 : List BC) (e3_2_6 : Nat) (e3_2_7 : Nat) (e3_2_8 : Nat) (e3_2_9 : Nat) (e3_2_10 : Option Addr) (e3_2_11 : List Nat) (e3_2_12 : PipeSt) (e3_7_0 : Nat), ρ = [(4, .bool false), (6, vP w6.heap.size 0), (13, vI ((mq2 : Nat) : Int)), (17, vI 0), (18, .bool (pipeSil 1 1 e2_3_12)), (19, vI 0), (20, vP e3_7_0 0), (21, .slice e3_2_10 5 e3_2_9), (119, vI 0)] ∧ Row W e3_1_0 0 (fl (List.replicate 5 0)) ∧ Row W e3_2_0 0 (olc e3_2_12.R e3_2_2) ∧ Row W e3_2_3 0 (olc e3_2_12.L e3_2_5) ∧ Row W e3_2_6 0 (fl []) ∧ Row W e3_2_8 0 (fl e3_2_11) ∧ Row W e3_7_0 0 [vS e3_2_0 0 1 e3_2_1, vS e3_2_3 0 1 e3_2_4, vS e3_2_6 0 0 e3_2_7, vI 1, vF r_1, vF f1, vF 0, vF (e3_2_12.s0), vF (e3_2_12.s1), .bool ((((1 + u1) % 2 : Nat) : Int) == (0 : Int)), vF 1061158912, vF 0, vF 0] ∧ w49.heap.size ≤ e3_1_0 ∧ w49.heap.size ≤ e3_2_0 ∧ w49.heap.size ≤ e3_2_3 ∧ w49.heap.size ≤ e3_2_6 ∧ w49.heap.size ≤ e3_2_8 ∧ w49.heap.size ≤ e3_7_0 ∧ e3_1_0 ≠ e3_2_0 ∧ e3_1_0 ≠ e3_2_3 ∧ e3_1_0 ≠ e3_2_6 ∧ e3_1_0 ≠ e3_2_8 ∧ e3_1_0 ≠ e3_7_0 ∧ e3_2_0 ≠ e3_2_3 ∧ e3_2_0 ≠ e3_2_6 ∧ e3_2_0 ≠ e3_2_8 ∧ e3_2_0 ≠ e3_7_0 ∧ e3_2_3 ≠ e3_2_6 ∧ e3_2_3 ≠ e3_2_8 ∧ e3_2_3 ≠ e3_7_0 ∧ e3_2_6 ≠ e3_2_8 ∧ e3_2_6 ≠ e3_7_0 ∧ e3_2_8 ≠ e3_7_0 ∧ (e3_2_2.length = 1) ∧ (e3_2_5.length = 1) ∧ (0 < 5 → e3_2_10 = some ⟨e3_2_8, 0, none⟩) ∧ (e3_2_11.length = 5) ∧ (W32 e3_2_11) ∧ (Cn e3_2_11 (outs (zOut r_1 f1 ((((1 + u1) % 2 : Nat) : Int) == (0 : Int)) e2_3_12 (fun _ => 0)) 5)) ∧ (LX r_1 f1 e3_2_12) ∧ (e3_2_12.R.length = 1) ∧ (e3_2_12.L.length = 1) ∧ (e3_2_12 = zAt r_1 f1 ((((1 + u1) % 2 : Nat) : Int) == (0 : Int)) e2_3_12 (fun _ => 0) 5) ∧ OF w49.heap.size W e3_2_12.R e3_2_2 ∧ (∀ i, i < 1 → (e3_2_2.getD i BC.d).b ≠ e3_1_0) ∧ (∀ i, i < 1 → (e3_2_2.getD i BC.d).b ≠ e3_2_0) ∧ (∀ i, i < 1 → (e3_2_2.getD i BC.d).b ≠ e3_2_3) ∧ (∀ i, i < 1 → (e3_2_2.getD i BC.d).b ≠ e3_2_6) ∧ (∀ i, i < 1 → (e3_2_2.getD i BC.d).b ≠ e3_2_8) ∧ (∀ i, i < 1 → (e3_2_2.getD i BC.d).b ≠ e3_7_0) ∧ (∀ i j, i < 1 → j < 1 → (e3_2_2.getD i BC.d).b ≠ (e3_2_5.getD j BC.d).b) ∧ OF w49.heap.size W e3_2_12.L e3_2_5 ∧ (∀ i, i < 1 → (e3_2_5.getD i BC.d).b ≠ e3_1_0) ∧ (∀ i, i < 1 → (e3_2_5.getD i BC.d).b ≠ e3_2_0) ∧ (∀ i, i < 1 → (e3_2_5.getD i BC.d).b ≠ e3_2_3) ∧ (∀ i, i < 1 → (e3_2_5.getD i BC.d).b ≠ e3_2_6) ∧ (∀ i, i < 1 → (e3_2_5.getD i BC.d).b ≠ e3_2_8) ∧ (∀ i, i < 1 → (e3_2_5.getD i BC.d).b ≠ e3_7_0) ∧ Mod [] w49 W) (by kernel_rfl) (by kernel_rfl) ?_ ?_
  have md3 : Mod [] w49 w49.drew := (Mod.refl _ _).drew
  generalize w49.drew = w50 at md3 ⊢
  ·refine DR.det (i := 0) rfl rfl (by kernel_rfl) (.free rfl) rfl rfl (fun wD mD => op_loadA (i := 0) (cs := [vS e2_3_0 0 1 e2_3_1, vS e2_3_3 0 1 e2_3_4, vS e2_3_6 0 0 e2_3_7, vI 1, vF r_1, vF f1, vF 0, vF (e2_3_12.s0), vF (e2_3_12.s1), .bool ((((1 + u1) % 2 : Nat) : Int) == (0 : Int)), vF 1061158912, vF 0, vF 0]) rfl Try.isAgg33 Try.sizeOf33 (((rr2_5.ext m47).ext md3).ext mD).rng rfl rfl rfl) ?_
   refine DR.fork (is := [1, 7]) (by kernel_rfl) (by decide) (all2 ?_ ?_)
   ·refine DP.op (i := 1) rfl rfl (.free rfl) rfl (ltb rfl) ?_
    intro w51 m48
    refine Op1.mono (op_makeF (i := Try.t27) rfl rfl rfl rfl Try.underlying26 rfl rfl rfl rfl (by first | omega | decide)) ?_
    rintro _ w52 ⟨rfl, r64, m49, z15⟩
    refine ⟨(((Mod.refl [] w50).nt m48).nt m49), ?_⟩
    refine DR.fork (is := [2, 7]) (by kernel_rfl) (by decide) (all2 ?_ ?_)
    ·refine DP.call (i := 2) rfl rfl (.free rfl) rfl (ltb rfl) (vs := [.func (.func 21) #[] #[], .agg #[vS e2_3_0 0 1 e2_3_1, vS e2_3_3 0 1 e2_3_4, vS e2_3_6 0 0 e2_3_7, vI 1, vF r_1, vF f1, vF 0, vF (e2_3_12.s0), vF (e2_3_12.s1), .bool ((((1 + u1) % 2 : Nat) : Int) == (0 : Int)), vF 1061158912, vF 0, vF 0], vS w51.heap.size 0 5 5]) rfl ?_
     intro w53 m50
     refine ⟨oc_call (vs := [.agg #[vS e2_3_0 0 1 e2_3_1, vS e2_3_3 0 1 e2_3_4, vS e2_3_6 0 0 e2_3_7, vI 1, vF r_1, vF f1, vF 0, vF (e2_3_12.s0), vF (e2_3_12.s1), .bool ((((1 + u1) % 2 : Nat) : Int) == (0 : Int)), vF 1061158912, vF 0, vF 0], vS w51.heap.size 0 5 5]) (cap := []) rfl rfl rfl Try.call21 (c_iPlayN e2_3_12 r_1 f1 ((((1 + u1) % 2 : Nat) : Int) == (0 : Int)) e2_3_1 e2_3_0 e2_3_2 w21.heap.size e2_3_4 e2_3_3 e2_3_5 w21.heap.size e2_3_7 e2_3_6 [] 5 5 (some ⟨w51.heap.size, 0, none⟩) w51.heap.size 0 (List.replicate 5 0) (by assumption) hp2_3_0 hp2_3_1 rfl List.length_replicate (fun _ => rfl) (by rfl) (by omega) w53 (((((rr2_1.ext m47).ext md3).ext m48).ext m49).ext m50).rng (((((rr2_2.ext m47).ext md3).ext m48).ext m49).ext m50).rng (((((rr2_3.ext m47).ext md3).ext m48).ext m49).ext m50).rng (r64.ext m50).rng (((((fr2_0.ext m47).ext md3).ext m48).ext m49).ext m50) (((((fr2_1.ext m47).ext md3).ext m48).ext m49).ext m50)), ?_⟩
     rintro _ w54 ⟨bR'7, cR'7, PR'7, bL'7, cL'7, PL'7, bS'7, cS'7, e'5, c3'5, A'6, ys5, zz6, rfl, h60, h61, h62, h63, h64, h65, h66, h67, h68, h69, r65, r66, r67, r68, ge30, ge31, ge32, ge33, ne46, ne47, ne48, ne49, ne50, ne51, fm13, fn51, fn52, fn53, fn54, fn55, fm14, fn56, fn57, fn58, fn59, m51⟩
     refine ⟨(((((Mod.refl [] w50).nt m48).nt m49).nt m50).nt m51), ?_⟩
     refine DR.det (i := 3) rfl rfl (by kernel_rfl) (.free rfl) rfl rfl (fun wD mD => op_move rfl) ?_
     refine DR.det (i := 4) rfl rfl (by kernel_rfl) (.free rfl) rfl rfl (fun wD mD => op_extract rfl rfl) ?_
     refine DR.det (i := 5) rfl rfl (by kernel_rfl) (.free rfl) rfl rfl (fun wD mD => op_extract rfl rfl) ?_
     refine DR.det (i := 6) rfl rfl (by kernel_rfl) (.free rfl) rfl rfl (fun wD mD => op_extract rfl rfl) ?_
     refine DR.one1 (i := 7) rfl rfl (by kernel_rfl) (.free rfl) rfl (ltb rfl) ?_
     intro w55 m52
     refine Op1.mono (op_alloc (cs := [.slice none 0 0, .slice none 0 0, .slice none 0 0, vI 0, vF 0, vF 0, vF 0, vF 0, vF 0, .bool false, vF 0, vF 0, vF 0]) Try.zeroValue33 rfl) ?_
     rintro _ w56 ⟨rfl, r69, m53, z16⟩
     refine ⟨(((((((Mod.refl [] w50).nt m48).nt m49).nt m50).nt m51).nt m52).nt m53), ?_⟩
     refine DR.st1 (i := 8) rfl rfl (by kernel_rfl) (.free rfl) rfl ?_
     intro w57 m54
     refine Op1.mono (op_store (i := 0) (cs := [vS bR'7 0 1 cR'7, vS bL'7 0 1 cL'7, vS bS'7 0 0 cS'7, vI 1, vF r_1, vF f1, vF 0, vF (zz6.s0), vF (zz6.s1), .bool ((((1 + u1) % 2 : Nat) : Int) == (0 : Int)), vF 1061158912, vF 0, vF 0]) rfl rfl rfl Try.sizeOf33 rfl (r69.ext m54) rfl (lB rfl) rfl) ?_
     rintro _ w58 ⟨r70, m55, z17⟩
     have r71 : Row w58 w55.heap.size 0 [vS bR'7 0 1 cR'7, vS bL'7 0 1 cL'7, vS bS'7 0 0 cS'7, vI 1, vF r_1, vF f1, vF 0, vF (zz6.s0), vF (zz6.s1), .bool ((((1 + u1) % 2 : Nat) : Int) == (0 : Int)), vF 1061158912, vF 0, vF 0] := Row.congr r70 rfl
     have sz13 := (lT (lT (lT (lT m48.size m49.size) m50.size) m51.size) m52.size)
     refine ⟨(((((((((Mod.refl [] w50).nt m48).nt m49).nt m50).nt m51).nt m52).nt m53).nt m54).then m55 ((aC (.inr (lT sz13 lR)) aN))), ?_⟩
     refine DR.rebase ?_
     refine DR.det (i := 9) rfl rfl (by kernel_rfl) (.free rfl) rfl rfl (fun wD mD => op_assign rfl) ?_
     refine DR.sub [(4, .bool false), (6, vP w6.heap.size 0), (13, vI ((mq2 : Nat) : Int)), (17, vI 0), (18, .bool (pipeSil 1 1 e2_3_12)), (19, vI 0), (20, vP w55.heap.size 0), (21, .slice A'6 5 c3'5), (119, vI 0)] ⟨rfl, rfl, rfl, rfl, rfl, rfl, rfl, rfl, rfl, trivial⟩ ?_
     refine DR.meet rfl ?_
     intro w59 m56
     have sz14 := (lT (lT m50.size m51.size) m52.size)
     have r72 := (((((((r64.ext m50).ext m51).ext m52).ext m53).ext m54).mod m55 (nC (lE (lL (lL r64.lt sz14) lR)) nN)).ext m56)
     have r73 := (((((r65.ext m52).ext m53).ext m54).mod m55 (nC (lE (lL (lL r65.lt m52.size) lR)) nN)).ext m56)
     have r74 := (((((r66.ext m52).ext m53).ext m54).mod m55 (nC (lE (lL (lL r66.lt m52.size) lR)) nN)).ext m56)
     have r75 := (((((r67.ext m52).ext m53).ext m54).mod m55 (nC (lE (lL (lL r67.lt m52.size) lR)) nN)).ext m56)
     have r76 := (((((r68.ext m52).ext m53).ext m54).mod m55 (nC (lE (lL (lL r68.lt m52.size) lR)) nN)).ext m56)
     have sz15 := (lT (lT (lT md3.size m48.size) m49.size) m50.size)
     have sz16 := (lT (lT sz15 m51.size) m52.size)
     exact ⟨w51.heap.size, bR'7, cR'7, PR'7, bL'7, cL'7, PL'7, bS'7, cS'7, e'5, c3'5, A'6, ys5, zz6, w55.heap.size, rfl, r72, r73, r74, r75, r76, (r71.ext m56), (lT (lT md3.size m48.size) lR), (lT sz15 ge30), (lT sz15 ge31), (lT sz15 ge32), (lT sz15 ge33), (lT sz16 lR), (lE (lL (lL r64.lt m50.size) ge30)), (lE (lL (lL r64.lt m50.size) ge31)), (lE (lL (lL r64.lt m50.size) ge32)), (lE (lL (lL r64.lt m50.size) ge33)), (lE (lL (lL r64.lt sz14) lR)), ne46, ne47, ne49, (lE (lL (lL r65.lt m52.size) lR)), ne48, ne50, (lE (lL (lL r66.lt m52.size) lR)), ne51, (lE (lL (lL r67.lt m52.size) lR)), (lE (lL (lL r68.lt m52.size) lR)), h60, h61, h62, h63, h64, h65, h66, h67, h68, h69, (OF.low (((((fm13.ext m52).ext m53).ext m54).mod m55 (fun j hj => (nC (lE (lL (OF.lt fm13 (Nat.lt_of_lt_of_eq (Nat.lt_of_lt_of_eq hj h67) h67.symm)) (lT m52.size lR))) nN))).ext m56) sz15), (fun j hj => (lG (lL (lL r64.lt m50.size) (fm13.ge j (Nat.lt_of_lt_of_eq (show j < 1 by omega) h67.symm))))), (fun j hj => (fn51 j (show j < 1 by omega))), (fun j hj => (fn52 j (show j < 1 by omega))), (fun j hj => (fn53 j (show j < 1 by omega))), (fun j hj => (fn55 j (show j < 1 by omega))), (fun j hj => (lE (lL (OF.lt fm13 (Nat.lt_of_lt_of_eq (show j < 1 by omega) h67.symm)) (lT m52.size lR)))), (fun j q hj hq => (fn54 j q (show j < 1 by omega) (show q < 1 by omega))), (OF.low (((((fm14.ext m52).ext m53).ext m54).mod m55 (fun j hj => (nC (lE (lL (OF.lt fm14 (Nat.lt_of_lt_of_eq (Nat.lt_of_lt_of_eq hj h68) h68.symm)) (lT m52.size lR))) nN))).ext m56) sz15), (fun j hj => (lG (lL (lL r64.lt m50.size) (fm14.ge j (Nat.lt_of_lt_of_eq (show j < 1 by omega) h68.symm))))), (fun j hj => (fn56 j (show j < 1 by omega))), (fun j hj => (fn57 j (show j < 1 by omega))), (fun j hj => (fn58 j (show j < 1 by omega))), (fun j hj => (fn59 j (show j < 1 by omega))), (fun j hj => (lE (lL (OF.lt fm14 (Nat.lt_of_lt_of_eq (show j < 1 by omega) h68.symm)) (lT m52.size lR)))), (((((((((((Mod.refl [] w49).nt md3).nt m48).nt m49).nt m50).nt m51).nt m52).nt m53).nt m54).then m55 ((aC (.inr (lT sz16 lR)) aN))).nt m56)⟩
    ·refine DP.op (i := 7) rfl rfl (.free rfl) rfl (ltb rfl) ?_
     intro w60 m57
     refine Op1.mono (op_alloc (cs := [.slice none 0 0, .slice none 0 0, .slice none 0 0, vI 0, vF 0, vF 0, vF 0, vF 0, vF 0, .bool false, vF 0, vF 0, vF 0]) Try.zeroValue33 rfl) ?_
     rintro _ w61 ⟨rfl, r77, m58, z18⟩
     refine ⟨(((((Mod.refl [] w50).nt m48).nt m49).nt m57).nt m58), ?_⟩
     refine DR.one (i := 2) rfl rfl (by kernel_rfl) (.free rfl) rfl (ltb rfl) (vs := [.func (.func 21) #[] #[], .agg #[vS e2_3_0 0 1 e2_3_1, vS e2_3_3 0 1 e2_3_4, vS e2_3_6 0 0 e2_3_7, vI 1, vF r_1, vF f1, vF 0, vF (e2_3_12.s0), vF (e2_3_12.s1), .bool ((((1 + u1) % 2 : Nat) : Int) == (0 : Int)), vF 1061158912, vF 0, vF 0], vS w51.heap.size 0 5 5]) rfl ?_
     intro w62 m59
     refine ⟨oc_call (vs := [.agg #[vS e2_3_0 0 1 e2_3_1, vS e2_3_3 0 1 e2_3_4, vS e2_3_6 0 0 e2_3_7, vI 1, vF r_1, vF f1, vF 0, vF (e2_3_12.s0), vF (e2_3_12.s1), .bool ((((1 + u1) % 2 : Nat) : Int) == (0 : Int)), vF 1061158912, vF 0, vF 0], vS w51.heap.size 0 5 5]) (cap := []) rfl rfl rfl Try.call21 (c_iPlayN e2_3_12 r_1 f1 ((((1 + u1) % 2 : Nat) : Int) == (0 : Int)) e2_3_1 e2_3_0 e2_3_2 w21.heap.size e2_3_4 e2_3_3 e2_3_5 w21.heap.size e2_3_7 e2_3_6 [] 5 5 (some ⟨w51.heap.size, 0, none⟩) w51.heap.size 0 (List.replicate 5 0) (by assumption) hp2_3_0 hp2_3_1 rfl List.length_replicate (fun _ => rfl) (by rfl) (by omega) w62 (((((((rr2_1.ext m47).ext md3).ext m48).ext m49).ext m57).ext m58).ext m59).rng (((((((rr2_2.ext m47).ext md3).ext m48).ext m49).ext m57).ext m58).ext m59).rng (((((((rr2_3.ext m47).ext md3).ext m48).ext m49).ext m57).ext m58).ext m59).rng (((r64.ext m57).ext m58).ext m59).rng (((((((fr2_0.ext m47).ext md3).ext m48).ext m49).ext m57).ext m58).ext m59) (((((((fr2_1.ext m47).ext md3).ext m48).ext m49).ext m57).ext m58).ext m59)), ?_⟩
     rintro _ w63 ⟨bR'8, cR'8, PR'8, bL'8, cL'8, PL'8, bS'8, cS'8, e'6, c3'6, A'7, ys6, zz7, rfl, h70, h71, h72, h73, h74, h75, h76, h77, h78, h79, r78, r79, r80, r81, ge34, ge35, ge36, ge37, ne52, ne53, ne54, ne55, ne56, ne57, fm15, fn60, fn61, fn62, fn63, fn64, fm16, fn65, fn66, fn67, fn68, m60⟩
     refine ⟨(((((((Mod.refl [] w50).nt m48).nt m49).nt m57).nt m58).nt m59).nt m60), ?_⟩
     refine DR.det (i := 3) rfl rfl (by kernel_rfl) (.free rfl) rfl rfl (fun wD mD => op_move rfl) ?_
     refine DR.det (i := 4) rfl rfl (by kernel_rfl) (.free rfl) rfl rfl (fun wD mD => op_extract rfl rfl) ?_
     refine DR.det (i := 5) rfl rfl (by kernel_rfl) (.free rfl) rfl rfl (fun wD mD => op_extract rfl rfl) ?_
     refine DR.det (i := 6) rfl rfl (by kernel_rfl) (.free rfl) rfl rfl (fun wD mD => op_extract rfl rfl) ?_
     refine DR.st1 (i := 8) rfl rfl (by kernel_rfl) (.free rfl) rfl ?_
     intro w64 m61
     refine Op1.mono (op_store (i := 0) (cs := [vS bR'8 0 1 cR'8, vS bL'8 0 1 cL'8, vS bS'8 0 0 cS'8, vI 1, vF r_1, vF f1, vF 0, vF (zz7.s0), vF (zz7.s1), .bool ((((1 + u1) % 2 : Nat) : Int) == (0 : Int)), vF 1061158912, vF 0, vF 0]) rfl rfl rfl Try.sizeOf33 rfl (((r77.ext m59).ext m60).ext m61) rfl (lB rfl) rfl) ?_
     rintro _ w65 ⟨r82, m62, z19⟩
     have r83 : Row w65 w60.heap.size 0 [vS bR'8 0 1 cR'8, vS bL'8 0 1 cL'8, vS bS'8 0 0 cS'8, vI 1, vF r_1, vF f1, vF 0, vF (zz7.s0), vF (zz7.s1), .bool ((((1 + u1) % 2 : Nat) : Int) == (0 : Int)), vF 1061158912, vF 0, vF 0] := Row.congr r82 rfl
     have sz17 := (lT (lT m48.size m49.size) m57.size)
     refine ⟨(((((((((Mod.refl [] w50).nt m48).nt m49).nt m57).nt m58).nt m59).nt m60).nt m61).then m62 ((aC (.inr (lT sz17 lR)) aN))), ?_⟩
     refine DR.rebase ?_
     refine DR.det (i := 9) rfl rfl (by kernel_rfl) (.free rfl) rfl rfl (fun wD mD => op_assign rfl) ?_
     refine DR.sub [(4, .bool false), (6, vP w6.heap.size 0), (13, vI ((mq2 : Nat) : Int)), (17, vI 0), (18, .bool (pipeSil 1 1 e2_3_12)), (19, vI 0), (20, vP w60.heap.size 0), (21, .slice A'7 5 c3'6), (119, vI 0)] ⟨rfl, rfl, rfl, rfl, rfl, rfl, rfl, rfl, rfl, trivial⟩ ?_
     refine DR.meet rfl ?_
     intro w66 m63
     have r84 := (((((((r64.ext m57).ext m58).ext m59).ext m60).ext m61).mod m62 (nC (lE (lL (lL r64.lt m57.size) lR)) nN)).ext m63)
     have r85 := (((r78.ext m61).mod m62 (nC (lG (lL (lL r77.lt m59.size) ge34)) nN)).ext m63)
     have r86 := (((r79.ext m61).mod m62 (nC (lG (lL (lL r77.lt m59.size) ge35)) nN)).ext m63)
     have r87 := (((r80.ext m61).mod m62 (nC (lG (lL (lL r77.lt m59.size) ge36)) nN)).ext m63)
     have r88 := (((r81.ext m61).mod m62 (nC (lG (lL (lL r77.lt m59.size) ge37)) nN)).ext m63)
     have sz18 := (lT (lT (lT (lT (lT md3.size m48.size) m49.size) m57.size) m58.size) m59.size)
     have sz19 := (lT (lT (lT md3.size m48.size) m49.size) m57.size)
     have sz20 := (lT (lT m57.size m58.size) m59.size)
     exact ⟨w51.heap.size, bR'8, cR'8, PR'8, bL'8, cL'8, PL'8, bS'8, cS'8, e'6, c3'6, A'7, ys6, zz7, w60.heap.size, rfl, r84, r85, r86, r87, r88, (r83.ext m63), (lT (lT md3.size m48.size) lR), (lT sz18 ge34), (lT sz18 ge35), (lT sz18 ge36), (lT sz18 ge37), (lT sz19 lR), (lE (lL (lL r64.lt sz20) ge34)), (lE (lL (lL r64.lt sz20) ge35)), (lE (lL (lL r64.lt sz20) ge36)), (lE (lL (lL r64.lt sz20) ge37)), (lE (lL (lL r64.lt m57.size) lR)), ne52, ne53, ne55, (lG (lL (lL r77.lt m59.size) ge34)), ne54, ne56, (lG (lL (lL r77.lt m59.size) ge35)), ne57, (lG (lL (lL r77.lt m59.size) ge36)), (lG (lL (lL r77.lt m59.size) ge37)), h70, h71, h72, h73, h74, h75, h76, h77, h78, h79, (OF.low (((fm15.ext m61).mod m62 (fun j hj => (nC (lG (lL (lL r77.lt m59.size) (fm15.ge j (Nat.lt_of_lt_of_eq (Nat.lt_of_lt_of_eq hj h77) h77.symm)))) nN))).ext m63) sz18), (fun j hj => (lG (lL (lL r64.lt sz20) (fm15.ge j (Nat.lt_of_lt_of_eq (show j < 1 by omega) h77.symm))))), (fun j hj => (fn60 j (show j < 1 by omega))), (fun j hj => (fn61 j (show j < 1 by omega))), (fun j hj => (fn62 j (show j < 1 by omega))), (fun j hj => (fn64 j (show j < 1 by omega))), (fun j hj => (lG (lL (lL r77.lt m59.size) (fm15.ge j (Nat.lt_of_lt_of_eq (show j < 1 by omega) h77.symm))))), (fun j q hj hq => (fn63 j q (show j < 1 by omega) (show q < 1 by omega))), (OF.low (((fm16.ext m61).mod m62 (fun j hj => (nC (lG (lL (lL r77.lt m59.size) (fm16.ge j (Nat.lt_of_lt_of_eq (Nat.lt_of_lt_of_eq hj h78) h78.symm)))) nN))).ext m63) sz18), (fun j hj => (lG (lL (lL r64.lt sz20) (fm16.ge j (Nat.lt_of_lt_of_eq (show j < 1 by omega) h78.symm))))), (fun j hj => (fn65 j (show j < 1 by omega))), (fun j hj => (fn66 j (show j < 1 by omega))), (fun j hj => (fn67 j (show j < 1 by omega))), (fun j hj => (fn68 j (show j < 1 by omega))), (fun j hj => (lG (lL (lL r77.lt m59.size) (fm16.ge j (Nat.lt_of_lt_of_eq (show j < 1 by omega) h78.symm))))), (((((((((((Mod.refl [] w49).nt md3).nt m48).nt m49).nt m57).nt m58).nt m59).nt m60).nt m61).then m62 ((aC (.inr (lT sz19 lR)) aN))).nt m63)⟩
   ·refine DP.op (i := 7) rfl rfl (.free rfl) rfl (ltb rfl) ?_
    intro w67 m64
    refine Op1.mono (op_alloc (cs := [.slice none 0 0, .slice none 0 0, .slice none 0 0, vI 0, vF 0, vF 0, vF 0, vF 0, vF 0, .bool false, vF 0, vF 0, vF 0]) Try.zeroValue33 rfl) ?_
    rintro _ w68 ⟨rfl, r89, m65, z20⟩
    refine ⟨(((Mod.refl [] w50).nt m64).nt m65), ?_⟩
    refine DR.one1 (i := 1) rfl rfl (by kernel_rfl) (.free rfl) rfl (ltb rfl) ?_
    intro w69 m66
    refine Op1.mono (op_makeF (i := Try.t27) rfl rfl rfl rfl Try.underlying26 rfl rfl rfl rfl (by first | omega | decide)) ?_
    rintro _ w70 ⟨rfl, r90, m67, z21⟩
    refine ⟨(((((Mod.refl [] w50).nt m64).nt m65).nt m66).nt m67), ?_⟩
    refine DR.one (i := 2) rfl rfl (by kernel_rfl) (.free rfl) rfl (ltb rfl) (vs := [.func (.func 21) #[] #[], .agg #[vS e2_3_0 0 1 e2_3_1, vS e2_3_3 0 1 e2_3_4, vS e2_3_6 0 0 e2_3_7, vI 1, vF r_1, vF f1, vF 0, vF (e2_3_12.s0), vF (e2_3_12.s1), .bool ((((1 + u1) % 2 : Nat) : Int) == (0 : Int)), vF 1061158912, vF 0, vF 0], vS w69.heap.size 0 5 5]) rfl ?_
    intro w71 m68
    refine ⟨oc_call (vs := [.agg #[vS e2_3_0 0 1 e2_3_1, vS e2_3_3 0 1 e2_3_4, vS e2_3_6 0 0 e2_3_7, vI 1, vF r_1, vF f1, vF 0, vF (e2_3_12.s0), vF (e2_3_12.s1), .bool ((((1 + u1) % 2 : Nat) : Int) == (0 : Int)), vF 1061158912, vF 0, vF 0], vS w69.heap.size 0 5 5]) (cap := []) rfl rfl rfl Try.call21 (c_iPlayN e2_3_12 r_1 f1 ((((1 + u1) % 2 : Nat) : Int) == (0 : Int)) e2_3_1 e2_3_0 e2_3_2 w21.heap.size e2_3_4 e2_3_3 e2_3_5 w21.heap.size e2_3_7 e2_3_6 [] 5 5 (some ⟨w69.heap.size, 0, none⟩) w69.heap.size 0 (List.replicate 5 0) (by assumption) hp2_3_0 hp2_3_1 rfl List.length_replicate (fun _ => rfl) (by rfl) (by omega) w71 (((((((rr2_1.ext m47).ext md3).ext m64).ext m65).ext m66).ext m67).ext m68).rng (((((((rr2_2.ext m47).ext md3).ext m64).ext m65).ext m66).ext m67).ext m68).rng (((((((rr2_3.ext m47).ext md3).ext m64).ext m65).ext m66).ext m67).ext m68).rng (r90.ext m68).rng (((((((fr2_0.ext m47).ext md3).ext m64).ext m65).ext m66).ext m67).ext m68) (((((((fr2_1.ext m47).ext md3).ext m64).ext m65).ext m66).ext m67).ext m68)), ?_⟩
    rintro _ w72 ⟨bR'9, cR'9, PR'9, bL'9, cL'9, PL'9, bS'9, cS'9, e'7, c3'7, A'8, ys7, zz8, rfl, h80, h81, h82, h83, h84, h85, h86, h87, h88, h89, r91, r92, r93, r94, ge38, ge39, ge40, ge41, ne58, ne59, ne60, ne61, ne62, ne63, fm17, fn69, fn70, fn71, fn72, fn73, fm18, fn74, fn75, fn76, fn77, m69⟩
    refine ⟨(((((((Mod.refl [] w50).nt m64).nt m65).nt m66).nt m67).nt m68).nt m69), ?_⟩
    refine DR.det (i := 3) rfl rfl (by kernel_rfl) (.free rfl) rfl rfl (fun wD mD => op_move rfl) ?_
    refine DR.det (i := 4) rfl rfl (by kernel_rfl) (.free rfl) rfl rfl (fun wD mD => op_extract rfl rfl) ?_
    refine DR.det (i := 5) rfl rfl (by kernel_rfl) (.free rfl) rfl rfl (fun wD mD => op_extract rfl rfl) ?_
    refine DR.det (i := 6) rfl rfl (by kernel_rfl) (.free rfl) rfl rfl (fun wD mD => op_extract rfl rfl) ?_
    refine DR.st1 (i := 8) rfl rfl (by kernel_rfl) (.free rfl) rfl ?_
    intro w73 m70
    refine Op1.mono (op_store (i := 0) (cs := [vS bR'9 0 1 cR'9, vS bL'9 0 1 cL'9, vS bS'9 0 0 cS'9, vI 1, vF r_1, vF f1, vF 0, vF (zz8.s0), vF (zz8.s1), .bool ((((1 + u1) % 2 : Nat) : Int) == (0 : Int)), vF 1061158912, vF 0, vF 0]) rfl rfl rfl Try.sizeOf33 rfl (((((r89.ext m66).ext m67).ext m68).ext m69).ext m70) rfl (lB rfl) rfl) ?_
    rintro _ w74 ⟨r95, m71, z22⟩
    have r96 : Row w74 w67.heap.size 0 [vS bR'9 0 1 cR'9, vS bL'9 0 1 cL'9, vS bS'9 0 0 cS'9, vI 1, vF r_1, vF f1, vF 0, vF (zz8.s0), vF (zz8.s1), .bool ((((1 + u1) % 2 : Nat) : Int) == (0 : Int)), vF 1061158912, vF 0, vF 0] := Row.congr r95 rfl
    refine ⟨(((((((((Mod.refl [] w50).nt m64).nt m65).nt m66).nt m67).nt m68).nt m69).nt m70).then m71 ((aC (.inr (lT m64.size lR)) aN))), ?_⟩
    refine DR.rebase ?_
    refine DR.det (i := 9) rfl rfl (by kernel_rfl) (.free rfl) rfl rfl (fun wD mD => op_assign rfl) ?_
    refine DR.sub [(4, .bool false), (6, vP w6.heap.size 0), (13, vI ((mq2 : Nat) : Int)), (17, vI 0), (18, .bool (pipeSil 1 1 e2_3_12)), (19, vI 0), (20, vP w67.heap.size 0), (21, .slice A'8 5 c3'7), (119, vI 0)] ⟨rfl, rfl, rfl, rfl, rfl, rfl, rfl, rfl, rfl, trivial⟩ ?_
    refine DR.meet rfl ?_
    intro w75 m72
    have r97 := (((((r90.ext m68).ext m69).ext m70).mod m71 (nC (lG (lL (lL r89.lt m66.size) lR)) nN)).ext m72)
    have sz21 := (lT (lT m66.size m67.size) m68.size)
    have r98 := (((r91.ext m70).mod m71 (nC (lG (lL (lL r89.lt sz21) ge38)) nN)).ext m72)
    have r99 := (((r92.ext m70).mod m71 (nC (lG (lL (lL r89.lt sz21) ge39)) nN)).ext m72)
    have r100 := (((r93.ext m70).mod m71 (nC (lG (lL (lL r89.lt sz21) ge40)) nN)).ext m72)
    have r101 := (((r94.ext m70).mod m71 (nC (lG (lL (lL r89.lt sz21) ge41)) nN)).ext m72)
    have sz22 := (lT (lT (lT md3.size m64.size) m65.size) m66.size)
    have sz23 := (lT (lT sz22 m67.size) m68.size)
    exact ⟨w69.heap.size, bR'9, cR'9, PR'9, bL'9, cL'9, PL'9, bS'9, cS'9, e'7, c3'7, A'8, ys7, zz8, w67.heap.size, rfl, r97, r98, r99, r100, r101, (r96.ext m72), (lT sz22 lR), (lT sz23 ge38), (lT sz23 ge39), (lT sz23 ge40), (lT sz23 ge41), (lT (lT md3.size m64.size) lR), (lE (lL (lL r90.lt m68.size) ge38)), (lE (lL (lL r90.lt m68.size) ge39)), (lE (lL (lL r90.lt m68.size) ge40)), (lE (lL (lL r90.lt m68.size) ge41)), (lG (lL (lL r89.lt m66.size) lR)), ne58, ne59, ne61, (lG (lL (lL r89.lt sz21) ge38)), ne60, ne62, (lG (lL (lL r89.lt sz21) ge39)), ne63, (lG (lL (lL r89.lt sz21) ge40)), (lG (lL (lL r89.lt sz21) ge41)), h80, h81, h82, h83, h84, h85, h86, h87, h88, h89, (OF.low (((fm17.ext m70).mod m71 (fun j hj => (nC (lG (lL (lL r89.lt sz21) (fm17.ge j (Nat.lt_of_lt_of_eq (Nat.lt_of_lt_of_eq hj h87) h87.symm)))) nN))).ext m72) sz23), (fun j hj => (lG (lL (lL r90.lt m68.size) (fm17.ge j (Nat.lt_of_lt_of_eq (show j < 1 by omega) h87.symm))))), (fun j hj => (fn69 j (show j < 1 by omega))), (fun j hj => (fn70 j (show j < 1 by omega))), (fun j hj => (fn71 j (show j < 1 by omega))), (fun j hj => (fn73 j (show j < 1 by omega))), (fun j hj => (lG (lL (lL r89.lt sz21) (fm17.ge j (Nat.lt_of_lt_of_eq (show j < 1 by omega) h87.symm))))), (fun j q hj hq => (fn72 j q (show j < 1 by omega) (show q < 1 by omega))), (OF.low (((fm18.ext m70).mod m71 (fun j hj => (nC (lG (lL (lL r89.lt sz21) (fm18.ge j (Nat.lt_of_lt_of_eq (Nat.lt_of_lt_of_eq hj h88) h88.symm)))) nN))).ext m72) sz23), (fun j hj => (lG (lL (lL r90.lt m68.size) (fm18.ge j (Nat.lt_of_lt_of_eq (show j < 1 by omega) h88.symm))))), (fun j hj => (fn74 j (show j < 1 by omega))), (fun j hj => (fn75 j (show j < 1 by omega))), (fun j hj => (fn76 j (show j < 1 by omega))), (fun j hj => (fn77 j (show j < 1 by omega))), (fun j hj => (lG (lL (lL r89.lt sz21) (fm18.ge j (Nat.lt_of_lt_of_eq (show j < 1 by omega) h88.symm))))), (((((((((((Mod.refl [] w49).nt md3).nt m64).nt m65).nt m66).nt m67).nt m68).nt m69).nt m70).then m71 ((aC (.inr (lT (lT md3.size m64.size) lR)) aN))).nt m72)⟩
  ·rintro _ w76 ⟨e3_1_0, e3_2_0, e3_2_1, e3_2_2, e3_2_3, e3_2_4, e3_2_5, e3_2_6, e3_2_7, e3_2_8, e3_2_9, e3_2_10, e3_2_11, e3_2_12, e3_7_0, rfl, rr3_0, rr3_1, rr3_2, rr3_3, rr3_4, rr3_5, ge42, ge43, ge44, ge45, ge46, ge47, ne64, ne65, ne66, ne67, ne68, ne69, ne70, ne71, ne72, ne73, ne74, ne75, ne76, ne77, ne78, hp3_2_0, hp3_2_1, hp3_2_2, hp3_2_3, hp3_2_4, hp3_2_5, hp3_2_6, hp3_2_7, hp3_2_8, hp3_2_9, fr3_0, fa3_0_0, fa3_0_1, fa3_0_2, fa3_0_3, fa3_0_4, fa3_0_5, fb3_0_0, fr3_1, fa3_1_0, fa3_1_1, fa3_1_2, fa3_1_3, fa3_1_4, fa3_1_5, m73⟩
   refine WO.det (op_assign rfl) rfl (.free rfl) rfl rfl ?_
   refine WO.end (NE.code (CE.seq (CE.region ?_)))
   refine WL.det (op_loadA (i := 0) (cs := [vS e3_2_0 0 1 e3_2_1, vS e3_2_3 0 1 e3_2_4, vS e3_2_6 0 0 e3_2_7, vI 1, vF r_1, vF f1, vF 0, vF (e3_2_12.s0), vF (e3_2_12.s1), .bool ((((1 + u1) % 2 : Nat) : Int) == (0 : Int)), vF 1061158912, vF 0, vF 0]) rfl Try.isAgg33 Try.sizeOf33 rr3_5.rng rfl rfl rfl) rfl rfl rfl ?_
   refine WL.call (oc_call (vs := [.agg #[vS e3_2_0 0 1 e3_2_1, vS e3_2_3 0 1 e3_2_4, vS e3_2_6 0 0 e3_2_7, vI 1, vF r_1, vF f1, vF 0, vF (e3_2_12.s0), vF (e3_2_12.s1), .bool ((((1 + u1) % 2 : Nat) : Int) == (0 : Int)), vF 1061158912, vF 0, vF 0]]) (cap := []) rfl rfl rfl Try.call22 (c_IsSilN e3_2_12 r_1 f1 ((((1 + u1) % 2 : Nat) : Int) == (0 : Int)) e3_2_1 e3_2_0 e3_2_2 w49.heap.size e3_2_4 e3_2_3 e3_2_5 w49.heap.size e3_2_7 e3_2_6 [] (by assumption) hp3_2_0 hp3_2_1 rfl w76 rr3_1.rng rr3_2.rng rr3_3.rng fr3_0 fr3_1)) rfl rfl (ltb rfl) ?_
   rintro _ w77 ⟨rfl, m74⟩
   refine WL.det (op_move rfl) rfl rfl rfl ?_
   iterate 2 refine WL.det (op_extract rfl rfl) rfl rfl rfl ?_
   iterate 2 refine WL.det (op_assign rfl) rfl rfl rfl ?_
   refine WL.end (NE.code (CE.seq (CE.seq (CE.region ?_))))
   refine WL.det (op_move rfl) rfl rfl rfl ?_
   refine WL.det (op_nei rfl rfl) rfl rfl rfl ?_
   refine WL.det (op_move rfl) rfl rfl rfl ?_
   refine WL.yes rfl rfl rfl (ltb rfl) rfl rfl ?_
   refine WL.det (op_move rfl) rfl rfl rfl ?_
   refine WL.yes rfl rfl rfl (ltb rfl) rfl rfl ?_
   refine WL.det (op_nei rfl rfl) rfl rfl rfl ?_
   refine WL.det (op_pick_f rfl rfl rfl) rfl rfl rfl ?_
   refine WL.det (op_move rfl) rfl rfl rfl ?_
   refine WL.yes rfl rfl rfl (ltb rfl) rfl rfl ?_
   refine WL.det (op_move rfl) rfl rfl rfl ?_
   refine WL.yes rfl rfl rfl (ltb rfl) rfl rfl ?_
   refine WL.det (op_not rfl) rfl rfl rfl ?_
   refine WL.det (op_pick_f rfl rfl rfl) rfl rfl rfl ?_
   refine WL.det (op_move rfl) rfl rfl rfl ?_
   refine WL.yes rfl rfl rfl (ltb rfl) rfl (bnot_t (sil_a (by assumption) (by assumption) (by assumption) (by assumption))) ?_
   refine WL.det (op_move rfl) rfl rfl rfl ?_
   refine WL.yes rfl rfl rfl (ltb rfl) rfl (bnot_t (sil_a (by assumption) (by assumption) (by assumption) (by assumption))) ?_
   refine WL.det (op_nei rfl rfl) rfl rfl rfl ?_
   refine WL.det (op_pick_f rfl (bnot_t (sil_a (by assumption) (by assumption) (by assumption) (by assumption))) rfl) rfl rfl rfl ?_
   refine WL.det (op_move rfl) rfl rfl rfl ?_
   refine WL.yes rfl rfl rfl (ltb rfl) rfl rfl ?_
   refine WL.det (op_move rfl) rfl rfl rfl ?_
   refine WL.yes rfl rfl rfl (ltb rfl) rfl rfl ?_
   refine WL.det (op_nei rfl rfl) rfl rfl rfl ?_
   refine WL.det (op_pick_f rfl rfl rfl) rfl rfl rfl ?_
   refine WL.det (op_move rfl) rfl rfl rfl ?_
   refine WL.yes rfl rfl rfl (ltb rfl) rfl rfl ?_
   refine WL.det (op_move rfl) rfl rfl rfl ?_
   refine WL.yes rfl rfl rfl (ltb rfl) rfl rfl ?_
   refine WL.det (op_not rfl) rfl rfl rfl ?_
   refine WL.det (op_pick_f rfl rfl rfl) rfl rfl rfl ?_
   refine WL.det (op_move rfl) rfl rfl rfl ?_
   refine WL.yes rfl rfl rfl (ltb rfl) rfl (bnot_t (sil_b (by assumption) (by assumption) (by assumption) (by assumption) (by assumption))) ?_
   refine WL.det (op_move rfl) rfl rfl rfl ?_
   refine WL.yes rfl rfl rfl (ltb rfl) rfl (bnot_t (sil_b (by assumption) (by assumption) (by assumption) (by assumption) (by assumption))) ?_
   refine WL.det (op_len rfl Try.runUnderlying26) rfl rfl rfl ?_
   refine WL.yes rfl rfl rfl (ltb rfl) rfl (bnot_t (sil_b (by assumption) (by assumption) (by assumption) (by assumption) (by assumption))) ?_
   refine WL.det (op_nei rfl rfl) rfl rfl rfl ?_
   refine WL.det (op_pick_f rfl (bnot_t (sil_b (by assumption) (by assumption) (by assumption) (by assumption) (by assumption))) rfl) rfl rfl rfl ?_
   refine WL.det (op_move rfl) rfl rfl rfl ?_
   refine WL.yes rfl rfl rfl (ltb rfl) rfl rfl ?_
   refine WL.det (op_move rfl) rfl rfl rfl ?_
   refine WL.yes rfl rfl rfl (ltb rfl) rfl rfl ?_
   refine WL.det (op_indexSl (off' := 4) rfl (hp3_2_2 (by omega)) rfl Try.runUnderlying26 Try.sizeOf27 (by omega) (by omega) rfl) rfl rfl rfl ?_
   refine WL.yes rfl rfl rfl (ltb rfl) rfl rfl ?_
   refine WL.det (op_load1 (i := 4) rfl Try.isAgg27 (rr3_4.ext m74).rng rfl (fl_get (by have eL : List.length e3_2_11 = 5 := hp3_2_3; omega))) rfl rfl rfl ?_
   refine WL.yes rfl rfl rfl (ltb rfl) rfl rfl ?_
   refine WL.det (op_fne (c := !(fEq .f32 (e3_2_11.getD 4 0) 0)) rfl rfl rfl rfl rfl) rfl rfl rfl ?_
   refine WL.det (op_pick_f rfl rfl rfl) rfl rfl rfl ?_
   refine WL.end (NE.code ?_)
   refine CE.cond_f rfl (bnot_t (heard_0 (by assumption) (by assumption) (by assumption) (by assumption) (by assumption) (by assumption))) ?_
   refine CE.skip' (NE.code (CE.seq (CE.seq (CE.region ?_))))
   refine WL.det (op_move rfl) rfl rfl rfl ?_
   refine WL.det (op_eqi rfl rfl) rfl rfl rfl ?_
   refine WL.end (NE.code ?_)
   rcases Bool.eq_false_or_eq_true ((((mq2 : Nat) : Int) == (0 : Int))) with hb1 | hb1
   ·have hp1 := eq_of_beq hb1
    refine CE.cond_t rfl hb1 ?_
    refine CE.seq (CE.region ?_)
    refine WL.det (op_assign rfl) rfl rfl rfl ?_
    refine WL.end (NE.code (CE.ret' (XE.ret_then ?_)))
    refine XE.leave1 Try.results3 rfl ?_
    have sz24 := (lT (lT (lT (lT (lT m1.size m2.size) m3.size) m4.size) m5.size) m6.size)
    refine ⟨rfl, ((((((((((((((((((((((((((Mod.refl [] w).nt m1).nt m2).nt m3).nt m4).nt m5).nt m6).nt m7).then m8 ((aC (.inr (lT sz24 lR)) aN))).nt m9).then m10 ((aC (.inr (lT sz24 lR)) aN))).nt md1).nt m11).nt m12).nt m13).nt m14).nt m15).nt m16).then m17 ((aC (.inr (lT sz24 lR)) aN))).nt m18).nt m19).nt m20).nt m46).nt m47).nt m73).nt m74)⟩
   ·have hp1 := ne_of_beq_false hb1
    refine CE.cond_f rfl hb1 ?_
    refine CE.skip' (NE.code (CE.seq ?_))
    refine CE.drawF (fun | 4 => some (fun _ wA uA wB => ∃ (bR' : Nat) (cR' : Nat) (PR' : List BC) (bL' : Nat) (cL' : Nat) (PL' : List BC) (bS' : Nat) (cS' : Nat) (e' : Nat) (c3' : Nat) (A' : Option Addr) (ys : List Nat) (zz : PipeSt), uA = .tuple #[.agg #[vS bR' 0 1 cR', vS bL' 0 1 cL', vS bS' 0 0 cS', vI 1, vF r_1, vF f1, vF 0, vF (zz.s0), vF (zz.s1), .bool ((((1 + u1) % 2 : Nat) : Int) == (0 : Int)), vF 1061158912, vF 0, vF 0], .slice A' (mq2 - 1) c3', vI 0] ∧ (PR'.length = 1) ∧ (PL'.length = 1) ∧ (0 < (mq2 - 1) → A' = some ⟨e', 0, none⟩) ∧ (ys.length = (mq2 - 1)) ∧ (W32 ys) ∧ (Cn ys (outs (zOut r_1 f1 ((((1 + u1) % 2 : Nat) : Int) == (0 : Int)) zz2 (fun _ => 0)) (mq2 - 1))) ∧ (LX r_1 f1 zz) ∧ (zz.R.length = 1) ∧ (zz.L.length = 1) ∧ (zz = zAt r_1 f1 ((((1 + u1) % 2 : Nat) : Int) == (0 : Int)) zz2 (fun _ => 0) (mq2 - 1)) ∧ Row wB bR' 0 (olc zz.R PR') ∧ Row wB bL' 0 (olc zz.L PL') ∧ Row wB bS' 0 (fl []) ∧ Row wB e' 0 (fl ys) ∧ wA.heap.size ≤ bR' ∧ wA.heap.size ≤ bL' ∧ wA.heap.size ≤ bS' ∧ wA.heap.size ≤ e' ∧ bR' ≠ bL' ∧ bR' ≠ bS' ∧ bL' ≠ bS' ∧ bR' ≠ e' ∧ bL' ≠ e' ∧ bS' ≠ e' ∧ OF wA.heap.size wB zz.R PR' ∧ (∀ i, i < 1 → (PR'.getD i BC.d).b ≠ bR') ∧ (∀ i, i < 1 → (PR'.getD i BC.d).b ≠ bL') ∧ (∀ i, i < 1 → (PR'.getD i BC.d).b ≠ bS') ∧ (∀ i j, i < 1 → j < 1 → (PR'.getD i BC.d).b ≠ (PL'.getD j BC.d).b) ∧ (∀ i, i < 1 → (PR'.getD i BC.d).b ≠ e') ∧ OF wA.heap.size wB zz.L PL' ∧ (∀ i, i < 1 → (PL'.getD i BC.d).b ≠ bR') ∧ (∀ i, i < 1 → (PL'.getD i BC.d).b ≠ bL') ∧ (∀ i, i < 1 → (PL'.getD i BC.d).b ≠ bS') ∧ (∀ i, i < 1 → (PL'.getD i BC.d).b ≠ e') ∧ Mod [] wA wB) | _ => none) [0, 1, 2, 3, 4, 5, 6, 7, 8, 9, 10, 11] [12] [] (fun ρ W => ∃ (e4_3_0 : Nat) (e4_4_0 : Nat) (e4_4_1 : Nat) (e4_4_2 : List BC) (e4_4_3 : Nat) (e4_4_4 : Nat) (e4_4_5 : List BC) (e4_4_6 : Nat) (e4_4_7 : Nat) (e4_4_8 : Nat) (e4_4_9 : Nat) (e4_4_10 : Option Addr) (e4_4_11 : List Nat) (e4_4_12 : PipeSt) (e4_9_0 : Nat), ρ = [(4, .bool false), (25, vP e4_9_0 0), (168, vI 0)] ∧ Row W e4_3_0 0 (fl (List.replicate (mq2 - 1) 0)) ∧ Row W e4_4_0 0 (olc e4_4_12.R e4_4_2) ∧ Row W e4_4_3 0 (olc e4_4_12.L e4_4_5) ∧ Row W e4_4_6 0 (fl []) ∧ Row W e4_4_8 0 (fl e4_4_11) ∧ Row W e4_9_0 0 [vS e4_4_0 0 1 e4_4_1, vS e4_4_3 0 1 e4_4_4, vS e4_4_6 0 0 e4_4_7, vI 1, vF r_1, vF f1, vF 0, vF (e4_4_12.s0), vF (e4_4_12.s1), .bool ((((1 + u1) % 2 : Nat) : Int) == (0 : Int)), vF 1061158912, vF 0, vF 0] ∧ w77.heap.size ≤ e4_3_0 ∧ w77.heap.size ≤ e4_4_0 ∧ w77.heap.size ≤ e4_4_3 ∧ w77.heap.size ≤ e4_4_6 ∧ w77.heap.size ≤ e4_4_8 ∧ w77.heap.size ≤ e4_9_0 ∧ e4_3_0 ≠ e4_4_0 ∧ e4_3_0 ≠ e4_4_3 ∧ e4_3_0 ≠ e4_4_6 ∧ e4_3_0 ≠ e4_4_8 ∧ e4_3_0 ≠ e4_9_0 ∧ e4_4_0 ≠ e4_4_3 ∧ e4_4_0 ≠ e4_4_6 ∧ e4_4_0 ≠ e4_4_8 ∧ e4_4_0 ≠ e4_9_0 ∧ e4_4_3 ≠ e4_4_6 ∧ e4_4_3 ≠ e4_4_8 ∧ e4_4_3 ≠ e4_9_0 ∧ e4_4_6 ≠ e4_4_8 ∧ e4_4_6 ≠ e4_9_0 ∧ e4_4_8 ≠ e4_9_0 ∧ (e4_4_2.length = 1) ∧ (e4_4_5.length = 1) ∧ (0 < (mq2 - 1) → e4_4_10 = some ⟨e4_4_8, 0, none⟩) ∧ (e4_4_11.length = (mq2 - 1)) ∧ (W32 e4_4_11) ∧ (Cn e4_4_11 (outs (zOut r_1 f1 ((((1 + u1) % 2 : Nat) : Int) == (0 : Int)) zz2 (fun _ => 0)) (mq2 - 1))) ∧ (LX r_1 f1 e4_4_12) ∧ (e4_4_12.R.length = 1) ∧ (e4_4_12.L.length = 1) ∧ (e4_4_12 = zAt r_1 f1 ((((1 + u1) % 2 : Nat) : Int) == (0 : Int)) zz2 (fun _ => 0) (mq2 - 1)) ∧ OF w77.heap.size W e4_4_12.R e4_4_2 ∧ (∀ i, i < 1 → (e4_4_2.getD i BC.d).b ≠ e4_3_0) ∧ (∀ i, i < 1 → (e4_4_2.getD i BC.d).b ≠ e4_4_0) ∧ (∀ i, i < 1 → (e4_4_2.getD i BC.d).b ≠ e4_4_3) ∧ (∀ i, i < 1 → (e4_4_2.getD i BC.d).b ≠ e4_4_6) ∧ (∀ i, i < 1 → (e4_4_2.getD i BC.d).b ≠ e4_4_8) ∧ (∀ i, i < 1 → (e4_4_2.getD i BC.d).b ≠ e4_9_0) ∧ (∀ i j, i < 1 → j < 1 → (e4_4_2.getD i BC.d).b ≠ (e4_4_5.getD j BC.d).b) ∧ OF w77.heap.size W e4_4_12.L e4_4_5 ∧ (∀ i, i < 1 → (e4_4_5.getD i BC.d).b ≠ e4_3_0) ∧ (∀ i, i < 1 → (e4_4_5.getD i BC.d).b ≠ e4_4_0) ∧ (∀ i, i < 1 → (e4_4_5.getD i BC.d).b ≠ e4_4_3) ∧ (∀ i, i < 1 → (e4_4_5.getD i BC.d).b ≠ e4_4_6) ∧ (∀ i, i < 1 → (e4_4_5.getD i BC.d).b ≠ e4_4_8) ∧ (∀ i, i < 1 → (e4_4_5.getD i BC.d).b ≠ e4_9_0) ∧ Mod [] w77 W) (by kernel_rfl) (by kernel_rfl) ?_ ?_
    have md4 : Mod [] w77 w77.drew := (Mod.refl _ _).drew
    generalize w77.drew = w78 at md4 ⊢
    ·refine DR.det (i := 0) rfl rfl (by kernel_rfl) (.free rfl) rfl rfl (fun wD mD => op_loadA (i := 0) (cs := [vS bR'3 0 1 cR'3, vS bL'3 0 1 cL'3, vS bS'3 0 0 cS'3, vI 1, vF r_1, vF f1, vF 0, vF (zz2.s0), vF (zz2.s1), .bool ((((1 + u1) % 2 : Nat) : Int) == (0 : Int)), vF 1061158912, vF 0, vF 0]) rfl Try.isAgg33 Try.sizeOf33 (((((((((r22.ext m18).ext m19).ext m20).ext m46).ext m47).ext m73).ext m74).ext md4).ext mD).rng rfl rfl rfl) ?_
     refine DR.det (i := 1) rfl rfl (by kernel_rfl) (.free rfl) rfl rfl (fun wD mD => op_move rfl) ?_
     refine DR.det (i := 2) rfl rfl (by kernel_rfl) (.free rfl) rfl rfl (fun wD mD => op_sub (r := ((mq2 - 1 : Nat) : Int)) rfl rfl (w_nsub (l := mq2) (n := 1) (by omega) (by omega))) ?_
     refine DR.fork (is := [3, 9]) (by kernel_rfl) (by decide) (all2 ?_ ?_)
     ·refine DP.op (i := 3) rfl rfl (.free rfl) rfl (ltb rfl) ?_
      intro w79 m75
      refine Op1.mono (op_makeF (i := Try.t27) rfl rfl rfl rfl Try.underlying26 rfl rfl rfl rfl (by first | omega | decide)) ?_
      rintro _ w80 ⟨rfl, r102, m76, z23⟩
      refine ⟨(((Mod.refl [] w78).nt m75).nt m76), ?_⟩
      refine DR.fork (is := [4, 9]) (by kernel_rfl) (by decide) (all2 ?_ ?_)
      ·refine DP.call (i := 4) rfl rfl (.free rfl) rfl (ltb rfl) (vs := [.func (.func 21) #[] #[], .agg #[vS bR'3 0 1 cR'3, vS bL'3 0 1 cL'3, vS bS'3 0 0 cS'3, vI 1, vF r_1, vF f1, vF 0, vF (zz2.s0), vF (zz2.s1), .bool ((((1 + u1) % 2 : Nat) : Int) == (0 : Int)), vF 1061158912, vF 0, vF 0], vS w79.heap.size 0 (mq2 - 1) (mq2 - 1)]) rfl ?_
       intro w81 m77
       refine ⟨oc_call (vs := [.agg #[vS bR'3 0 1 cR'3, vS bL'3 0 1 cL'3, vS bS'3 0 0 cS'3, vI 1, vF r_1, vF f1, vF 0, vF (zz2.s0), vF (zz2.s1), .bool ((((1 + u1) % 2 : Nat) : Int) == (0 : Int)), vF 1061158912, vF 0, vF 0], vS w79.heap.size 0 (mq2 - 1) (mq2 - 1)]) (cap := []) rfl rfl rfl Try.call21 (c_iPlayN zz2 r_1 f1 ((((1 + u1) % 2 : Nat) : Int) == (0 : Int)) cR'3 bR'3 PR'3 w14.heap.size cL'3 bL'3 PL'3 w14.heap.size cS'3 bS'3 [] (mq2 - 1) (mq2 - 1) (some ⟨w79.heap.size, 0, none⟩) w79.heap.size 0 (List.replicate (mq2 - 1) 0) (by assumption) h17 h18 rfl List.length_replicate (fun _ => rfl) (by rfl) (by omega) w81 ((((((((((r23.ext m19).ext m20).ext m46).ext m47).ext m73).ext m74).ext md4).ext m75).ext m76).ext m77).rng ((((((((((r24.ext m19).ext m20).ext m46).ext m47).ext m73).ext m74).ext md4).ext m75).ext m76).ext m77).rng ((((((((((r25.ext m19).ext m20).ext m46).ext m47).ext m73).ext m74).ext md4).ext m75).ext m76).ext m77).rng (r102.ext m77).rng ((((((((((((((fm5.ext m15).ext m16).mod m17 (fun j hj => (nC (lG (lL (lL r8.lt sz1) (fm5.ge j (Nat.lt_of_lt_of_eq (Nat.lt_of_lt_of_eq hj h23) h23.symm)))) nN))).ext m18).ext m19).ext m20).ext m46).ext m47).ext m73).ext m74).ext md4).ext m75).ext m76).ext m77) ((((((((((((((fm6.ext m15).ext m16).mod m17 (fun j hj => (nC (lG (lL (lL r8.lt sz1) (fm6.ge j (Nat.lt_of_lt_of_eq (Nat.lt_of_lt_of_eq hj h24) h24.symm)))) nN))).ext m18).ext m19).ext m20).ext m46).ext m47).ext m73).ext m74).ext md4).ext m75).ext m76).ext m77)), ?_⟩
       rintro _ w82 ⟨bR'10, cR'10, PR'10, bL'10, cL'10, PL'10, bS'10, cS'10, e'8, c3'8, A'9, ys8, zz9, rfl, h90, h91, h92, h93, h94, h95, h96, h97, h98, h99, r103, r104, r105, r106, ge48, ge49, ge50, ge51, ne79, ne80, ne81, ne82, ne83, ne84, fm19, fn78, fn79, fn80, fn81, fn82, fm20, fn83, fn84, fn85, fn86, m78⟩
       refine ⟨(((((Mod.refl [] w78).nt m75).nt m76).nt m77).nt m78), ?_⟩
       refine DR.det (i := 5) rfl rfl (by kernel_rfl) (.free rfl) rfl rfl (fun wD mD => op_move rfl) ?_
       refine DR.det (i := 6) rfl rfl (by kernel_rfl) (.free rfl) rfl rfl (fun wD mD => op_extract rfl rfl) ?_
       refine DR.det (i := 7) rfl rfl (by kernel_rfl) (.free rfl) rfl rfl (fun wD mD => op_extract rfl rfl) ?_
       refine DR.det (i := 8) rfl rfl (by kernel_rfl) (.free rfl) rfl rfl (fun wD mD => op_extract rfl rfl) ?_
       refine DR.one1 (i := 9) rfl rfl (by kernel_rfl) (.free rfl) rfl (ltb rfl) ?_
       intro w83 m79
       refine Op1.mono (op_alloc (cs := [.slice none 0 0, .slice none 0 0, .slice none 0 0, vI 0, vF 0, vF 0, vF 0, vF 0, vF 0, .bool false, vF 0, vF 0, vF 0]) Try.zeroValue33 rfl) ?_
       rintro _ w84 ⟨rfl, r107, m80, z24⟩
       refine ⟨(((((((Mod.refl [] w78).nt m75).nt m76).nt m77).nt m78).nt m79).nt m80), ?_⟩
       refine DR.st1 (i := 10) rfl rfl (by kernel_rfl) (.free rfl) rfl ?_
       intro w85 m81
       refine Op1.mono (op_store (i := 0) (cs := [vS bR'10 0 1 cR'10, vS bL'10 0 1 cL'10, vS bS'10 0 0 cS'10, vI 1, vF r_1, vF f1, vF 0, vF (zz9.s0), vF (zz9.s1), .bool ((((1 + u1) % 2 : Nat) : Int) == (0 : Int)), vF 1061158912, vF 0, vF 0]) rfl rfl rfl Try.sizeOf33 rfl (r107.ext m81) rfl (lB rfl) rfl) ?_
       rintro _ w86 ⟨r108, m82, z25⟩
       have r109 : Row w86 w83.heap.size 0 [vS bR'10 0 1 cR'10, vS bL'10 0 1 cL'10, vS bS'10 0 0 cS'10, vI 1, vF r_1, vF f1, vF 0, vF (zz9.s0), vF (zz9.s1), .bool ((((1 + u1) % 2 : Nat) : Int) == (0 : Int)), vF 1061158912, vF 0, vF 0] := Row.congr r108 rfl
       have sz25 := (lT (lT (lT (lT m75.size m76.size) m77.size) m78.size) m79.size)
       refine ⟨(((((((((Mod.refl [] w78).nt m75).nt m76).nt m77).nt m78).nt m79).nt m80).nt m81).then m82 ((aC (.inr (lT sz25 lR)) aN))), ?_⟩
       refine DR.rebase ?_
       refine DR.det (i := 11) rfl rfl (by kernel_rfl) (.free rfl) rfl rfl (fun wD mD => op_assign rfl) ?_
       refine DR.sub [(4, .bool false), (25, vP w83.heap.size 0), (168, vI 0)] ⟨rfl, rfl, rfl, trivial⟩ ?_
       refine DR.meet rfl ?_
       intro w87 m83
       have sz26 := (lT (lT m77.size m78.size) m79.size)
       have r110 := (((((((r102.ext m77).ext m78).ext m79).ext m80).ext m81).mod m82 (nC (lE (lL (lL r102.lt sz26) lR)) nN)).ext m83)
       have r111 := (((((r103.ext m79).ext m80).ext m81).mod m82 (nC (lE (lL (lL r103.lt m79.size) lR)) nN)).ext m83)
       have r112 := (((((r104.ext m79).ext m80).ext m81).mod m82 (nC (lE (lL (lL r104.lt m79.size) lR)) nN)).ext m83)
       have r113 := (((((r105.ext m79).ext m80).ext m81).mod m82 (nC (lE (lL (lL r105.lt m79.size) lR)) nN)).ext m83)
       have r114 := (((((r106.ext m79).ext m80).ext m81).mod m82 (nC (lE (lL (lL r106.lt m79.size) lR)) nN)).ext m83)
       have sz27 := (lT (lT (lT md4.size m75.size) m76.size) m77.size)
       have sz28 := (lT (lT sz27 m78.size) m79.size)
       exact ⟨w79.heap.size, bR'10, cR'10, PR'10, bL'10, cL'10, PL'10, bS'10, cS'10, e'8, c3'8, A'9, ys8, zz9, w83.heap.size, rfl, r110, r111, r112, r113, r114, (r109.ext m83), (lT (lT md4.size m75.size) lR), (lT sz27 ge48), (lT sz27 ge49), (lT sz27 ge50), (lT sz27 ge51), (lT sz28 lR), (lE (lL (lL r102.lt m77.size) ge48)), (lE (lL (lL r102.lt m77.size) ge49)), (lE (lL (lL r102.lt m77.size) ge50)), (lE (lL (lL r102.lt m77.size) ge51)), (lE (lL (lL r102.lt sz26) lR)), ne79, ne80, ne82, (lE (lL (lL r103.lt m79.size) lR)), ne81, ne83, (lE (lL (lL r104.lt m79.size) lR)), ne84, (lE (lL (lL r105.lt m79.size) lR)), (lE (lL (lL r106.lt m79.size) lR)), h90, h91, h92, h93, h94, h95, h96, h97, h98, h99, (OF.low (((((fm19.ext m79).ext m80).ext m81).mod m82 (fun j hj => (nC (lE (lL (OF.lt fm19 (Nat.lt_of_lt_of_eq (Nat.lt_of_lt_of_eq hj h97) h97.symm)) (lT m79.size lR))) nN))).ext m83) sz27), (fun j hj => (lG (lL (lL r102.lt m77.size) (fm19.ge j (Nat.lt_of_lt_of_eq (show j < 1 by omega) h97.symm))))), (fun j hj => (fn78 j (show j < 1 by omega))), (fun j hj => (fn79 j (show j < 1 by omega))), (fun j hj => (fn80 j (show j < 1 by omega))), (fun j hj => (fn82 j (show j < 1 by omega))), (fun j hj => (lE (lL (OF.lt fm19 (Nat.lt_of_lt_of_eq (show j < 1 by omega) h97.symm)) (lT m79.size lR)))), (fun j q hj hq => (fn81 j q (show j < 1 by omega) (show q < 1 by omega))), (OF.low (((((fm20.ext m79).ext m80).ext m81).mod m82 (fun j hj => (nC (lE (lL (OF.lt fm20 (Nat.lt_of_lt_of_eq (Nat.lt_of_lt_of_eq hj h98) h98.symm)) (lT m79.size lR))) nN))).ext m83) sz27), (fun j hj => (lG (lL (lL r102.lt m77.size) (fm20.ge j (Nat.lt_of_lt_of_eq (show j < 1 by omega) h98.symm))))), (fun j hj => (fn83 j (show j < 1 by omega))), (fun j hj => (fn84 j (show j < 1 by omega))), (fun j hj => (fn85 j (show j < 1 by omega))), (fun j hj => (fn86 j (show j < 1 by omega))), (fun j hj => (lE (lL (OF.lt fm20 (Nat.lt_of_lt_of_eq (show j < 1 by omega) h98.symm)) (lT m79.size lR)))), (((((((((((Mod.refl [] w77).nt md4).nt m75).nt m76).nt m77).nt m78).nt m79).nt m80).nt m81).then m82 ((aC (.inr (lT sz28 lR)) aN))).nt m83)⟩
      ·refine DP.op (i := 9) rfl rfl (.free rfl) rfl (ltb rfl) ?_
       intro w88 m84
       refine Op1.mono (op_alloc (cs := [.slice none 0 0, .slice none 0 0, .slice none 0 0, vI 0, vF 0, vF 0, vF 0, vF 0, vF 0, .bool false, vF 0, vF 0, vF 0]) Try.zeroValue33 rfl) ?_
       rintro _ w89 ⟨rfl, r115, m85, z26⟩
       refine ⟨(((((Mod.refl [] w78).nt m75).nt m76).nt m84).nt m85), ?_⟩
       refine DR.one (i := 4) rfl rfl (by kernel_rfl) (.free rfl) rfl (ltb rfl) (vs := [.func (.func 21) #[] #[], .agg #[vS bR'3 0 1 cR'3, vS bL'3 0 1 cL'3, vS bS'3 0 0 cS'3, vI 1, vF r_1, vF f1, vF 0, vF (zz2.s0), vF (zz2.s1), .bool ((((1 + u1) % 2 : Nat) : Int) == (0 : Int)), vF 1061158912, vF 0, vF 0], vS w79.heap.size 0 (mq2 - 1) (mq2 - 1)]) rfl ?_
       intro w90 m86
       refine ⟨oc_call (vs := [.agg #[vS bR'3 0 1 cR'3, vS bL'3 0 1 cL'3, vS bS'3 0 0 cS'3, vI 1, vF r_1, vF f1, vF 0, vF (zz2.s0), vF (zz2.s1), .bool ((((1 + u1) % 2 : Nat) : Int) == (0 : Int)), vF 1061158912, vF 0, vF 0], vS w79.heap.size 0 (mq2 - 1) (mq2 - 1)]) (cap := []) rfl rfl rfl Try.call21 (c_iPlayN zz2 r_1 f1 ((((1 + u1) % 2 : Nat) : Int) == (0 : Int)) cR'3 bR'3 PR'3 w14.heap.size cL'3 bL'3 PL'3 w14.heap.size cS'3 bS'3 [] (mq2 - 1) (mq2 - 1) (some ⟨w79.heap.size, 0, none⟩) w79.heap.size 0 (List.replicate (mq2 - 1) 0) (by assumption) h17 h18 rfl List.length_replicate (fun _ => rfl) (by rfl) (by omega) w90 ((((((((((((r23.ext m19).ext m20).ext m46).ext m47).ext m73).ext m74).ext md4).ext m75).ext m76).ext m84).ext m85).ext m86).rng ((((((((((((r24.ext m19).ext m20).ext m46).ext m47).ext m73).ext m74).ext md4).ext m75).ext m76).ext m84).ext m85).ext m86).rng ((((((((((((r25.ext m19).ext m20).ext m46).ext m47).ext m73).ext m74).ext md4).ext m75).ext m76).ext m84).ext m85).ext m86).rng (((r102.ext m84).ext m85).ext m86).rng ((((((((((((((((fm5.ext m15).ext m16).mod m17 (fun j hj => (nC (lG (lL (lL r8.lt sz1) (fm5.ge j (Nat.lt_of_lt_of_eq (Nat.lt_of_lt_of_eq hj h23) h23.symm)))) nN))).ext m18).ext m19).ext m20).ext m46).ext m47).ext m73).ext m74).ext md4).ext m75).ext m76).ext m84).ext m85).ext m86) ((((((((((((((((fm6.ext m15).ext m16).mod m17 (fun j hj => (nC (lG (lL (lL r8.lt sz1) (fm6.ge j (Nat.lt_of_lt_of_eq (Nat.lt_of_lt_of_eq hj h24) h24.symm)))) nN))).ext m18).ext m19).ext m20).ext m46).ext m47).ext m73).ext m74).ext md4).ext m75).ext m76).ext m84).ext m85).ext m86)), ?_⟩
       rintro _ w91 ⟨bR'11, cR'11, PR'11, bL'11, cL'11, PL'11, bS'11, cS'11, e'9, c3'9, A'10, ys9, zz10, rfl, h100, h101, h102, h103, h104, h105, h106, h107, h108, h109, r116, r117, r118, r119, ge52, ge53, ge54, ge55, ne85, ne86, ne87, ne88, ne89, ne90, fm21, fn87, fn88, fn89, fn90, fn91, fm22, fn92, fn93, fn94, fn95, m87⟩
       refine ⟨(((((((Mod.refl [] w78).nt m75).nt m76).nt m84).nt m85).nt m86).nt m87), ?_⟩
       refine DR.det (i := 5) rfl rfl (by kernel_rfl) (.free rfl) rfl rfl (fun wD mD => op_move rfl) ?_
       refine DR.det (i := 6) rfl rfl (by kernel_rfl) (.free rfl) rfl rfl (fun wD mD => op_extract rfl rfl) ?_
       refine DR.det (i := 7) rfl rfl (by kernel_rfl) (.free rfl) rfl rfl (fun wD mD => op_extract rfl rfl) ?_
       refine DR.det (i := 8) rfl rfl (by kernel_rfl) (.free rfl) rfl rfl (fun wD mD => op_extract rfl rfl) ?_
       refine DR.st1 (i := 10) rfl rfl (by kernel_rfl) (.free rfl) rfl ?_
       intro w92 m88
       refine Op1.mono (op_store (i := 0) (cs := [vS bR'11 0 1 cR'11, vS bL'11 0 1 cL'11, vS bS'11 0 0 cS'11, vI 1, vF r_1, vF f1, vF 0, vF (zz10.s0), vF (zz10.s1), .bool ((((1 + u1) % 2 : Nat) : Int) == (0 : Int)), vF 1061158912, vF 0, vF 0]) rfl rfl rfl Try.sizeOf33 rfl (((r115.ext m86).ext m87).ext m88) rfl (lB rfl) rfl) ?_
       rintro _ w93 ⟨r120, m89, z27⟩
       have r121 : Row w93 w88.heap.size 0 [vS bR'11 0 1 cR'11, vS bL'11 0 1 cL'11, vS bS'11 0 0 cS'11, vI 1, vF r_1, vF f1, vF 0, vF (zz10.s0), vF (zz10.s1), .bool ((((1 + u1) % 2 : Nat) : Int) == (0 : Int)), vF 1061158912, vF 0, vF 0] := Row.congr r120 rfl
       have sz29 := (lT (lT m75.size m76.size) m84.size)
       refine ⟨(((((((((Mod.refl [] w78).nt m75).nt m76).nt m84).nt m85).nt m86).nt m87).nt m88).then m89 ((aC (.inr (lT sz29 lR)) aN))), ?_⟩
       refine DR.rebase ?_
       refine DR.det (i := 11) rfl rfl (by kernel_rfl) (.free rfl) rfl rfl (fun wD mD => op_assign rfl) ?_
       refine DR.sub [(4, .bool false), (25, vP w88.heap.size 0), (168, vI 0)] ⟨rfl, rfl, rfl, trivial⟩ ?_
       refine DR.meet rfl ?_
       intro w94 m90
       have r122 := (((((((r102.ext m84).ext m85).ext m86).ext m87).ext m88).mod m89 (nC (lE (lL (lL r102.lt m84.size) lR)) nN)).ext m90)
       have r123 := (((r116.ext m88).mod m89 (nC (lG (lL (lL r115.lt m86.size) ge52)) nN)).ext m90)
       have r124 := (((r117.ext m88).mod m89 (nC (lG (lL (lL r115.lt m86.size) ge53)) nN)).ext m90)
       have r125 := (((r118.ext m88).mod m89 (nC (lG (lL (lL r115.lt m86.size) ge54)) nN)).ext m90)
       have r126 := (((r119.ext m88).mod m89 (nC (lG (lL (lL r115.lt m86.size) ge55)) nN)).ext m90)
       have sz30 := (lT (lT (lT (lT (lT md4.size m75.size) m76.size) m84.size) m85.size) m86.size)
       have sz31 := (lT (lT (lT md4.size m75.size) m76.size) m84.size)
       have sz32 := (lT (lT m84.size m85.size) m86.size)
       exact ⟨w79.heap.size, bR'11, cR'11, PR'11, bL'11, cL'11, PL'11, bS'11, cS'11, e'9, c3'9, A'10, ys9, zz10, w88.heap.size, rfl, r122, r123, r124, r125, r126, (r121.ext m90), (lT (lT md4.size m75.size) lR), (lT sz30 ge52), (lT sz30 ge53), (lT sz30 ge54), (lT sz30 ge55), (lT sz31 lR), (lE (lL (lL r102.lt sz32) ge52)), (lE (lL (lL r102.lt sz32) ge53)), (lE (lL (lL r102.lt sz32) ge54)), (lE (lL (lL r102.lt sz32) ge55)), (lE (lL (lL r102.lt m84.size) lR)), ne85, ne86, ne88, (lG (lL (lL r115.lt m86.size) ge52)), ne87, ne89, (lG (lL (lL r115.lt m86.size) ge53)), ne90, (lG (lL (lL r115.lt m86.size) ge54)), (lG (lL (lL r115.lt m86.size) ge55)), h100, h101, h102, h103, h104, h105, h106, h107, h108, h109, (OF.low (((fm21.ext m88).mod m89 (fun j hj => (nC (lG (lL (lL r115.lt m86.size) (fm21.ge j (Nat.lt_of_lt_of_eq (Nat.lt_of_lt_of_eq hj h107) h107.symm)))) nN))).ext m90) sz30), (fun j hj => (lG (lL (lL r102.lt sz32) (fm21.ge j (Nat.lt_of_lt_of_eq (show j < 1 by omega) h107.symm))))), (fun j hj => (fn87 j (show j < 1 by omega))), (fun j hj => (fn88 j (show j < 1 by omega))), (fun j hj => (fn89 j (show j < 1 by omega))), (fun j hj => (fn91 j (show j < 1 by omega))), (fun j hj => (lG (lL (lL r115.lt m86.size) (fm21.ge j (Nat.lt_of_lt_of_eq (show j < 1 by omega) h107.symm))))), (fun j q hj hq => (fn90 j q (show j < 1 by omega) (show q < 1 by omega))), (OF.low (((fm22.ext m88).mod m89 (fun j hj => (nC (lG (lL (lL r115.lt m86.size) (fm22.ge j (Nat.lt_of_lt_of_eq (Nat.lt_of_lt_of_eq hj h108) h108.symm)))) nN))).ext m90) sz30), (fun j hj => (lG (lL (lL r102.lt sz32) (fm22.ge j (Nat.lt_of_lt_of_eq (show j < 1 by omega) h108.symm))))), (fun j hj => (fn92 j (show j < 1 by omega))), (fun j hj => (fn93 j (show j < 1 by omega))), (fun j hj => (fn94 j (show j < 1 by omega))), (fun j hj => (fn95 j (show j < 1 by omega))), (fun j hj => (lG (lL (lL r115.lt m86.size) (fm22.ge j (Nat.lt_of_lt_of_eq (show j < 1 by omega) h108.symm))))), (((((((((((Mod.refl [] w77).nt md4).nt m75).nt m76).nt m84).nt m85).nt m86).nt m87).nt m88).then m89 ((aC (.inr (lT sz31 lR)) aN))).nt m90)⟩
     ·refine DP.op (i := 9) rfl rfl (.free rfl) rfl (ltb rfl) ?_
      intro w95 m91
      refine Op1.mono (op_alloc (cs := [.slice none 0 0, .slice none 0 0, .slice none 0 0, vI 0, vF 0, vF 0, vF 0, vF 0, vF 0, .bool false, vF 0, vF 0, vF 0]) Try.zeroValue33 rfl) ?_
      rintro _ w96 ⟨rfl, r127, m92, z28⟩
      refine ⟨(((Mod.refl [] w78).nt m91).nt m92), ?_⟩
      refine DR.one1 (i := 3) rfl rfl (by kernel_rfl) (.free rfl) rfl (ltb rfl) ?_
      intro w97 m93
      refine Op1.mono (op_makeF (i := Try.t27) rfl rfl rfl rfl Try.underlying26 rfl rfl rfl rfl (by first | omega | decide)) ?_
      rintro _ w98 ⟨rfl, r128, m94, z29⟩
      refine ⟨(((((Mod.refl [] w78).nt m91).nt m92).nt m93).nt m94), ?_⟩
      refine DR.one (i := 4) rfl rfl (by kernel_rfl) (.free rfl) rfl (ltb rfl) (vs := [.func (.func 21) #[] #[], .agg #[vS bR'3 0 1 cR'3, vS bL'3 0 1 cL'3, vS bS'3 0 0 cS'3, vI 1, vF r_1, vF f1, vF 0, vF (zz2.s0), vF (zz2.s1), .bool ((((1 + u1) % 2 : Nat) : Int) == (0 : Int)), vF 1061158912, vF 0, vF 0], vS w97.heap.size 0 (mq2 - 1) (mq2 - 1)]) rfl ?_
      intro w99 m95
      refine ⟨oc_call (vs := [.agg #[vS bR'3 0 1 cR'3, vS bL'3 0 1 cL'3, vS bS'3 0 0 cS'3, vI 1, vF r_1, vF f1, vF 0, vF (zz2.s0), vF (zz2.s1), .bool ((((1 + u1) % 2 : Nat) : Int) == (0 : Int)), vF 1061158912, vF 0, vF 0], vS w97.heap.size 0 (mq2 - 1) (mq2 - 1)]) (cap := []) rfl rfl rfl Try.call21 (c_iPlayN zz2 r_1 f1 ((((1 + u1) % 2 : Nat) : Int) == (0 : Int)) cR'3 bR'3 PR'3 w14.heap.size cL'3 bL'3 PL'3 w14.heap.size cS'3 bS'3 [] (mq2 - 1) (mq2 - 1) (some ⟨w97.heap.size, 0, none⟩) w97.heap.size 0 (List.replicate (mq2 - 1) 0) (by assumption) h17 h18 rfl List.length_replicate (fun _ => rfl) (by rfl) (by omega) w99 ((((((((((((r23.ext m19).ext m20).ext m46).ext m47).ext m73).ext m74).ext md4).ext m91).ext m92).ext m93).ext m94).ext m95).rng ((((((((((((r24.ext m19).ext m20).ext m46).ext m47).ext m73).ext m74).ext md4).ext m91).ext m92).ext m93).ext m94).ext m95).rng ((((((((((((r25.ext m19).ext m20).ext m46).ext m47).ext m73).ext m74).ext md4).ext m91).ext m92).ext m93).ext m94).ext m95).rng (r128.ext m95).rng ((((((((((((((((fm5.ext m15).ext m16).mod m17 (fun j hj => (nC (lG (lL (lL r8.lt sz1) (fm5.ge j (Nat.lt_of_lt_of_eq (Nat.lt_of_lt_of_eq hj h23) h23.symm)))) nN))).ext m18).ext m19).ext m20).ext m46).ext m47).ext m73).ext m74).ext md4).ext m91).ext m92).ext m93).ext m94).ext m95) ((((((((((((((((fm6.ext m15).ext m16).mod m17 (fun j hj => (nC (lG (lL (lL r8.lt sz1) (fm6.ge j (Nat.lt_of_lt_of_eq (Nat.lt_of_lt_of_eq hj h24) h24.symm)))) nN))).ext m18).ext m19).ext m20).ext m46).ext m47).ext m73).ext m74).ext md4).ext m91).ext m92).ext m93).ext m94).ext m95)), ?_⟩
      rintro _ w100 ⟨bR'12, cR'12, PR'12, bL'12, cL'12, PL'12, bS'12, cS'12, e'10, c3'10, A'11, ys10, zz11, rfl, h110, h111, h112, h113, h114, h115, h116, h117, h118, h119, r129, r130, r131, r132, ge56, ge57, ge58, ge59, ne91, ne92, ne93, ne94, ne95, ne96, fm23, fn96, fn97, fn98, fn99, fn100, fm24, fn101, fn102, fn103, fn104, m96⟩
      refine ⟨(((((((Mod.refl [] w78).nt m91).nt m92).nt m93).nt m94).nt m95).nt m96), ?_⟩
      refine DR.det (i := 5) rfl rfl (by kernel_rfl) (.free rfl) rfl rfl (fun wD mD => op_move rfl) ?_
      refine DR.det (i := 6) rfl rfl (by kernel_rfl) (.free rfl) rfl rfl (fun wD mD => op_extract rfl rfl) ?_
      refine DR.det (i := 7) rfl rfl (by kernel_rfl) (.free rfl) rfl rfl (fun wD mD => op_extract rfl rfl) ?_
      refine DR.det (i := 8) rfl rfl (by kernel_rfl) (.free rfl) rfl rfl (fun wD mD => op_extract rfl rfl) ?_
      refine DR.st1 (i := 10) rfl rfl (by kernel_rfl) (.free rfl) rfl ?_
      intro w101 m97
      refine Op1.mono (op_store (i := 0) (cs := [vS bR'12 0 1 cR'12, vS bL'12 0 1 cL'12, vS bS'12 0 0 cS'12, vI 1, vF r_1, vF f1, vF 0, vF (zz11.s0), vF (zz11.s1), .bool ((((1 + u1) % 2 : Nat) : Int) == (0 : Int)), vF 1061158912, vF 0, vF 0]) rfl rfl rfl Try.sizeOf33 rfl (((((r127.ext m93).ext m94).ext m95).ext m96).ext m97) rfl (lB rfl) rfl) ?_
      rintro _ w102 ⟨r133, m98, z30⟩
      have r134 : Row w102 w95.heap.size 0 [vS bR'12 0 1 cR'12, vS bL'12 0 1 cL'12, vS bS'12 0 0 cS'12, vI 1, vF r_1, vF f1, vF 0, vF (zz11.s0), vF (zz11.s1), .bool ((((1 + u1) % 2 : Nat) : Int) == (0 : Int)), vF 1061158912, vF 0, vF 0] := Row.congr r133 rfl
      refine ⟨(((((((((Mod.refl [] w78).nt m91).nt m92).nt m93).nt m94).nt m95).nt m96).nt m97).then m98 ((aC (.inr (lT m91.size lR)) aN))), ?_⟩
      refine DR.rebase ?_
      refine DR.det (i := 11) rfl rfl (by kernel_rfl) (.free rfl) rfl rfl (fun wD mD => op_assign rfl) ?_
      refine DR.sub [(4, .bool false), (25, vP w95.heap.size 0), (168, vI 0)] ⟨rfl, rfl, rfl, trivial⟩ ?_
      refine DR.meet rfl ?_
      intro w103 m99
      have r135 := (((((r128.ext m95).ext m96).ext m97).mod m98 (nC (lG (lL (lL r127.lt m93.size) lR)) nN)).ext m99)
      have sz33 := (lT (lT m93.size m94.size) m95.size)
      have r136 := (((r129.ext m97).mod m98 (nC (lG (lL (lL r127.lt sz33) ge56)) nN)).ext m99)
      have r137 := (((r130.ext m97).mod m98 (nC (lG (lL (lL r127.lt sz33) ge57)) nN)).ext m99)
      have r138 := (((r131.ext m97).mod m98 (nC (lG (lL (lL r127.lt sz33) ge58)) nN)).ext m99)
      have r139 := (((r132.ext m97).mod m98 (nC (lG (lL (lL r127.lt sz33) ge59)) nN)).ext m99)
      have sz34 := (lT (lT (lT md4.size m91.size) m92.size) m93.size)
      have sz35 := (lT (lT sz34 m94.size) m95.size)
      exact ⟨w97.heap.size, bR'12, cR'12, PR'12, bL'12, cL'12, PL'12, bS'12, cS'12, e'10, c3'10, A'11, ys10, zz11, w95.heap.size, rfl, r135, r136, r137, r138, r139, (r134.ext m99), (lT sz34 lR), (lT sz35 ge56), (lT sz35 ge57), (lT sz35 ge58), (lT sz35 ge59), (lT (lT md4.size m91.size) lR), (lE (lL (lL r128.lt m95.size) ge56)), (lE (lL (lL r128.lt m95.size) ge57)), (lE (lL (lL r128.lt m95.size) ge58)), (lE (lL (lL r128.lt m95.size) ge59)), (lG (lL (lL r127.lt m93.size) lR)), ne91, ne92, ne94, (lG (lL (lL r127.lt sz33) ge56)), ne93, ne95, (lG (lL (lL r127.lt sz33) ge57)), ne96, (lG (lL (lL r127.lt sz33) ge58)), (lG (lL (lL r127.lt sz33) ge59)), h110, h111, h112, h113, h114, h115, h116, h117, h118, h119, (OF.low (((fm23.ext m97).mod m98 (fun j hj => (nC (lG (lL (lL r127.lt sz33) (fm23.ge j (Nat.lt_of_lt_of_eq (Nat.lt_of_lt_of_eq hj h117) h117.symm)))) nN))).ext m99) sz35), (fun j hj => (lG (lL (lL r128.lt m95.size) (fm23.ge j (Nat.lt_of_lt_of_eq (show j < 1 by omega) h117.symm))))), (fun j hj => (fn96 j (show j < 1 by omega))), (fun j hj => (fn97 j (show j < 1 by omega))), (fun j hj => (fn98 j (show j < 1 by omega))), (fun j hj => (fn100 j (show j < 1 by omega))), (fun j hj => (lG (lL (lL r127.lt sz33) (fm23.ge j (Nat.lt_of_lt_of_eq (show j < 1 by omega) h117.symm))))), (fun j q hj hq => (fn99 j q (show j < 1 by omega) (show q < 1 by omega))), (OF.low (((fm24.ext m97).mod m98 (fun j hj => (nC (lG (lL (lL r127.lt sz33) (fm24.ge j (Nat.lt_of_lt_of_eq (Nat.lt_of_lt_of_eq hj h118) h118.symm)))) nN))).ext m99) sz35), (fun j hj => (lG (lL (lL r128.lt m95.size) (fm24.ge j (Nat.lt_of_lt_of_eq (show j < 1 by omega) h118.symm))))), (fun j hj => (fn101 j (show j < 1 by omega))), (fun j hj => (fn102 j (show j < 1 by omega))), (fun j hj => (fn103 j (show j < 1 by omega))), (fun j hj => (fn104 j (show j < 1 by omega))), (fun j hj => (lG (lL (lL r127.lt sz33) (fm24.ge j (Nat.lt_of_lt_of_eq (show j < 1 by omega) h118.symm))))), (((((((((((Mod.refl [] w77).nt md4).nt m91).nt m92).nt m93).nt m94).nt m95).nt m96).nt m97).then m98 ((aC (.inr (lT (lT md4.size m91.size) lR)) aN))).nt m99)⟩
    ·rintro _ w104 ⟨e4_3_0, e4_4_0, e4_4_1, e4_4_2, e4_4_3, e4_4_4, e4_4_5, e4_4_6, e4_4_7, e4_4_8, e4_4_9, e4_4_10, e4_4_11, e4_4_12, e4_9_0, rfl, rr4_0, rr4_1, rr4_2, rr4_3, rr4_4, rr4_5, ge60, ge61, ge62, ge63, ge64, ge65, ne97, ne98, ne99, ne100, ne101, ne102, ne103, ne104, ne105, ne106, ne107, ne108, ne109, ne110, ne111, hp4_4_0, hp4_4_1, hp4_4_2, hp4_4_3, hp4_4_4, hp4_4_5, hp4_4_6, hp4_4_7, hp4_4_8, hp4_4_9, fr4_0, fa4_0_0, fa4_0_1, fa4_0_2, fa4_0_3, fa4_0_4, fa4_0_5, fb4_0_0, fr4_1, fa4_1_0, fa4_1_1, fa4_1_2, fa4_1_3, fa4_1_4, fa4_1_5, m100⟩
     refine WO.det (op_assign rfl) rfl (.free rfl) rfl rfl ?_
     refine WO.end (NE.code (CE.seq (CE.region ?_)))
     refine WL.det (op_loadA (i := 0) (cs := [vS e4_4_0 0 1 e4_4_1, vS e4_4_3 0 1 e4_4_4, vS e4_4_6 0 0 e4_4_7, vI 1, vF r_1, vF f1, vF 0, vF (e4_4_12.s0), vF (e4_4_12.s1), .bool ((((1 + u1) % 2 : Nat) : Int) == (0 : Int)), vF 1061158912, vF 0, vF 0]) rfl Try.isAgg33 Try.sizeOf33 rr4_5.rng rfl rfl rfl) rfl rfl rfl ?_
     refine WL.call (oc_call (vs := [.agg #[vS e4_4_0 0 1 e4_4_1, vS e4_4_3 0 1 e4_4_4, vS e4_4_6 0 0 e4_4_7, vI 1, vF r_1, vF f1, vF 0, vF (e4_4_12.s0), vF (e4_4_12.s1), .bool ((((1 + u1) % 2 : Nat) : Int) == (0 : Int)), vF 1061158912, vF 0, vF 0]]) (cap := []) rfl rfl rfl Try.call22 (c_IsSilN e4_4_12 r_1 f1 ((((1 + u1) % 2 : Nat) : Int) == (0 : Int)) e4_4_1 e4_4_0 e4_4_2 w77.heap.size e4_4_4 e4_4_3 e4_4_5 w77.heap.size e4_4_7 e4_4_6 [] (by assumption) hp4_4_0 hp4_4_1 rfl w104 rr4_1.rng rr4_2.rng rr4_3.rng fr4_0 fr4_1)) rfl rfl (ltb rfl) ?_
     rintro _ w105 ⟨rfl, m101⟩
     refine WL.det (op_move rfl) rfl rfl rfl ?_
     iterate 2 refine WL.det (op_extract rfl rfl) rfl rfl rfl ?_
     iterate 2 refine WL.det (op_assign rfl) rfl rfl rfl ?_
     refine WL.end (NE.code (CE.seq (CE.region ?_)))
     refine WL.det (op_move rfl) rfl rfl rfl ?_
     refine WL.det (op_eqi rfl rfl) rfl rfl rfl ?_
     refine WL.det (op_move rfl) rfl rfl rfl ?_
     refine WL.yes rfl rfl rfl (ltb rfl) rfl rfl ?_
     refine WL.det (op_move rfl) rfl rfl rfl ?_
     refine WL.yes rfl rfl rfl (ltb rfl) rfl rfl ?_
     refine WL.det (op_eqi rfl rfl) rfl rfl rfl ?_
     refine WL.det (op_pick_t rfl rfl rfl) rfl rfl rfl ?_
     refine WL.det (op_move rfl) rfl rfl rfl ?_
     refine WL.yes rfl rfl rfl (ltb rfl) rfl rfl ?_
     refine WL.det (op_move rfl) rfl rfl rfl ?_
     refine WL.yes rfl rfl rfl (ltb rfl) rfl rfl ?_
     refine WL.det (op_not rfl) rfl rfl rfl ?_
     refine WL.det (op_pick_t rfl rfl rfl) rfl rfl rfl ?_
     refine WL.det (op_assign rfl) rfl rfl rfl ?_
     refine WL.end (NE.code (CE.ret' ?_))
     refine XE.leave1 Try.results3 rfl ?_
     have sz36 := (lT (lT (lT (lT (lT m1.size m2.size) m3.size) m4.size) m5.size) m6.size)
     refine ⟨?_, ((((((((((((((((((((((((((((Mod.refl [] w).nt m1).nt m2).nt m3).nt m4).nt m5).nt m6).nt m7).then m8 ((aC (.inr (lT sz36 lR)) aN))).nt m9).then m10 ((aC (.inr (lT sz36 lR)) aN))).nt md1).nt m11).nt m12).nt m13).nt m14).nt m15).nt m16).then m17 ((aC (.inr (lT sz36 lR)) aN))).nt m18).nt m19).nt m20).nt m46).nt m47).nt m73).nt m74).nt m100).nt m101)⟩
     all_goals first | rfl | exact congrArg (fun b => Value.bool (!b)) (sil_c (by assumption) (by assumption) (by assumption) (by assumption) (by omega))

end Go.Proofs.Ytnahhdnkbbdceaa
