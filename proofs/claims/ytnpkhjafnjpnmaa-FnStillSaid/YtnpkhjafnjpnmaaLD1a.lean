/- The law on stillness, walked (over, good). -/
import Derived.Test.YtnpkhjafnjpnmaaD4
import Derived.Test.YtnpkhjafnjpnmaaE8
import Derived.Test.YtnpkhjafnjpnmaaE20
set_option linter.unusedVariables false
set_option linter.unusedSimpArgs false
set_option maxRecDepth 100000
set_option maxHeartbeats 8000000
namespace Go.Proofs.Ytnpkhjafnjpnmaa

theorem law_still_over (nu : Nat) (cu : Nat) (Au : Option Addr) (bu : Nat) (ou : Nat) (xsu : List Nat) (nv : Nat) (cv : Nat) (Av : Option Addr) (bv : Nat) (ov : Nat) (xsv : List Nat) (lnu : xsu.length = nu) (hAu : 0 < nu → Au = some ⟨bu, ou, none⟩) (hBu : ∀ i, xsu.getD i 0 < 256) (lnv : xsv.length = nv) (hAv : 0 < nv → Av = some ⟨bv, ov, none⟩) (hBv : ∀ i, xsv.getD i 0 < 256) (hnu : 3000 < nu ∨ 3000 < nv) (w : World) (ru : Rng w bu ou (bys xsu)) (rv : Rng w bv ov (bys xsv)) : Cl Try.prog 3 #[.slice Au nu cu, .slice Av nv cv] w fun v w' => v = .bool true ∧ Mod [] w w' := by
 refine Cl.of Try.func3 Try.ntmps3 rfl rfl (ρ := [(0, .slice Au nu cu), (1, .slice Av nv cv)]) rfl ?_
 refine CE.seq (CE.region ?_)
 refine WL.det (op_assign rfl) rfl rfl rfl ?_
 refine WL.end (NE.code (CE.seq (CE.seq (CE.region ?_))))
 iterate 2 refine WL.det (op_move rfl) rfl rfl rfl ?_
 refine WL.call (oc_call (vs := [.slice Au nu cu, .slice Av nv cv]) (cap := []) rfl rfl rfl Try.call7 (c_a2Long nu cu Au nv cv Av w)) rfl rfl (ltb rfl) ?_
 rintro _ _ ⟨rfl, rfl⟩
 refine WL.end (NE.code ?_)
 refine CE.cond_t rfl (still_over hnu) ?_
 refine CE.seq (CE.region ?_)
 refine WL.det (op_assign rfl) rfl rfl rfl ?_
 refine WL.end (NE.code (CE.ret' (XE.ret_then ?_)))
 refine XE.leave1 Try.results3 rfl ?_
 refine ⟨rfl, (Mod.refl [] w)⟩

theorem law_still (nu : Nat) (cu : Nat) (Au : Option Addr) (bu : Nat) (ou : Nat) (xsu : List Nat) (nv : Nat) (cv : Nat) (Av : Option Addr) (bv : Nat) (ov : Nat) (xsv : List Nat) (lnu : xsu.length = nu) (hAu : 0 < nu → Au = some ⟨bu, ou, none⟩) (hBu : ∀ i, xsu.getD i 0 < 256) (lnv : xsv.length = nv) (hAv : 0 < nv → Av = some ⟨bv, ov, none⟩) (hBv : ∀ i, xsv.getD i 0 < 256) (hnu : nu ≤ 3000) (hnv : nv ≤ 3000) (w : World) (ru : Rng w bu ou (bys xsu)) (rv : Rng w bv ov (bys xsv)) : Cl Try.prog 3 #[.slice Au nu cu, .slice Av nv cv] w fun v w' => v = .bool true ∧ Mod [] w w' := by
 refine Cl.of Try.func3 Try.ntmps3 rfl rfl (ρ := [(0, .slice Au nu cu), (1, .slice Av nv cv)]) rfl ?_
 refine CE.seq (CE.region ?_)
 refine WL.det (op_assign rfl) rfl rfl rfl ?_
 refine WL.end (NE.code (CE.seq (CE.seq (CE.region ?_))))
 iterate 2 refine WL.det (op_move rfl) rfl rfl rfl ?_
 refine WL.call (oc_call (vs := [.slice Au nu cu, .slice Av nv cv]) (cap := []) rfl rfl rfl Try.call7 (c_a2Long nu cu Au nv cv Av w)) rfl rfl (ltb rfl) ?_
 rintro _ _ ⟨rfl, rfl⟩
 refine WL.end (NE.code ?_)
 refine CE.cond_f rfl (still_in hnu hnv) ?_
 refine CE.skip' (NE.code (CE.seq (CE.region ?_)))
 refine WL.det (op_move rfl) rfl rfl rfl ?_
 refine WL.call (oc_call (vs := [.slice Au nu cu, vI 0, vI 57]) (cap := []) rfl rfl rfl Try.call9 (c_A2Digit nu cu Au bu ou xsu 0 57 lnu hAu hBu (by omega) (by omega) w ru)) rfl rfl (ltb rfl) ?_
 rintro _ w1 ⟨u1, rfl, h1, m1⟩
 refine WL.det (op_cvt_if rfl Try.runUnderlying2 Try.runUnderlying24) rfl rfl rfl ?_
 refine WL.op (op_farith (e := (fop .quo .f32 (FloatKind.f32.nearest ((u1 : Nat) : Int)) 1115684864)) (.inr (.inr (.inr rfl))) rfl rfl rfl rfl rfl) rfl rfl (ltb rfl) ?_
 rintro _ w2 ⟨⟨f1, rfl, hf1, lf1⟩, m2⟩
 refine WL.call (oc_call (vs := [vF f1]) (cap := []) rfl rfl rfl Try.call8 (c_OnePole f1 lf1 w2)) rfl rfl (ltb rfl) ?_
 rintro _ w3 ⟨r_1, rfl, h2, h3, m3⟩
 refine WL.op (op_alloc (cs := [vI 0, vF 0, vF 0, vF 0, vF 0, vF 0]) Try.zeroValue28 rfl) rfl rfl (ltb rfl) ?_
 rintro _ w4 ⟨rfl, r1, m4, z1⟩
 refine WL.op0 (op_store (i := 0) (cs := [vI 1, vF r_1, vF f1, vF 0, vF 0, vF 0]) rfl rfl rfl Try.sizeOf28 rfl r1 rfl (lB rfl) rfl) rfl rfl ?_
 rintro _ w5 ⟨r2, m5, z2⟩
 have r3 : Row w5 w3.heap.size 0 [vI 1, vF r_1, vF f1, vF 0, vF 0, vF 0] := Row.congr r2 rfl
 refine WL.end (NE.code (CE.seq ?_))
 refine CE.draw (fun | 2 => some (fun _ wA uA wB => ∃ (r_ : Nat), uA = vF r_ ∧ (r_ < wid .f32) ∧ Mod [] wA wB) | 3 => some (fun _ wA uA wB => ∃ (t : Nat) (y : Nat), uA = .tuple #[.agg #[vI 1, vF r_1, vF f1, vF 0, vF t, vF 0], vF y, vI 0] ∧ (GoodS t) ∧ (y < wid .f32) ∧ Mod [] wA wB) | _ => none) [0, 1, 2, 3, 4, 5, 6, 7, 8, 9] [10] [w3.heap.size] (by kernel_rfl) (by kernel_rfl) ?_
 have md1 : Mod [] w5 w5.drew := (Mod.refl _ _).drew
 generalize w5.drew = w6 at md1 ⊢
 refine DR.det (i := 1) rfl rfl (by kernel_rfl) (.free rfl) rfl rfl (fun wD mD => op_move rfl) ?_
 refine DR.call (i := 2) (fun uA => ∃ (r_ : Nat), uA = vF r_ ∧ (r_ < wid .f32)) rfl rfl (by kernel_rfl) (.free rfl) rfl (ltb rfl) ⟨_, 0, rfl, by decide +kernel⟩ (vs := [.func (.func 11) #[] #[], .slice Av nv cv]) rfl (fun wD mD => oc_call (vs := [.slice Av nv cv]) (cap := []) rfl rfl rfl Try.call11 (c_A2Plain nv cv Av bv ov xsv lnv hAv hBv (by omega) wD (Rng.youngS rv ((Rng.youngS rv ((((rv.ext m1).ext m2).ext m3).ext m4) m5 (allge_cons (lT (lT (lT m1.size m2.size) m3.size) lR) allge_nil)).ext md1) mD (allge_cons (lT (lT (lT m1.size m2.size) m3.size) lR) allge_nil)))) ?_ ?_
 ·rintro w1 _ w2 m1 ⟨r_, rfl, p0, m2⟩; exact ⟨⟨r_, rfl, p0⟩, m2⟩
 rintro _ ⟨r_2, rfl, h4⟩
 refine DR.cut [0, 3, 4] 3 5 rfl (by kernel_rfl) ?_
 refine DR.det (i := 0) rfl rfl (by kernel_rfl) (.free rfl) rfl rfl (fun wD mD => op_loadA (i := 0) (cs := [vI 1, vF r_1, vF f1, vF 0, vF 0, vF 0]) rfl Try.isAgg28 Try.sizeOf28 ((r3.ext md1).ext mD).rng rfl rfl rfl) ?_
 refine DR.call (i := 3) (fun uA => ∃ (t : Nat) (y : Nat), uA = .tuple #[.agg #[vI 1, vF r_1, vF f1, vF 0, vF t, vF 0], vF y, vI 0] ∧ (GoodS t) ∧ (y < wid .f32)) rfl rfl (by kernel_rfl) (.free rfl) rfl (ltb rfl) ⟨_, 0, 0, rfl, GoodS.zero, by decide +kernel⟩ (vs := [.func (.func 10) #[] #[], .agg #[vI 1, vF r_1, vF f1, vF 0, vF 0, vF 0], vF r_2]) rfl (fun wD mD => oc_call (vs := [.agg #[vI 1, vF r_1, vF f1, vF 0, vF 0, vF 0], vF r_2]) (cap := []) rfl rfl rfl Try.call10 (c_stF0 r_1 f1 0 r_2 (by first | assumption | exact stillC_of (by assumption) (by assumption) (by assumption)) (GoodS.zero) h4 wD)) ?_ ?_
 ·rintro w1 _ w2 m1 ⟨t, y, rfl, p0, p1, m2⟩; exact ⟨⟨t, y, rfl, p0, p1⟩, m2⟩
 rintro _ ⟨t1, y1, rfl, h5, h6⟩
 refine DR.det (i := 4) rfl rfl (by kernel_rfl) (.free rfl) rfl rfl (fun wD mD => op_move rfl) ?_
 refine DR.join (by kernel_rfl) ?_
 intro w7 m6 _
 refine ⟨((Mod.refl [w3.heap.size] w6).nt m6), ?_⟩
 refine DR.det (i := 5) rfl rfl (by kernel_rfl) (.free rfl) rfl rfl (fun wD mD => op_extract rfl rfl) ?_
 refine DR.det (i := 6) rfl rfl (by kernel_rfl) (.free rfl) rfl rfl (fun wD mD => op_extract rfl rfl) ?_
 refine DR.det (i := 7) rfl rfl (by kernel_rfl) (.free rfl) rfl rfl (fun wD mD => op_extract rfl rfl) ?_
 refine DR.st1 (i := 8) rfl rfl (by kernel_rfl) (.free rfl) rfl ?_
 intro w8 m7
 refine Op1.mono (op_store (i := 0) (cs := [vI 1, vF r_1, vF f1, vF 0, vF t1, vF 0]) rfl rfl rfl Try.sizeOf28 rfl (((r3.ext md1).ext m6).ext m7) rfl (lB rfl) rfl) ?_
 rintro _ w9 ⟨r4, m8, z3⟩
 have r5 : Row w9 w3.heap.size 0 [vI 1, vF r_1, vF f1, vF 0, vF t1, vF 0] := Row.congr r4 rfl
 refine ⟨((((Mod.refl [w3.heap.size] w6).nt m6).nt m7).then m8 ((aC (.inl (by simp)) aN))), ?_⟩
 refine DR.rebase ?_
 refine DR.det (i := 9) rfl rfl (by kernel_rfl) (.free rfl) rfl rfl (fun wD mD => op_assign rfl) ?_
 refine DR.done rfl ?_
 intro w10 m9
 refine WO.det (op_assign rfl) rfl (.free rfl) rfl rfl ?_
 refine WO.end (NE.code (CE.seq (CE.region ?_)))
 refine WL.det (op_loadA (i := 0) (cs := [vI 1, vF r_1, vF f1, vF 0, vF t1, vF 0]) rfl Try.isAgg28 Try.sizeOf28 (r5.ext m9).rng rfl rfl rfl) rfl rfl rfl ?_
 refine WL.call (oc_call (vs := [.agg #[vI 1, vF r_1, vF f1, vF 0, vF t1, vF 0], vI 20000]) (cap := []) rfl rfl rfl Try.call12 (c_iSt1 r_1 f1 t1 (by first | assumption | exact stillC_of (by assumption) (by assumption) (by assumption)) (by assumption) w10)) rfl rfl (ltb rfl) ?_
 rintro _ w11 ⟨rfl, h7, m10⟩
 refine WL.det (op_move rfl) rfl rfl rfl ?_
 iterate 2 refine WL.det (op_extract rfl rfl) rfl rfl rfl ?_
 iterate 2 refine WL.det (op_assign rfl) rfl rfl rfl ?_
 refine WL.end (NE.code (CE.seq (CE.region ?_)))
 refine WL.det (op_loadA (i := 0) (cs := [vI 1, vF r_1, vF f1, vF 0, vF t1, vF 0]) rfl Try.isAgg28 Try.sizeOf28 ((r5.ext m9).ext m10).rng rfl rfl rfl) rfl rfl rfl ?_
 refine WL.call (oc_call (vs := [.agg #[vI 1, vF r_1, vF f1, vF 0, vF t1, vF 0], vI 20000]) (cap := []) rfl rfl rfl Try.call13 (c_sSt1 r_1 f1 t1 (by first | assumption | exact stillC_of (by assumption) (by assumption) (by assumption)) (by assumption) w11)) rfl rfl (ltb rfl) ?_
 rintro _ w12 ⟨rfl, h8, m11⟩
 refine WL.det (op_move rfl) rfl rfl rfl ?_
 iterate 2 refine WL.det (op_extract rfl rfl) rfl rfl rfl ?_
 iterate 2 refine WL.det (op_assign rfl) rfl rfl rfl ?_
 refine WL.end (NE.code (CE.seq (CE.seq (CE.region ?_))))
 refine WL.det (op_move rfl) rfl rfl rfl ?_
 refine WL.det (op_nei rfl rfl) rfl rfl rfl ?_
 refine WL.det (op_move rfl) rfl rfl rfl ?_
 refine WL.yes rfl rfl rfl (ltb rfl) rfl rfl ?_
 refine WL.det (op_move rfl) rfl rfl rfl ?_
 refine WL.yes rfl rfl rfl (ltb rfl) rfl rfl ?_
 refine WL.det (op_move rfl) rfl rfl rfl ?_
 refine WL.yes rfl rfl rfl (ltb rfl) rfl rfl ?_
 refine WL.det (op_nei rfl rfl) rfl rfl rfl ?_
 refine WL.det (op_pick_f rfl rfl rfl) rfl rfl rfl ?_
 refine WL.det (op_move rfl) rfl rfl rfl ?_
 refine WL.yes rfl rfl rfl (ltb rfl) rfl rfl ?_
 refine WL.det (op_move rfl) rfl rfl rfl ?_
 refine WL.yes rfl rfl rfl (ltb rfl) rfl rfl ?_
 refine WL.det (op_nei rfl rfl) rfl rfl rfl ?_
 refine WL.det (op_pick_f rfl rfl rfl) rfl rfl rfl ?_
 refine WL.det (op_move rfl) rfl rfl rfl ?_
 refine WL.yes rfl rfl rfl (ltb rfl) rfl rfl ?_
 refine WL.det (op_move rfl) rfl rfl rfl ?_
 refine WL.yes rfl rfl rfl (ltb rfl) rfl rfl ?_
 refine WL.det (op_move rfl) rfl rfl rfl ?_
 refine WL.yes rfl rfl rfl (ltb rfl) rfl rfl ?_
 refine WL.det (op_nei_f rfl rfl rfl) rfl rfl rfl ?_
 refine WL.det (op_pick_f rfl rfl rfl) rfl rfl rfl ?_
 refine WL.end (NE.code ?_)
 refine CE.cond_f rfl rfl ?_
 refine CE.skip' (NE.code (CE.seq (CE.seq (CE.region ?_))))
 refine WL.det (op_assign rfl) rfl rfl rfl ?_
 refine WL.end (NE.code ?_)
 have hC : StillC r_1 f1 := stillC_of (by assumption) (by assumption) (by assumption)
 refine CE.block ?_
 have r6 := (((r5.ext m9).ext m10).ext m11)
 refine CE.loop (fun (z : Nat × Nat) => [(12, vI ((z.1 : Nat) : Int)), (1, .slice Av nv cv), (4, .bool false), (5, vP w3.heap.size 0), (8, vI (((nSt r_1 f1 t1) : Nat) : Int))]) (fun (z : Nat × Nat) => fun W => (z.1 ≤ nSt r_1 f1 t1) ∧ (stAfter r_1 f1 t1 z.1 = z.2) ∧ (GoodS z.2) ∧ Row W w3.heap.size 0 [vI 1, vF r_1, vF f1, vF 0, vF z.2, vF 0] ∧ Mod [w3.heap.size] w12 W) (fun (z : Nat × Nat) => nSt r_1 f1 t1 - z.1) (0, t1) (⟨rfl, rfl, rfl, rfl, rfl, trivial⟩) ⟨(by exact Nat.zero_le _), (by rfl), (by assumption), (Row.congr r6 rfl), Mod.refl _ _⟩ ?_
 rintro ⟨i, t0⟩ w13 ⟨hi, ht, hg, r7, m12⟩
 replace hi : i ≤ nSt r_1 f1 t1 := hi
 replace ht : stAfter r_1 f1 t1 i = t0 := ht
 replace hg : GoodS t0 := hg
 replace r7 : Row w13 w3.heap.size 0 [vI 1, vF r_1, vF f1, vF 0, vF t0, vF 0] := r7
 show CE _ _ _ _ [(12, vI ((i : Nat) : Int)), (1, .slice Av nv cv), (4, .bool false), (5, vP w3.heap.size 0), (8, vI (((nSt r_1 f1 t1) : Nat) : Int))] _
 refine CE.seq (CE.seq (CE.region ?_))
 iterate 2 refine WL.det (op_move rfl) rfl rfl rfl ?_
 refine WL.det (op_lti rfl rfl) rfl rfl rfl ?_
 refine WL.end (NE.code ?_)
 rcases Bool.eq_false_or_eq_true (decide (((i : Nat) : Int) < (((nSt r_1 f1 t1) : Nat) : Int))) with hb1 | hb1
 ·have hp1 := of_decide_eq_true hb1
  refine CE.cond_t rfl hb1 ?_
  refine CE.skip' (NE.code (CE.seq (CE.block (CE.seq (CE.region ?_)))))
  refine WL.det (op_loadA (i := 0) (cs := [vI 1, vF r_1, vF f1, vF 0, vF t0, vF 0]) rfl Try.isAgg28 Try.sizeOf28 r7.rng rfl rfl rfl) rfl rfl rfl ?_
  refine WL.call (oc_call (vs := [.agg #[vI 1, vF r_1, vF f1, vF 0, vF t0, vF 0]]) (cap := []) rfl rfl rfl Try.call14 (c_IsStill1 r_1 f1 t0 (by first | assumption | exact stillC_of (by assumption) (by assumption) (by assumption)) (by assumption) w13)) rfl rfl (ltb rfl) ?_
  rintro _ w14 ⟨rfl, m13⟩
  refine WL.det (op_move rfl) rfl rfl rfl ?_
  iterate 2 refine WL.det (op_extract rfl rfl) rfl rfl rfl ?_
  iterate 2 refine WL.det (op_assign rfl) rfl rfl rfl ?_
  refine WL.end (NE.code (CE.seq (CE.seq (CE.region ?_))))
  refine WL.det (op_move rfl) rfl rfl rfl ?_
  refine WL.det (op_nei rfl rfl) rfl rfl rfl ?_
  refine WL.det (op_move rfl) rfl rfl rfl ?_
  refine WL.yes rfl rfl rfl (ltb rfl) rfl rfl ?_
  refine WL.det (op_move rfl) rfl rfl rfl ?_
  refine WL.det (op_pick_f rfl rfl rfl) rfl rfl rfl ?_
  refine WL.end (NE.code ?_)
  refine CE.cond_f rfl (nSt_not hC (by assumption) ht (by omega)) ?_
  refine CE.skip' (NE.code (CE.seq (CE.region ?_)))
  refine WL.det (op_loadA (i := 0) (cs := [vI 1, vF r_1, vF f1, vF 0, vF t0, vF 0]) rfl Try.isAgg28 Try.sizeOf28 (r7.ext m13).rng rfl rfl rfl) rfl rfl rfl ?_
  refine WL.call (oc_call (vs := [.agg #[vI 1, vF r_1, vF f1, vF 0, vF t0, vF 0], vF 0]) (cap := []) rfl rfl rfl Try.call10 (c_stF1 r_1 f1 t0 0 (by first | assumption | exact stillC_of (by assumption) (by assumption) (by assumption)) (by assumption) (by decide +kernel) w14)) rfl rfl (ltb rfl) ?_
  rintro _ w15 ⟨y2, rfl, h9, m14⟩
  refine WL.det (op_move rfl) rfl rfl rfl ?_
  iterate 3 refine WL.det (op_extract rfl rfl) rfl rfl rfl ?_
  refine WL.op0 (op_store (i := 0) (cs := [vI 1, vF r_1, vF f1, vF 0, vF (nxtS r_1 f1 t0 0), vF 0]) rfl rfl rfl Try.sizeOf28 rfl ((r7.ext m13).ext m14) rfl (lB rfl) rfl) rfl rfl ?_
  rintro _ w16 ⟨r8, m15, z4⟩
  have r9 : Row w16 w3.heap.size 0 [vI 1, vF r_1, vF f1, vF 0, vF (nxtS r_1 f1 t0 0), vF 0] := Row.congr r8 rfl
  refine WL.det (op_assign rfl) rfl rfl rfl ?_
  refine WL.end (NE.code (CE.seq (CE.region ?_)))
  refine WL.det (op_move rfl) rfl rfl rfl ?_
  refine WL.det (op_nei rfl rfl) rfl rfl rfl ?_
  refine WL.end (NE.code ?_)
  refine CE.cond_f rfl rfl ?_
  refine CE.skip' (NE.blk (NE.code (CE.region ?_)))
  refine WL.det (op_move rfl) rfl rfl rfl ?_
  refine WL.det (op_add (r := ((i + 1 : Nat) : Int)) rfl rfl (w_i64 (by omega) (by omega))) rfl rfl rfl ?_
  refine WL.det (op_assign rfl) rfl rfl rfl ?_
  refine WL.end ?_
  exact NE.again ((i + 1), (nxtS r_1 f1 t0 0)) (⟨rfl, rfl, rfl, rfl, rfl, trivial⟩) ⟨(by omega), (by show nxtS _ _ (stAfter _ _ _ _) 0 = _; rw [ht]), (by exact nxt_good _ _ _ _), (Row.congr r9 rfl), (((m12.nt m13).nt m14).then m15 ((aC (.inl (by simp)) aN)))⟩ (by first | (dsimp only; omega) | omega)
 ·have hp1 := of_decide_eq_false hb1
  refine CE.cond_f rfl hb1 ?_
  refine CE.exit' (XE.exit_then (XE.exit_then (XE.exit_here (NE.code (CE.seq (CE.region ?_))))))
  refine WL.det (op_loadA (i := 0) (cs := [vI 1, vF r_1, vF f1, vF 0, vF t0, vF 0]) rfl Try.isAgg28 Try.sizeOf28 r7.rng rfl rfl rfl) rfl rfl rfl ?_
  refine WL.call (oc_call (vs := [.agg #[vI 1, vF r_1, vF f1, vF 0, vF t0, vF 0], vF 0]) (cap := []) rfl rfl rfl Try.call10 (c_stF1 r_1 f1 t0 0 (by first | assumption | exact stillC_of (by assumption) (by assumption) (by assumption)) (by assumption) (by decide +kernel) w13)) rfl rfl (ltb rfl) ?_
  rintro _ w17 ⟨y3, rfl, h10, m16⟩
  refine WL.det (op_move rfl) rfl rfl rfl ?_
  iterate 3 refine WL.det (op_extract rfl rfl) rfl rfl rfl ?_
  refine WL.op (op_alloc (cs := [vI 0, vF 0, vF 0, vF 0, vF 0, vF 0]) Try.zeroValue28 rfl) rfl rfl (ltb rfl) ?_
  rintro _ w18 ⟨rfl, r10, m17, z5⟩
  refine WL.op0 (op_store (i := 0) (cs := [vI 1, vF r_1, vF f1, vF 0, vF (nxtS r_1 f1 t0 0), vF 0]) rfl rfl rfl Try.sizeOf28 rfl r10 rfl (lB rfl) rfl) rfl rfl ?_
  rintro _ w19 ⟨r11, m18, z6⟩
  have r12 : Row w19 w17.heap.size 0 [vI 1, vF r_1, vF f1, vF 0, vF (nxtS r_1 f1 t0 0), vF 0] := Row.congr r11 rfl
  iterate 2 refine WL.det (op_assign rfl) rfl rfl rfl ?_
  refine WL.end (NE.code (CE.seq (CE.region ?_)))
  refine WL.det (op_loadA (i := 0) (cs := [vI 1, vF r_1, vF f1, vF 0, vF (nxtS r_1 f1 t0 0), vF 0]) rfl Try.isAgg28 Try.sizeOf28 r12.rng rfl rfl rfl) rfl rfl rfl ?_
  refine WL.call (oc_call (vs := [.agg #[vI 1, vF r_1, vF f1, vF 0, vF (nxtS r_1 f1 t0 0), vF 0]]) (cap := []) rfl rfl rfl Try.call14 (c_IsStill1 r_1 f1 (nxtS r_1 f1 t0 0) (by first | assumption | exact stillC_of (by assumption) (by assumption) (by assumption)) (nxt_good _ _ _ _) w19)) rfl rfl (ltb rfl) ?_
  rintro _ w20 ⟨rfl, m19⟩
  refine WL.det (op_move rfl) rfl rfl rfl ?_
  iterate 2 refine WL.det (op_extract rfl rfl) rfl rfl rfl ?_
  iterate 2 refine WL.det (op_assign rfl) rfl rfl rfl ?_
  refine WL.end (NE.code (CE.seq (CE.region ?_)))
  refine WL.call (oc_call (vs := [vF 1056964608]) (cap := []) rfl rfl rfl Try.call15 (c_OneZero 1056964608 (by decide +kernel) w20)) rfl rfl (ltb rfl) ?_
  rintro _ w21 ⟨r_3, rfl, h11, h12, m20⟩
  refine WL.det (op_move rfl) rfl rfl rfl ?_
  have sz1 := (lT (lT m1.size m2.size) m3.size)
  have sz2 := (lT (lT (lT (lT (lT (lT (lT (lT (lT (lT (lT sz1 m4.size) m5.size) md1.size) m6.size) m7.size) m8.size) m9.size) m10.size) m11.size) m12.size) m16.size)
  have r13 := (((Rng.youngS rv (((Rng.youngS rv ((((Rng.youngS rv ((((Rng.youngS rv ((((rv.ext m1).ext m2).ext m3).ext m4) m5 (allge_cons (lT sz1 lR) allge_nil)).ext md1).ext m6).ext m7) m8 (allge_cons (lT sz1 lR) allge_nil)).ext m9).ext m10).ext m11) m12 (allge_cons (lT sz1 lR) allge_nil)).ext m16).ext m17) m18 (allge_cons (lT sz2 lR) allge_nil)).ext m19).ext m20)
  refine WL.call (oc_call (vs := [.slice Av nv cv]) (cap := []) rfl rfl rfl Try.call16 (c_A2Any nv cv Av bv ov xsv lnv hAv hBv (by omega) w21 r13)) rfl rfl (ltb rfl) ?_
  rintro _ w22 ⟨r_4, rfl, h13, m21⟩
  refine WL.call (oc_call (vs := [.agg #[vI 2, vF r_3, vF 1056964608, vF 0, vF 0, vF 0], vF r_4]) (cap := []) rfl rfl rfl Try.call10 (c_stF2 r_3 1056964608 r_4 (by first | assumption | exact half_v (by assumption)) h13 w22)) rfl rfl (ltb rfl) ?_
  rintro _ w23 ⟨y4, rfl, h14, m22⟩
  refine WL.det (op_move rfl) rfl rfl rfl ?_
  iterate 3 refine WL.det (op_extract rfl rfl) rfl rfl rfl ?_
  refine WL.op (op_alloc (cs := [vI 0, vF 0, vF 0, vF 0, vF 0, vF 0]) Try.zeroValue28 rfl) rfl rfl (ltb rfl) ?_
  rintro _ w24 ⟨rfl, r14, m23, z7⟩
  refine WL.op0 (op_store (i := 0) (cs := [vI 2, vF r_3, vF 1056964608, vF 0, vF (keptF r_4), vF 0]) rfl rfl rfl Try.sizeOf28 rfl r14 rfl (lB rfl) rfl) rfl rfl ?_
  rintro _ w25 ⟨r15, m24, z8⟩
  have r16 : Row w25 w23.heap.size 0 [vI 2, vF r_3, vF 1056964608, vF 0, vF (keptF r_4), vF 0] := Row.congr r15 rfl
  iterate 2 refine WL.det (op_assign rfl) rfl rfl rfl ?_
  refine WL.end (NE.code (CE.seq (CE.region ?_)))
  refine WL.det (op_loadA (i := 0) (cs := [vI 2, vF r_3, vF 1056964608, vF 0, vF (keptF r_4), vF 0]) rfl Try.isAgg28 Try.sizeOf28 r16.rng rfl rfl rfl) rfl rfl rfl ?_
  refine WL.call (oc_call (vs := [.agg #[vI 2, vF r_3, vF 1056964608, vF 0, vF (keptF r_4), vF 0], vI 2]) (cap := []) rfl rfl rfl Try.call12 (c_iSt2 r_3 1056964608 (keptF r_4) (by first | assumption | exact half_v (by assumption)) (kept_good (by assumption)) w25)) rfl rfl (ltb rfl) ?_
  rintro _ w26 ⟨rfl, h15, m25⟩
  refine WL.det (op_move rfl) rfl rfl rfl ?_
  iterate 2 refine WL.det (op_extract rfl rfl) rfl rfl rfl ?_
  iterate 2 refine WL.det (op_assign rfl) rfl rfl rfl ?_
  refine WL.end (NE.code (CE.seq (CE.region ?_)))
  refine WL.det (op_move rfl) rfl rfl rfl ?_
  refine WL.det (op_eqi rfl rfl) rfl rfl rfl ?_
  refine WL.det (op_move rfl) rfl rfl rfl ?_
  refine WL.yes rfl rfl rfl (ltb rfl) rfl rfl ?_
  refine WL.det (op_move rfl) rfl rfl rfl ?_
  refine WL.yes rfl rfl rfl (ltb rfl) rfl rfl ?_
  refine WL.det (op_eqi rfl rfl) rfl rfl rfl ?_
  refine WL.det (op_pick_t rfl rfl rfl) rfl rfl rfl ?_
  refine WL.det (op_move rfl) rfl rfl rfl ?_
  refine WL.yes rfl rfl rfl (ltb rfl) rfl rfl ?_
  refine WL.det (op_move rfl) rfl rfl rfl ?_
  refine WL.det (op_pick_t rfl rfl rfl) rfl rfl rfl ?_
  refine WL.det (op_move rfl) rfl rfl rfl ?_
  refine WL.yes rfl rfl rfl (ltb rfl) rfl (nSt_end hC (by assumption) ht (by omega) hi) ?_
  refine WL.det (op_move rfl) rfl rfl rfl ?_
  refine WL.yes rfl rfl rfl (ltb rfl) rfl (nSt_end hC (by assumption) ht (by omega) hi) ?_
  refine WL.det (op_eqi rfl rfl) rfl rfl rfl ?_
  refine WL.det (op_pick_t rfl (nSt_end hC (by assumption) ht (by omega) hi) rfl) rfl rfl rfl ?_
  refine WL.det (op_move rfl) rfl rfl rfl ?_
  refine WL.yes rfl rfl rfl (ltb rfl) rfl rfl ?_
  refine WL.det (op_move rfl) rfl rfl rfl ?_
  refine WL.yes rfl rfl rfl (ltb rfl) rfl rfl ?_
  refine WL.det (op_eqi rfl rfl) rfl rfl rfl ?_
  refine WL.det (op_pick_t rfl rfl rfl) rfl rfl rfl ?_
  refine WL.det (op_move rfl) rfl rfl rfl ?_
  refine WL.yes rfl rfl rfl (ltb rfl) rfl rfl ?_
  refine WL.det (op_move rfl) rfl rfl rfl ?_
  refine WL.yes rfl rfl rfl (ltb rfl) rfl rfl ?_
  refine WL.det (op_lei rfl rfl) rfl rfl rfl ?_
  refine WL.det (op_pick_t rfl rfl rfl) rfl rfl rfl ?_
  refine WL.det (op_assign rfl) rfl rfl rfl ?_
  refine WL.end (NE.code (CE.ret' ?_))
  refine XE.leave1 Try.results3 rfl ?_
  have sz3 := (lT (lT (lT (lT (lT (lT sz2 m17.size) m18.size) m19.size) m20.size) m21.size) m22.size)
  refine ⟨?_, ((((((((((((((((((((((((Mod.refl [] w).nt m1).nt m2).nt m3).nt m4).then m5 ((aC (.inr (lT sz1 lR)) aN))).nt md1).nt m6).nt m7).then m8 ((aC (.inr (lT sz1 lR)) aN))).nt m9).nt m10).nt m11).then m12 ((aC (.inr (lT sz1 lR)) aN))).nt m16).nt m17).then m18 ((aC (.inr (lT sz2 lR)) aN))).nt m19).nt m20).nt m21).nt m22).nt m23).then m24 ((aC (.inr (lT sz3 lR)) aN))).nt m25)⟩
  all_goals first | rfl | (exact congrArg Value.bool (decide_eq_true (by omega)))

end Go.Proofs.Ytnpkhjafnjpnmaa
