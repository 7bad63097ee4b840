/- The law on rings, walked (over, good). -/
import Derived.Test.YtnpkhjafnjpnmaaD5
import Derived.Test.YtnpkhjafnjpnmaaE8
import Derived.Test.YtnpkhjafnjpnmaaE20
set_option linter.unusedVariables false
set_option linter.unusedSimpArgs false
set_option maxRecDepth 100000
set_option maxHeartbeats 8000000
namespace Go.Proofs.Ytnpkhjafnjpnmaa

theorem law_rings_over (nu : Nat) (cu : Nat) (Au : Option Addr) (bu : Nat) (ou : Nat) (xsu : List Nat) (nv : Nat) (cv : Nat) (Av : Option Addr) (bv : Nat) (ov : Nat) (xsv : List Nat) (lnu : xsu.length = nu) (hAu : 0 < nu → Au = some ⟨bu, ou, none⟩) (hBu : ∀ i, xsu.getD i 0 < 256) (lnv : xsv.length = nv) (hAv : 0 < nv → Av = some ⟨bv, ov, none⟩) (hBv : ∀ i, xsv.getD i 0 < 256) (hnu : 3000 < nu ∨ 3000 < nv) (w : World) (ru : Rng w bu ou (bys xsu)) (rv : Rng w bv ov (bys xsv)) : Cl Try.prog 4 #[.slice Au nu cu, .slice Av nv cv] w fun v w' => v = .bool true ∧ Mod [] w w' := by
 refine Cl.of Try.func4 Try.ntmps4 rfl rfl (ρ := [(0, .slice Au nu cu), (1, .slice Av nv cv)]) rfl ?_
 refine CE.seq (CE.region ?_)
 refine WL.det (op_assign rfl) rfl rfl rfl ?_
 refine WL.end (NE.code (CE.seq (CE.seq (CE.region ?_))))
 iterate 2 refine WL.det (op_move rfl) rfl rfl rfl ?_
 refine WL.call (oc_call (vs := [.slice Au nu cu, .slice Av nv cv]) (cap := []) rfl rfl rfl Try.call7 (c_a2Long nu cu Au nv cv Av w)) rfl rfl (ltb rfl) ?_
 rintro _ _ ⟨rfl, rfl⟩
 refine WL.end (NE.code ?_)
 refine CE.cond_t rfl (rg_over hnu) ?_
 refine CE.seq (CE.region ?_)
 refine WL.det (op_assign rfl) rfl rfl rfl ?_
 refine WL.end (NE.code (CE.ret' (XE.ret_then ?_)))
 refine XE.leave1 Try.results4 rfl ?_
 refine ⟨rfl, (Mod.refl [] w)⟩

theorem law_rings (nu : Nat) (cu : Nat) (Au : Option Addr) (bu : Nat) (ou : Nat) (xsu : List Nat) (nv : Nat) (cv : Nat) (Av : Option Addr) (bv : Nat) (ov : Nat) (xsv : List Nat) (lnu : xsu.length = nu) (hAu : 0 < nu → Au = some ⟨bu, ou, none⟩) (hBu : ∀ i, xsu.getD i 0 < 256) (lnv : xsv.length = nv) (hAv : 0 < nv → Av = some ⟨bv, ov, none⟩) (hBv : ∀ i, xsv.getD i 0 < 256) (hnu : nu ≤ 3000) (hnv : nv ≤ 3000) (w : World) (ru : Rng w bu ou (bys xsu)) (rv : Rng w bv ov (bys xsv)) : Cl Try.prog 4 #[.slice Au nu cu, .slice Av nv cv] w fun v w' => v = .bool true ∧ Mod [] w w' := by
 refine Cl.of Try.func4 Try.ntmps4 rfl rfl (ρ := [(0, .slice Au nu cu), (1, .slice Av nv cv)]) rfl ?_
 refine CE.seq (CE.region ?_)
 refine WL.det (op_assign rfl) rfl rfl rfl ?_
 refine WL.end (NE.code (CE.seq (CE.seq (CE.region ?_))))
 iterate 2 refine WL.det (op_move rfl) rfl rfl rfl ?_
 refine WL.call (oc_call (vs := [.slice Au nu cu, .slice Av nv cv]) (cap := []) rfl rfl rfl Try.call7 (c_a2Long nu cu Au nv cv Av w)) rfl rfl (ltb rfl) ?_
 rintro _ _ ⟨rfl, rfl⟩
 refine WL.end (NE.code ?_)
 refine CE.cond_f rfl (rg_in hnu hnv) ?_
 refine CE.skip' (NE.code (CE.seq (CE.region ?_)))
 refine WL.det (op_move rfl) rfl rfl rfl ?_
 refine WL.call (oc_call (vs := [.slice Av nv cv, vI 0, vI 12]) (cap := []) rfl rfl rfl Try.call9 (c_A2Digit nv cv Av bv ov xsv 0 12 lnv hAv hBv (by omega) (by omega) w rv)) rfl rfl (ltb rfl) ?_
 rintro _ w1 ⟨u1, rfl, h1, m1⟩
 refine WL.det (op_add (r := ((1 + u1 : Nat) : Int)) rfl rfl (w_i64 (by omega) (by omega))) rfl rfl rfl ?_
 refine WL.det (op_assign rfl) rfl rfl rfl ?_
 refine WL.end (NE.code (CE.seq (CE.region ?_)))
 refine WL.det (op_move rfl) rfl rfl rfl ?_
 refine WL.call (oc_call (vs := [vI ((1 + u1 : Nat) : Int)]) (cap := []) rfl rfl rfl Try.call17 (c_NewRing (1 + u1) (by omega) (by omega) w1)) rfl rfl (ltb rfl) ?_
 rintro _ w2 ⟨b'1, rfl, r1, ge1, m2⟩
 refine WL.det (op_move rfl) rfl rfl rfl ?_
 iterate 2 refine WL.det (op_extract rfl rfl) rfl rfl rfl ?_
 refine WL.op (op_alloc (cs := [.slice none 0 0, vI 0]) Try.zeroValue40 rfl) rfl rfl (ltb rfl) ?_
 rintro _ w3 ⟨rfl, r2, m3, z1⟩
 refine WL.op0 (op_store (i := 0) (cs := [vS b'1 0 (1 + u1) (1 + u1), vI 0]) rfl rfl rfl Try.sizeOf40 rfl r2 rfl (lB rfl) rfl) rfl rfl ?_
 rintro _ w4 ⟨r3, m4, z2⟩
 have r4 : Row w4 w2.heap.size 0 [vS b'1 0 (1 + u1) (1 + u1), vI 0] := Row.congr r3 rfl
 refine WL.det (op_assign rfl) rfl rfl rfl ?_
 refine WL.end (NE.code (CE.seq (CE.region ?_)))
 refine WL.det (op_move rfl) rfl rfl rfl ?_
 have r5 := (Rng.youngS ru (((ru.ext m1).ext m2).ext m3) m4 (allge_cons (lT (lT m1.size m2.size) lR) allge_nil))
 refine WL.call (oc_call (vs := [.slice Au nu cu, vI 40]) (cap := []) rfl rfl rfl Try.call18 (c_A2Samples nu cu Au bu ou xsu lnu hAu hBu (by omega) w4 r5)) rfl rfl (ltb rfl) ?_
 rintro _ w5 ⟨mq1, Lq1, b'2, c'1, A'1, rfl, h2, h3, h4, h5, r6, ge2, m5⟩
 refine WL.det (op_assign rfl) rfl rfl rfl ?_
 refine WL.end (NE.code (CE.seq (CE.seq (CE.region ?_))))
 refine WL.det (op_move rfl) rfl rfl rfl ?_
 refine WL.det (op_nei rfl rfl) rfl rfl rfl ?_
 refine WL.det (op_move rfl) rfl rfl rfl ?_
 refine WL.yes rfl rfl rfl (ltb rfl) rfl rfl ?_
 refine WL.det (op_loadA (i := 0) (cs := [vS b'1 0 (1 + u1) (1 + u1), vI 0]) rfl Try.isAgg40 Try.sizeOf40 (r4.ext m5).rng rfl rfl rfl) rfl rfl rfl ?_
 refine WL.yes rfl rfl rfl (ltb rfl) rfl rfl ?_
 refine WL.call (oc_call (vs := [.agg #[vS b'1 0 (1 + u1) (1 + u1), vI 0]]) (cap := []) rfl rfl rfl Try.call19 (c_ValidRing (1 + u1) (1 + u1) (some ⟨b'1, 0, none⟩) (0 : Int) (by omega) w5)) rfl rfl (ltb rfl) ?_
 rintro _ w6 ⟨rfl, m6⟩
 refine WL.yes rfl rfl rfl (ltb rfl) rfl rfl ?_
 refine WL.det (op_not rfl) rfl rfl rfl ?_
 refine WL.det (op_pick_f rfl rfl rfl) rfl rfl rfl ?_
 refine WL.end (NE.code ?_)
 refine CE.cond_f rfl (bnot_t (vRing_i (i := 0) (n := (1 + u1)) (by omega) (by omega))) ?_
 refine CE.skip' (NE.code (CE.seq (CE.seq (CE.region ?_))))
 refine WL.det (op_assign rfl) rfl rfl rfl ?_
 refine WL.end (NE.code (CE.block ?_))
 have r7 := ((((r1.ext m3).mod m4 (nC (lE (lL r1.lt lR)) nN)).ext m5).ext m6)
 refine CE.loop (fun (z : Nat × Nat × List Nat × Nat × Nat) => [(9, vI ((z.1 : Nat) : Int)), (4, .bool false), (5, vI ((1 + u1 : Nat) : Int)), (6, vP w2.heap.size 0), (8, .slice A'1 mq1 c'1)]) (fun (z : Nat × Nat × List Nat × Nat × Nat) => fun W => (z.1 ≤ mq1) ∧ (z.2.1 = z.1 % (1 + u1)) ∧ (z.2.2.1 = rgF (1 + u1) Lq1 z.1) ∧ (z.2.2.1.length = (1 + u1)) ∧ (z.2.1 < (1 + u1)) ∧ ((1 + u1) ≤ z.2.2.2.2) ∧ z.2.2.2.1 ≠ w2.heap.size ∧ Row W w2.heap.size 0 [vS z.2.2.2.1 0 (1 + u1) z.2.2.2.2, vI ((z.2.1 : Nat) : Int)] ∧ Row W z.2.2.2.1 0 (fl z.2.2.1) ∧ Mod [w2.heap.size] w6 W) (fun (z : Nat × Nat × List Nat × Nat × Nat) => mq1 - z.1) (0, 0, (List.replicate (1 + u1) 0), b'1, (1 + u1)) (⟨rfl, rfl, rfl, rfl, rfl, trivial⟩) ⟨(by exact Nat.zero_le _), (by exact (Nat.zero_mod _).symm), (by rfl), (by exact List.length_replicate), (by dsimp only; omega), (by exact Nat.le_refl _), (lE (lL r1.lt lR)), (Row.congr ((r4.ext m5).ext m6) rfl), (Row.congr r7 rfl), Mod.refl _ _⟩ ?_
 rintro ⟨i, p, xs, bb, cc⟩ w7 ⟨hi, hp, hxs, lx, hpn, hcc, hbb, r8, r9, m7⟩
 replace hi : i ≤ mq1 := hi
 replace hp : p = i % (1 + u1) := hp
 replace hxs : xs = rgF (1 + u1) Lq1 i := hxs
 replace lx : xs.length = (1 + u1) := lx
 replace hpn : p < (1 + u1) := hpn
 replace hcc : (1 + u1) ≤ cc := hcc
 replace hbb : bb ≠ w2.heap.size := hbb
 replace r8 : Row w7 w2.heap.size 0 [vS bb 0 (1 + u1) cc, vI ((p : Nat) : Int)] := r8
 replace r9 : Row w7 bb 0 (fl xs) := r9
 show CE _ _ _ _ [(9, vI ((i : Nat) : Int)), (4, .bool false), (5, vI ((1 + u1 : Nat) : Int)), (6, vP w2.heap.size 0), (8, .slice A'1 mq1 c'1)] _
 refine CE.seq (CE.seq (CE.region ?_))
 iterate 2 refine WL.det (op_move rfl) rfl rfl rfl ?_
 refine WL.det (op_len rfl Try.runUnderlying38) rfl rfl rfl ?_
 refine WL.det (op_lti rfl rfl) rfl rfl rfl ?_
 refine WL.end (NE.code ?_)
 rcases Bool.eq_false_or_eq_true (decide (((i : Nat) : Int) < ((mq1 : Nat) : Int))) with hb1 | hb1
 ·have hp1 := of_decide_eq_true hb1
  refine CE.cond_t rfl hb1 ?_
  refine CE.skip' (NE.code (CE.seq (CE.block (CE.seq ?_))))
  refine CE.drawF (fun | 5 => some (fun _ wA uA wB => ∃ (b' : Nat) (c' : Nat), uA = .tuple #[.agg #[vS b' 0 (1 + u1) c', vI (((p + 1) % (1 + u1) : Nat) : Int)], vF (xs.getD p 0), vI 0] ∧ ((1 + u1) ≤ c') ∧ Row wB b' 0 (fl (xs.set p (Lq1.getD i 0))) ∧ wA.heap.size ≤ b' ∧ Mod [] wA wB) | _ => none) [0, 1, 2, 3, 4, 5, 6, 7, 8, 9, 10, 11, 12] [13] [] (fun ρ W => ∃ (e1_5_0 : Nat) (e1_5_1 : Nat) (e1_10_0 : Nat), ρ = [(4, .bool false), (5, vI ((1 + u1 : Nat) : Int)), (6, vP w2.heap.size 0), (8, .slice A'1 mq1 c'1), (9, vI ((i : Nat) : Int)), (10, vP e1_10_0 0), (11, vF (xs.getD p 0)), (61, vI 0)] ∧ Row W e1_5_0 0 (fl (xs.set p (Lq1.getD i 0))) ∧ Row W e1_10_0 0 [vS e1_5_0 0 (1 + u1) e1_5_1, vI (((p + 1) % (1 + u1) : Nat) : Int)] ∧ w7.heap.size ≤ e1_5_0 ∧ w7.heap.size ≤ e1_10_0 ∧ e1_5_0 ≠ e1_10_0 ∧ ((1 + u1) ≤ e1_5_1) ∧ Mod [] w7 W) (by kernel_rfl) (by kernel_rfl) ?_ ?_
  have md1 : Mod [] w7 w7.drew := (Mod.refl _ _).drew
  generalize w7.drew = w8 at md1 ⊢
  ·refine DR.det (i := 0) rfl rfl (by kernel_rfl) (.free rfl) rfl rfl (fun wD mD => op_loadA (i := 0) (cs := [vS bb 0 (1 + u1) cc, vI ((p : Nat) : Int)]) rfl Try.isAgg40 Try.sizeOf40 ((r8.ext md1).ext mD).rng rfl rfl rfl) ?_
   refine DR.det (i := 1) rfl rfl (by kernel_rfl) (.free rfl) rfl rfl (fun wD mD => op_move rfl) ?_
   refine DR.det (i := 2) rfl rfl (by kernel_rfl) (.free rfl) rfl rfl (fun wD mD => op_move rfl) ?_
   refine DR.det (i := 3) rfl rfl (by kernel_rfl) (.free rfl) rfl rfl (fun wD mD => op_indexSl (off' := 0 + i) rfl (h5 (by omega)) rfl Try.runUnderlying38 Try.sizeOf24 (by omega) (by omega) (by omega)) ?_
   refine DR.det (i := 4) rfl rfl (by kernel_rfl) (.free rfl) rfl rfl (fun wD mD => op_load1 (i := i) rfl Try.isAgg24 ((((r6.ext m6).mod m7 (nC (lG (lL (lL r2.lt m4.size) ge2)) nN)).ext md1).ext mD).rng rfl (fl_get (by have eL : List.length Lq1 = mq1 := h2; omega))) ?_
   refine DR.fork (is := [5, 10]) (by kernel_rfl) (by decide) (all2 ?_ ?_)
   ·refine DP.call (i := 5) rfl rfl (.free rfl) rfl (ltb rfl) (vs := [.func (.func 20) #[] #[], .agg #[vS bb 0 (1 + u1) cc, vI ((p : Nat) : Int)], vF (Lq1.getD i 0)]) rfl ?_
    intro w9 m8
    refine ⟨oc_call (vs := [.agg #[vS bb 0 (1 + u1) cc, vI ((p : Nat) : Int)], vF (Lq1.getD i 0)]) (cap := []) rfl rfl rfl Try.call20 (c_iPushc (1 + u1) cc bb xs p (Lq1.getD i 0) lx (by first | assumption | omega) (by omega) w9 ((r9.ext md1).ext m8).rng), ?_⟩
    rintro _ w10 ⟨b'3, c'2, rfl, h6, r10, ge3, m9⟩
    refine ⟨(((Mod.refl [] w8).nt m8).nt m9), ?_⟩
    refine DR.det (i := 6) rfl rfl (by kernel_rfl) (.free rfl) rfl rfl (fun wD mD => op_move rfl) ?_
    refine DR.det (i := 7) rfl rfl (by kernel_rfl) (.free rfl) rfl rfl (fun wD mD => op_extract rfl rfl) ?_
    refine DR.det (i := 8) rfl rfl (by kernel_rfl) (.free rfl) rfl rfl (fun wD mD => op_extract rfl rfl) ?_
    refine DR.det (i := 9) rfl rfl (by kernel_rfl) (.free rfl) rfl rfl (fun wD mD => op_extract rfl rfl) ?_
    refine DR.one1 (i := 10) rfl rfl (by kernel_rfl) (.free rfl) rfl (ltb rfl) ?_
    intro w11 m10
    refine Op1.mono (op_alloc (cs := [.slice none 0 0, vI 0]) Try.zeroValue40 rfl) ?_
    rintro _ w12 ⟨rfl, r11, m11, z3⟩
    refine ⟨(((((Mod.refl [] w8).nt m8).nt m9).nt m10).nt m11), ?_⟩
    refine DR.st1 (i := 11) rfl rfl (by kernel_rfl) (.free rfl) rfl ?_
    intro w13 m12
    refine Op1.mono (op_store (i := 0) (cs := [vS b'3 0 (1 + u1) c'2, vI (((p + 1) % (1 + u1) : Nat) : Int)]) rfl rfl rfl Try.sizeOf40 rfl (r11.ext m12) rfl (lB rfl) rfl) ?_
    rintro _ w14 ⟨r12, m13, z4⟩
    have r13 : Row w14 w11.heap.size 0 [vS b'3 0 (1 + u1) c'2, vI (((p + 1) % (1 + u1) : Nat) : Int)] := Row.congr r12 rfl
    have sz1 := (lT (lT m8.size m9.size) m10.size)
    refine ⟨(((((((Mod.refl [] w8).nt m8).nt m9).nt m10).nt m11).nt m12).then m13 ((aC (.inr (lT sz1 lR)) aN))), ?_⟩
    refine DR.rebase ?_
    refine DR.det (i := 12) rfl rfl (by kernel_rfl) (.free rfl) rfl rfl (fun wD mD => op_assign rfl) ?_
    refine DR.sub [(4, .bool false), (5, vI ((1 + u1 : Nat) : Int)), (6, vP w2.heap.size 0), (8, .slice A'1 mq1 c'1), (9, vI ((i : Nat) : Int)), (10, vP w11.heap.size 0), (11, vF (xs.getD p 0)), (61, vI 0)] ⟨rfl, rfl, rfl, rfl, rfl, rfl, rfl, rfl, trivial⟩ ?_
    refine DR.meet rfl ?_
    intro w15 m14
    have r14 := (((((r10.ext m10).ext m11).ext m12).mod m13 (nC (lE (lL (lL r10.lt m10.size) lR)) nN)).ext m14)
    have sz2 := (lT (lT (lT md1.size m8.size) m9.size) m10.size)
    exact ⟨b'3, c'2, w11.heap.size, rfl, r14, (r13.ext m14), (lT (lT md1.size m8.size) ge3), (lT sz2 lR), (lE (lL (lL r10.lt m10.size) lR)), h6, (((((((((Mod.refl [] w7).nt md1).nt m8).nt m9).nt m10).nt m11).nt m12).then m13 ((aC (.inr (lT sz2 lR)) aN))).nt m14)⟩
   ·refine DP.op (i := 10) rfl rfl (.free rfl) rfl (ltb rfl) ?_
    intro w16 m15
    refine Op1.mono (op_alloc (cs := [.slice none 0 0, vI 0]) Try.zeroValue40 rfl) ?_
    rintro _ w17 ⟨rfl, r15, m16, z5⟩
    refine ⟨(((Mod.refl [] w8).nt m15).nt m16), ?_⟩
    refine DR.one (i := 5) rfl rfl (by kernel_rfl) (.free rfl) rfl (ltb rfl) (vs := [.func (.func 20) #[] #[], .agg #[vS bb 0 (1 + u1) cc, vI ((p : Nat) : Int)], vF (Lq1.getD i 0)]) rfl ?_
    intro w18 m17
    refine ⟨oc_call (vs := [.agg #[vS bb 0 (1 + u1) cc, vI ((p : Nat) : Int)], vF (Lq1.getD i 0)]) (cap := []) rfl rfl rfl Try.call20 (c_iPushc (1 + u1) cc bb xs p (Lq1.getD i 0) lx (by first | assumption | omega) (by omega) w18 ((((r9.ext md1).ext m15).ext m16).ext m17).rng), ?_⟩
    rintro _ w19 ⟨b'4, c'3, rfl, h7, r16, ge4, m18⟩
    refine ⟨(((((Mod.refl [] w8).nt m15).nt m16).nt m17).nt m18), ?_⟩
    refine DR.det (i := 6) rfl rfl (by kernel_rfl) (.free rfl) rfl rfl (fun wD mD => op_move rfl) ?_
    refine DR.det (i := 7) rfl rfl (by kernel_rfl) (.free rfl) rfl rfl (fun wD mD => op_extract rfl rfl) ?_
    refine DR.det (i := 8) rfl rfl (by kernel_rfl) (.free rfl) rfl rfl (fun wD mD => op_extract rfl rfl) ?_
    refine DR.det (i := 9) rfl rfl (by kernel_rfl) (.free rfl) rfl rfl (fun wD mD => op_extract rfl rfl) ?_
    refine DR.st1 (i := 11) rfl rfl (by kernel_rfl) (.free rfl) rfl ?_
    intro w20 m19
    refine Op1.mono (op_store (i := 0) (cs := [vS b'4 0 (1 + u1) c'3, vI (((p + 1) % (1 + u1) : Nat) : Int)]) rfl rfl rfl Try.sizeOf40 rfl (((r15.ext m17).ext m18).ext m19) rfl (lB rfl) rfl) ?_
    rintro _ w21 ⟨r17, m20, z6⟩
    have r18 : Row w21 w16.heap.size 0 [vS b'4 0 (1 + u1) c'3, vI (((p + 1) % (1 + u1) : Nat) : Int)] := Row.congr r17 rfl
    refine ⟨(((((((Mod.refl [] w8).nt m15).nt m16).nt m17).nt m18).nt m19).then m20 ((aC (.inr (lT m15.size lR)) aN))), ?_⟩
    refine DR.rebase ?_
    refine DR.det (i := 12) rfl rfl (by kernel_rfl) (.free rfl) rfl rfl (fun wD mD => op_assign rfl) ?_
    refine DR.sub [(4, .bool false), (5, vI ((1 + u1 : Nat) : Int)), (6, vP w2.heap.size 0), (8, .slice A'1 mq1 c'1), (9, vI ((i : Nat) : Int)), (10, vP w16.heap.size 0), (11, vF (xs.getD p 0)), (61, vI 0)] ⟨rfl, rfl, rfl, rfl, rfl, rfl, rfl, rfl, trivial⟩ ?_
    refine DR.meet rfl ?_
    intro w22 m21
    have r19 := (((r16.ext m19).mod m20 (nC (lG (lL (lL r15.lt m17.size) ge4)) nN)).ext m21)
    have sz3 := (lT (lT (lT md1.size m15.size) m16.size) m17.size)
    exact ⟨b'4, c'3, w16.heap.size, rfl, r19, (r18.ext m21), (lT sz3 ge4), (lT (lT md1.size m15.size) lR), (lG (lL (lL r15.lt m17.size) ge4)), h7, (((((((((Mod.refl [] w7).nt md1).nt m15).nt m16).nt m17).nt m18).nt m19).then m20 ((aC (.inr (lT (lT md1.size m15.size) lR)) aN))).nt m21)⟩
  ·rintro _ w23 ⟨e1_5_0, e1_5_1, e1_10_0, rfl, rr1_0, rr1_1, ge5, ge6, ne1, hp1_5_0, m22⟩
   refine WO.det (op_assign rfl) rfl (.free rfl) rfl rfl ?_
   refine WO.end (NE.code (CE.seq (CE.region ?_)))
   refine WL.det (op_assign rfl) rfl rfl rfl ?_
   refine WL.end (NE.code (CE.seq (CE.seq (CE.region ?_))))
   iterate 2 refine WL.det (op_move rfl) rfl rfl rfl ?_
   refine WL.det (op_gei rfl rfl) rfl rfl rfl ?_
   refine WL.end (NE.code ?_)
   rcases Bool.eq_false_or_eq_true (decide (((1 + u1 : Nat) : Int) ≤ ((i : Nat) : Int))) with hb2 | hb2
   ·have hp2 := of_decide_eq_true hb2
    refine CE.cond_t rfl hb2 ?_
    refine CE.region ?_
    iterate 3 refine WL.det (op_move rfl) rfl rfl rfl ?_
    refine WL.det (op_sub (r := ((i - (1 + u1) : Nat) : Int)) rfl rfl (w_nsub (l := i) (n := 1 + u1) (by omega) (by omega))) rfl rfl rfl ?_
    refine WL.det (op_indexSl (off' := 0 + (i - (1 + u1))) rfl (h5 (by omega)) rfl Try.runUnderlying38 Try.sizeOf24 (by omega) (by omega) (by omega)) rfl rfl rfl ?_
    have r20 := (((r6.ext m6).mod m7 (nC (lG (lL (lL r2.lt m4.size) ge2)) nN)).ext m22)
    refine WL.det (op_load1 (i := (i - (1 + u1))) rfl Try.isAgg24 r20.rng rfl (fl_get (by have eL : List.length Lq1 = mq1 := h2; omega))) rfl rfl rfl ?_
    refine WL.det (op_assign rfl) rfl rfl rfl ?_
    refine WL.end (NE.code (CE.seq (CE.seq (CE.region ?_))))
    refine WL.det (op_move rfl) rfl rfl rfl ?_
    refine WL.det (op_nei rfl rfl) rfl rfl rfl ?_
    refine WL.det (op_move rfl) rfl rfl rfl ?_
    refine WL.yes rfl rfl rfl (ltb rfl) rfl rfl ?_
    refine WL.det (op_move rfl) rfl rfl rfl ?_
    refine WL.yes rfl rfl rfl (ltb rfl) rfl rfl ?_
    refine WL.det (op_move rfl) rfl rfl rfl ?_
    refine WL.yes rfl rfl rfl (ltb rfl) rfl rfl ?_
    refine WL.call (oc_call (vs := [vF (xs.getD p 0), vF (Lq1.getD (i - (1 + u1)) 0)]) (cap := []) rfl rfl rfl Try.call21 (c_SameSample (xs.getD p 0) (xs.getD p 0) (Lq1.getD (i - (1 + u1)) 0) (Lq1.getD (i - (1 + u1)) 0) rfl rfl w23)) rfl rfl (ltb rfl) ?_
    rintro _ _ ⟨rfl, rfl⟩
    refine WL.yes rfl rfl rfl (ltb rfl) rfl rfl ?_
    refine WL.det (op_not rfl) rfl rfl rfl ?_
    refine WL.det (op_pick_f rfl rfl rfl) rfl rfl rfl ?_
    refine WL.end (NE.code ?_)
    refine CE.cond_f rfl (bnot_t (old_some hxs hp (by omega) (by omega))) ?_
    refine CE.skip' (NE.code (CE.region ?_))
    refine WL.det (op_loadA (i := 0) (cs := [vS e1_5_0 0 (1 + u1) e1_5_1, vI (((p + 1) % (1 + u1) : Nat) : Int)]) rfl Try.isAgg40 Try.sizeOf40 rr1_1.rng rfl rfl rfl) rfl rfl rfl ?_
    refine WL.op0 (op_store (i := 0) (cs := [vS e1_5_0 0 (1 + u1) e1_5_1, vI (((p + 1) % (1 + u1) : Nat) : Int)]) rfl rfl rfl Try.sizeOf40 rfl (r8.ext m22) rfl (lB rfl) rfl) rfl rfl ?_
    rintro _ w24 ⟨r21, m23, z7⟩
    have r22 : Row w24 w2.heap.size 0 [vS e1_5_0 0 (1 + u1) e1_5_1, vI (((p + 1) % (1 + u1) : Nat) : Int)] := Row.congr r21 rfl
    refine WL.end (NE.blk (NE.code (CE.region ?_)))
    refine WL.det (op_move rfl) rfl rfl rfl ?_
    refine WL.det (op_add (r := ((i + 1 : Nat) : Int)) rfl rfl (w_i64 (by omega) (by omega))) rfl rfl rfl ?_
    refine WL.det (op_assign rfl) rfl rfl rfl ?_
    refine WL.end ?_
    have sz4 := (lT (lT (lT m4.size m5.size) m6.size) m7.size)
    exact NE.again ((i + 1), ((p + 1) % (1 + u1)), (xs.set p (Lq1.getD i 0)), e1_5_0, e1_5_1) (⟨rfl, rfl, rfl, rfl, rfl, trivial⟩) ⟨(by dsimp only; omega), (by dsimp only; rw [hp]; exact Nat.mod_add_mod _ _ _), (by dsimp only; rw [hxs, hp]; rfl), (by exact (List.length_set).trans lx), (by exact Nat.mod_lt _ (by omega)), (by dsimp only; omega), (lG (lL (lL r2.lt sz4) ge5)), (Row.congr r22 rfl), (Row.congr (rr1_0.mod m23 (nC (lG (lL (lL r2.lt sz4) ge5)) nN)) rfl), ((m7.nt m22).then m23 ((aC (.inl (by simp)) aN)))⟩ (by first | (dsimp only; omega) | omega)
   ·have hp2 := of_decide_eq_false hb2
    refine CE.cond_f rfl hb2 ?_
    refine CE.skip' (NE.code (CE.seq (CE.seq (CE.region ?_))))
    refine WL.det (op_move rfl) rfl rfl rfl ?_
    refine WL.det (op_nei rfl rfl) rfl rfl rfl ?_
    refine WL.det (op_move rfl) rfl rfl rfl ?_
    refine WL.yes rfl rfl rfl (ltb rfl) rfl rfl ?_
    refine WL.det (op_move rfl) rfl rfl rfl ?_
    refine WL.yes rfl rfl rfl (ltb rfl) rfl rfl ?_
    refine WL.det (op_move rfl) rfl rfl rfl ?_
    refine WL.yes rfl rfl rfl (ltb rfl) rfl rfl ?_
    refine WL.call (oc_call (vs := [vF (xs.getD p 0), vF 0]) (cap := []) rfl rfl rfl Try.call21 (c_SameSample (xs.getD p 0) (xs.getD p 0) 0 0 rfl rfl w23)) rfl rfl (ltb rfl) ?_
    rintro _ _ ⟨rfl, rfl⟩
    refine WL.yes rfl rfl rfl (ltb rfl) rfl rfl ?_
    refine WL.det (op_not rfl) rfl rfl rfl ?_
    refine WL.det (op_pick_f rfl rfl rfl) rfl rfl rfl ?_
    refine WL.end (NE.code ?_)
    refine CE.cond_f rfl (bnot_t (old_none hxs hp (by omega) (by omega))) ?_
    refine CE.skip' (NE.code (CE.region ?_))
    refine WL.det (op_loadA (i := 0) (cs := [vS e1_5_0 0 (1 + u1) e1_5_1, vI (((p + 1) % (1 + u1) : Nat) : Int)]) rfl Try.isAgg40 Try.sizeOf40 rr1_1.rng rfl rfl rfl) rfl rfl rfl ?_
    refine WL.op0 (op_store (i := 0) (cs := [vS e1_5_0 0 (1 + u1) e1_5_1, vI (((p + 1) % (1 + u1) : Nat) : Int)]) rfl rfl rfl Try.sizeOf40 rfl (r8.ext m22) rfl (lB rfl) rfl) rfl rfl ?_
    rintro _ w25 ⟨r23, m24, z8⟩
    have r24 : Row w25 w2.heap.size 0 [vS e1_5_0 0 (1 + u1) e1_5_1, vI (((p + 1) % (1 + u1) : Nat) : Int)] := Row.congr r23 rfl
    refine WL.end (NE.blk (NE.code (CE.region ?_)))
    refine WL.det (op_move rfl) rfl rfl rfl ?_
    refine WL.det (op_add (r := ((i + 1 : Nat) : Int)) rfl rfl (w_i64 (by omega) (by omega))) rfl rfl rfl ?_
    refine WL.det (op_assign rfl) rfl rfl rfl ?_
    refine WL.end ?_
    have sz5 := (lT (lT (lT m4.size m5.size) m6.size) m7.size)
    exact NE.again ((i + 1), ((p + 1) % (1 + u1)), (xs.set p (Lq1.getD i 0)), e1_5_0, e1_5_1) (⟨rfl, rfl, rfl, rfl, rfl, trivial⟩) ⟨(by dsimp only; omega), (by dsimp only; rw [hp]; exact Nat.mod_add_mod _ _ _), (by dsimp only; rw [hxs, hp]; rfl), (by exact (List.length_set).trans lx), (by exact Nat.mod_lt _ (by omega)), (by dsimp only; omega), (lG (lL (lL r2.lt sz5) ge5)), (Row.congr r24 rfl), (Row.congr (rr1_0.mod m24 (nC (lG (lL (lL r2.lt sz5) ge5)) nN)) rfl), ((m7.nt m22).then m24 ((aC (.inl (by simp)) aN)))⟩ (by first | (dsimp only; omega) | omega)
 ·have hp1 := of_decide_eq_false hb1
  refine CE.cond_f rfl hb1 ?_
  refine CE.exit' (XE.exit_then (XE.exit_then (XE.exit_here (NE.code (CE.seq (CE.seq (CE.region ?_)))))))
  refine WL.det (op_assign rfl) rfl rfl rfl ?_
  refine WL.end (NE.code ?_)
  have hm9 : i = mq1 := by omega
  have hxs9 : xs = rgF (1 + u1) Lq1 mq1 := by rw [hxs, hm9]
  have hp9 : p = mq1 % (1 + u1) := by rw [hp, hm9]
  refine CE.block ?_
  refine CE.loop (fun (k : Nat) => [(14, vI ((k : Nat) : Int)), (4, .bool false), (5, vI ((1 + u1 : Nat) : Int)), (6, vP w2.heap.size 0), (8, .slice A'1 mq1 c'1)]) (fun (k : Nat) => fun W => (1 ≤ k) ∧ (k ≤ (1 + u1) + 1) ∧ Mod [] w7 W) (fun (k : Nat) => (1 + u1) + 1 - k) 1 (⟨rfl, rfl, rfl, rfl, rfl, trivial⟩) ⟨(by omega), (by omega), Mod.refl _ _⟩ ?_
  rintro k w26 ⟨hk1, hk, m25⟩
  show CE _ _ _ _ [(14, vI ((k : Nat) : Int)), (4, .bool false), (5, vI ((1 + u1 : Nat) : Int)), (6, vP w2.heap.size 0), (8, .slice A'1 mq1 c'1)] _
  refine CE.seq (CE.seq (CE.region ?_))
  iterate 2 refine WL.det (op_move rfl) rfl rfl rfl ?_
  refine WL.det (op_lei rfl rfl) rfl rfl rfl ?_
  refine WL.end (NE.code ?_)
  rcases Bool.eq_false_or_eq_true (decide (((k : Nat) : Int) ≤ ((1 + u1 : Nat) : Int))) with hb3 | hb3
  ·have hp3 := of_decide_eq_true hb3
   refine CE.cond_t rfl hb3 ?_
   refine CE.skip' (NE.code (CE.seq (CE.block (CE.seq (CE.region ?_)))))
   refine WL.det (op_assign rfl) rfl rfl rfl ?_
   refine WL.end (NE.code (CE.seq (CE.seq (CE.region ?_))))
   refine WL.det (op_move rfl) rfl rfl rfl ?_
   refine WL.det (op_len rfl Try.runUnderlying38) rfl rfl rfl ?_
   refine WL.det (op_move rfl) rfl rfl rfl ?_
   refine WL.det (op_gei rfl rfl) rfl rfl rfl ?_
   refine WL.end (NE.code ?_)
   rcases Bool.eq_false_or_eq_true (decide (((k : Nat) : Int) ≤ ((mq1 : Nat) : Int))) with hb4 | hb4
   ·have hp4 := of_decide_eq_true hb4
    refine CE.cond_t rfl hb4 ?_
    refine CE.region ?_
    iterate 2 refine WL.det (op_move rfl) rfl rfl rfl ?_
    refine WL.det (op_len rfl Try.runUnderlying38) rfl rfl rfl ?_
    refine WL.det (op_move rfl) rfl rfl rfl ?_
    refine WL.det (op_sub (r := ((mq1 - k : Nat) : Int)) rfl rfl (w_nsub (l := mq1) (n := k) (by omega) (by omega))) rfl rfl rfl ?_
    refine WL.det (op_indexSl (off' := 0 + (mq1 - k)) rfl (h5 (by omega)) rfl Try.runUnderlying38 Try.sizeOf24 (by omega) (by omega) (by omega)) rfl rfl rfl ?_
    have r25 := (((r6.ext m6).mod m7 (nC (lG (lL (lL r2.lt m4.size) ge2)) nN)).ext m25)
    refine WL.det (op_load1 (i := (mq1 - k)) rfl Try.isAgg24 r25.rng rfl (fl_get (by have eL : List.length Lq1 = mq1 := h2; omega))) rfl rfl rfl ?_
    refine WL.det (op_assign rfl) rfl rfl rfl ?_
    refine WL.end (NE.code (CE.seq (CE.region ?_)))
    refine WL.det (op_loadA (i := 0) (cs := [vS bb 0 (1 + u1) cc, vI ((p : Nat) : Int)]) rfl Try.isAgg40 Try.sizeOf40 (r8.ext m25).rng rfl rfl rfl) rfl rfl rfl ?_
    refine WL.det (op_move rfl) rfl rfl rfl ?_
    refine WL.call (oc_call (vs := [.agg #[vS bb 0 (1 + u1) cc, vI ((p : Nat) : Int)], vI ((k : Nat) : Int)]) (cap := []) rfl rfl rfl Try.call22 (c_ReadBack (1 + u1) cc bb xs p k lx (by first | assumption | omega) (by omega) (by omega) (by omega) w26 (r9.ext m25).rng)) rfl rfl (ltb rfl) ?_
    rintro _ w27 ⟨rfl, m26⟩
    refine WL.det (op_move rfl) rfl rfl rfl ?_
    iterate 2 refine WL.det (op_extract rfl rfl) rfl rfl rfl ?_
    iterate 2 refine WL.det (op_assign rfl) rfl rfl rfl ?_
    refine WL.end (NE.code (CE.seq (CE.region ?_)))
    refine WL.det (op_loadA (i := 0) (cs := [vS bb 0 (1 + u1) cc, vI ((p : Nat) : Int)]) rfl Try.isAgg40 Try.sizeOf40 ((r8.ext m25).ext m26).rng rfl rfl rfl) rfl rfl rfl ?_
    refine WL.det (op_move rfl) rfl rfl rfl ?_
    refine WL.det (op_cvt_if rfl Try.runUnderlying2 Try.runUnderlying24) rfl rfl rfl ?_
    refine WL.call (oc_call (vs := [.agg #[vS bb 0 (1 + u1) cc, vI ((p : Nat) : Int)], vF (FloatKind.f32.nearest ((k : Nat) : Int))]) (cap := []) rfl rfl rfl Try.call23 (c_ReadBetween (1 + u1) cc bb xs p k (FloatKind.f32.nearest ((k : Nat) : Int)) lx (by first | assumption | omega) (by omega) (by first | assumption | exact BetOk.of (by omega) (by omega) (by omega)) (by omega) (by omega) (by omega) w27 ((r9.ext m25).ext m26).rng)) rfl rfl (ltb rfl) ?_
    rintro _ w28 ⟨rfl, m27⟩
    refine WL.det (op_move rfl) rfl rfl rfl ?_
    iterate 2 refine WL.det (op_extract rfl rfl) rfl rfl rfl ?_
    iterate 2 refine WL.det (op_assign rfl) rfl rfl rfl ?_
    refine WL.end (NE.code (CE.seq (CE.region ?_)))
    refine WL.det (op_move rfl) rfl rfl rfl ?_
    refine WL.det (op_nei rfl rfl) rfl rfl rfl ?_
    refine WL.det (op_move rfl) rfl rfl rfl ?_
    refine WL.yes rfl rfl rfl (ltb rfl) rfl rfl ?_
    refine WL.det (op_move rfl) rfl rfl rfl ?_
    refine WL.yes rfl rfl rfl (ltb rfl) rfl rfl ?_
    refine WL.det (op_nei rfl rfl) rfl rfl rfl ?_
    refine WL.det (op_pick_f rfl rfl rfl) rfl rfl rfl ?_
    refine WL.det (op_move rfl) rfl rfl rfl ?_
    refine WL.yes rfl rfl rfl (ltb rfl) rfl rfl ?_
    refine WL.det (op_move rfl) rfl rfl rfl ?_
    refine WL.yes rfl rfl rfl (ltb rfl) rfl rfl ?_
    refine WL.det (op_move rfl) rfl rfl rfl ?_
    refine WL.yes rfl rfl rfl (ltb rfl) rfl rfl ?_
    refine WL.call (oc_call (vs := [vF (xs.getD ((p + (1 + u1) - k) % (1 + u1)) 0), vF (Lq1.getD (mq1 - k) 0)]) (cap := []) rfl rfl rfl Try.call21 (c_SameSample (xs.getD ((p + (1 + u1) - k) % (1 + u1)) 0) (xs.getD ((p + (1 + u1) - k) % (1 + u1)) 0) (Lq1.getD (mq1 - k) 0) (Lq1.getD (mq1 - k) 0) rfl rfl w28)) rfl rfl (ltb rfl) ?_
    rintro _ _ ⟨rfl, rfl⟩
    refine WL.yes rfl rfl rfl (ltb rfl) rfl rfl ?_
    refine WL.det (op_not rfl) rfl rfl rfl ?_
    refine WL.det (op_pick_f rfl rfl rfl) rfl rfl rfl ?_
    refine WL.det (op_move rfl) rfl rfl rfl ?_
    refine WL.yes rfl rfl rfl (ltb rfl) rfl (bnot_t (bk_some hxs9 hp9 (by omega) (by omega) (by omega))) ?_
    refine WL.det (op_move rfl) rfl rfl rfl ?_
    refine WL.yes rfl rfl rfl (ltb rfl) rfl (bnot_t (bk_some hxs9 hp9 (by omega) (by omega) (by omega))) ?_
    refine WL.det (op_move rfl) rfl rfl rfl ?_
    refine WL.yes rfl rfl rfl (ltb rfl) rfl (bnot_t (bk_some hxs9 hp9 (by omega) (by omega) (by omega))) ?_
    refine WL.call (oc_call (vs := [vF (xs.getD ((p + (1 + u1) - k) % (1 + u1)) 0), vF (Lq1.getD (mq1 - k) 0)]) (cap := []) rfl rfl rfl Try.call21 (c_SameSample (xs.getD ((p + (1 + u1) - k) % (1 + u1)) 0) (xs.getD ((p + (1 + u1) - k) % (1 + u1)) 0) (Lq1.getD (mq1 - k) 0) (Lq1.getD (mq1 - k) 0) rfl rfl w28)) rfl rfl (ltb rfl) ?_
    rintro _ _ ⟨rfl, rfl⟩
    refine WL.yes rfl rfl rfl (ltb rfl) rfl (bnot_t (bk_some hxs9 hp9 (by omega) (by omega) (by omega))) ?_
    refine WL.det (op_not rfl) rfl rfl rfl ?_
    refine WL.det (op_pick_f rfl (bnot_t (bk_some hxs9 hp9 (by omega) (by omega) (by omega))) rfl) rfl rfl rfl ?_
    refine WL.end (NE.code ?_)
    refine CE.cond_f rfl (bnot_t (bk_some hxs9 hp9 (by omega) (by omega) (by omega))) ?_
    refine CE.skip' (NE.blk (NE.code (CE.region ?_)))
    refine WL.det (op_move rfl) rfl rfl rfl ?_
    refine WL.det (op_add (r := ((k + 1 : Nat) : Int)) rfl rfl (w_i64 (by omega) (by omega))) rfl rfl rfl ?_
    refine WL.det (op_assign rfl) rfl rfl rfl ?_
    refine WL.end ?_
    exact NE.again (k + 1) (⟨rfl, rfl, rfl, rfl, rfl, trivial⟩) ⟨(by omega), (by omega), ((m25.nt m26).nt m27)⟩ (by first | (dsimp only; omega) | omega)
   ·have hp4 := of_decide_eq_false hb4
    refine CE.cond_f rfl hb4 ?_
    refine CE.skip' (NE.code (CE.seq (CE.region ?_)))
    refine WL.det (op_loadA (i := 0) (cs := [vS bb 0 (1 + u1) cc, vI ((p : Nat) : Int)]) rfl Try.isAgg40 Try.sizeOf40 (r8.ext m25).rng rfl rfl rfl) rfl rfl rfl ?_
    refine WL.det (op_move rfl) rfl rfl rfl ?_
    refine WL.call (oc_call (vs := [.agg #[vS bb 0 (1 + u1) cc, vI ((p : Nat) : Int)], vI ((k : Nat) : Int)]) (cap := []) rfl rfl rfl Try.call22 (c_ReadBack (1 + u1) cc bb xs p k lx (by first | assumption | omega) (by omega) (by omega) (by omega) w26 (r9.ext m25).rng)) rfl rfl (ltb rfl) ?_
    rintro _ w29 ⟨rfl, m28⟩
    refine WL.det (op_move rfl) rfl rfl rfl ?_
    iterate 2 refine WL.det (op_extract rfl rfl) rfl rfl rfl ?_
    iterate 2 refine WL.det (op_assign rfl) rfl rfl rfl ?_
    refine WL.end (NE.code (CE.seq (CE.region ?_)))
    refine WL.det (op_loadA (i := 0) (cs := [vS bb 0 (1 + u1) cc, vI ((p : Nat) : Int)]) rfl Try.isAgg40 Try.sizeOf40 ((r8.ext m25).ext m28).rng rfl rfl rfl) rfl rfl rfl ?_
    refine WL.det (op_move rfl) rfl rfl rfl ?_
    refine WL.det (op_cvt_if rfl Try.runUnderlying2 Try.runUnderlying24) rfl rfl rfl ?_
    refine WL.call (oc_call (vs := [.agg #[vS bb 0 (1 + u1) cc, vI ((p : Nat) : Int)], vF (FloatKind.f32.nearest ((k : Nat) : Int))]) (cap := []) rfl rfl rfl Try.call23 (c_ReadBetween (1 + u1) cc bb xs p k (FloatKind.f32.nearest ((k : Nat) : Int)) lx (by first | assumption | omega) (by omega) (by first | assumption | exact BetOk.of (by omega) (by omega) (by omega)) (by omega) (by omega) (by omega) w29 ((r9.ext m25).ext m28).rng)) rfl rfl (ltb rfl) ?_
    rintro _ w30 ⟨rfl, m29⟩
    refine WL.det (op_move rfl) rfl rfl rfl ?_
    iterate 2 refine WL.det (op_extract rfl rfl) rfl rfl rfl ?_
    iterate 2 refine WL.det (op_assign rfl) rfl rfl rfl ?_
    refine WL.end (NE.code (CE.seq (CE.region ?_)))
    refine WL.det (op_move rfl) rfl rfl rfl ?_
    refine WL.det (op_nei rfl rfl) rfl rfl rfl ?_
    refine WL.det (op_move rfl) rfl rfl rfl ?_
    refine WL.yes rfl rfl rfl (ltb rfl) rfl rfl ?_
    refine WL.det (op_move rfl) rfl rfl rfl ?_
    refine WL.yes rfl rfl rfl (ltb rfl) rfl rfl ?_
    refine WL.det (op_nei rfl rfl) rfl rfl rfl ?_
    refine WL.det (op_pick_f rfl rfl rfl) rfl rfl rfl ?_
    refine WL.det (op_move rfl) rfl rfl rfl ?_
    refine WL.yes rfl rfl rfl (ltb rfl) rfl rfl ?_
    refine WL.det (op_move rfl) rfl rfl rfl ?_
    refine WL.yes rfl rfl rfl (ltb rfl) rfl rfl ?_
    refine WL.det (op_move rfl) rfl rfl rfl ?_
    refine WL.yes rfl rfl rfl (ltb rfl) rfl rfl ?_
    refine WL.call (oc_call (vs := [vF (xs.getD ((p + (1 + u1) - k) % (1 + u1)) 0), vF 0]) (cap := []) rfl rfl rfl Try.call21 (c_SameSample (xs.getD ((p + (1 + u1) - k) % (1 + u1)) 0) (xs.getD ((p + (1 + u1) - k) % (1 + u1)) 0) 0 0 rfl rfl w30)) rfl rfl (ltb rfl) ?_
    rintro _ _ ⟨rfl, rfl⟩
    refine WL.yes rfl rfl rfl (ltb rfl) rfl rfl ?_
    refine WL.det (op_not rfl) rfl rfl rfl ?_
    refine WL.det (op_pick_f rfl rfl rfl) rfl rfl rfl ?_
    refine WL.det (op_move rfl) rfl rfl rfl ?_
    refine WL.yes rfl rfl rfl (ltb rfl) rfl (bnot_t (bk_none hxs9 hp9 (by omega) (by omega) (by omega))) ?_
    refine WL.det (op_move rfl) rfl rfl rfl ?_
    refine WL.yes rfl rfl rfl (ltb rfl) rfl (bnot_t (bk_none hxs9 hp9 (by omega) (by omega) (by omega))) ?_
    refine WL.det (op_move rfl) rfl rfl rfl ?_
    refine WL.yes rfl rfl rfl (ltb rfl) rfl (bnot_t (bk_none hxs9 hp9 (by omega) (by omega) (by omega))) ?_
    refine WL.call (oc_call (vs := [vF (xs.getD ((p + (1 + u1) - k) % (1 + u1)) 0), vF 0]) (cap := []) rfl rfl rfl Try.call21 (c_SameSample (xs.getD ((p + (1 + u1) - k) % (1 + u1)) 0) (xs.getD ((p + (1 + u1) - k) % (1 + u1)) 0) 0 0 rfl rfl w30)) rfl rfl (ltb rfl) ?_
    rintro _ _ ⟨rfl, rfl⟩
    refine WL.yes rfl rfl rfl (ltb rfl) rfl (bnot_t (bk_none hxs9 hp9 (by omega) (by omega) (by omega))) ?_
    refine WL.det (op_not rfl) rfl rfl rfl ?_
    refine WL.det (op_pick_f rfl (bnot_t (bk_none hxs9 hp9 (by omega) (by omega) (by omega))) rfl) rfl rfl rfl ?_
    refine WL.end (NE.code ?_)
    refine CE.cond_f rfl (bnot_t (bk_none hxs9 hp9 (by omega) (by omega) (by omega))) ?_
    refine CE.skip' (NE.blk (NE.code (CE.region ?_)))
    refine WL.det (op_move rfl) rfl rfl rfl ?_
    refine WL.det (op_add (r := ((k + 1 : Nat) : Int)) rfl rfl (w_i64 (by omega) (by omega))) rfl rfl rfl ?_
    refine WL.det (op_assign rfl) rfl rfl rfl ?_
    refine WL.end ?_
    exact NE.again (k + 1) (⟨rfl, rfl, rfl, rfl, rfl, trivial⟩) ⟨(by omega), (by omega), ((m25.nt m28).nt m29)⟩ (by first | (dsimp only; omega) | omega)
  ·have hp3 := of_decide_eq_false hb3
   refine CE.cond_f rfl hb3 ?_
   refine CE.exit' (XE.exit_then (XE.exit_then (XE.exit_here (NE.code (CE.seq (CE.region ?_))))))
   refine WL.det (op_loadA (i := 0) (cs := [vS bb 0 (1 + u1) cc, vI ((p : Nat) : Int)]) rfl Try.isAgg40 Try.sizeOf40 (r8.ext m25).rng rfl rfl rfl) rfl rfl rfl ?_
   refine WL.call (oc_call (vs := [.agg #[vS bb 0 (1 + u1) cc, vI ((p : Nat) : Int)]]) (cap := []) rfl rfl rfl Try.call24 (c_TurnRing (1 + u1) cc bb xs p lx (by first | assumption | omega) (by omega) (by omega) w26 (r9.ext m25).rng)) rfl rfl (ltb rfl) ?_
   rintro _ w31 ⟨b'5, c'4, zs1, rfl, h8, r26, ge7, m30⟩
   refine WL.det (op_move rfl) rfl rfl rfl ?_
   iterate 2 refine WL.det (op_extract rfl rfl) rfl rfl rfl ?_
   refine WL.op (op_alloc (cs := [.slice none 0 0, vI 0]) Try.zeroValue40 rfl) rfl rfl (ltb rfl) ?_
   rintro _ w32 ⟨rfl, r27, m31, z9⟩
   refine WL.op0 (op_store (i := 0) (cs := [vS b'5 0 (1 + u1) c'4, vI 0]) rfl rfl rfl Try.sizeOf40 rfl r27 rfl (lB rfl) rfl) rfl rfl ?_
   rintro _ w33 ⟨r28, m32, z10⟩
   have r29 : Row w33 w31.heap.size 0 [vS b'5 0 (1 + u1) c'4, vI 0] := Row.congr r28 rfl
   refine WL.det (op_assign rfl) rfl rfl rfl ?_
   refine WL.end (NE.code (CE.seq (CE.region ?_)))
   have sz6 := (lT (lT (lT (lT (lT m4.size m5.size) m6.size) m7.size) m25.size) m30.size)
   have r30 := ((((r8.ext m25).ext m30).ext m31).mod m32 (nC (lE (lL (lL r2.lt sz6) lR)) nN))
   refine WL.det (op_loadA (i := 0) (cs := [vS bb 0 (1 + u1) cc, vI ((p : Nat) : Int)]) rfl Try.isAgg40 Try.sizeOf40 r30.rng rfl rfl rfl) rfl rfl rfl ?_
   refine WL.det (op_move rfl) rfl rfl rfl ?_
   refine WL.det (op_add (r := ((1 + u1 + 1 : Nat) : Int)) rfl rfl (w_i64 (by omega) (by omega))) rfl rfl rfl ?_
   have r31 := ((((r9.ext m25).ext m30).ext m31).mod m32 (nC (lE (lL (lL r9.lt (lT m25.size m30.size)) lR)) nN))
   refine WL.call (oc_call (vs := [.agg #[vS bb 0 (1 + u1) cc, vI ((p : Nat) : Int)], vI ((1 + u1 + 1 : Nat) : Int)]) (cap := []) rfl rfl rfl Try.call22 (c_ReadBack_out (1 + u1) cc bb xs p (1 + u1 + 1) lx (by first | assumption | omega) (by omega) (by omega) w33 r31.rng)) rfl rfl (ltb rfl) ?_
   rintro _ w34 ⟨rfl, m33⟩
   refine WL.det (op_move rfl) rfl rfl rfl ?_
   iterate 2 refine WL.det (op_extract rfl rfl) rfl rfl rfl ?_
   iterate 2 refine WL.det (op_assign rfl) rfl rfl rfl ?_
   refine WL.end (NE.code (CE.seq (CE.region ?_)))
   refine WL.det (op_loadA (i := 0) (cs := [vS b'5 0 (1 + u1) c'4, vI 0]) rfl Try.isAgg40 Try.sizeOf40 (r29.ext m33).rng rfl rfl rfl) rfl rfl rfl ?_
   refine WL.det (op_move rfl) rfl rfl rfl ?_
   have r32 := (((r26.ext m31).mod m32 (nC (lE (lL r26.lt lR)) nN)).ext m33)
   refine WL.call (oc_call (vs := [.agg #[vS b'5 0 (1 + u1) c'4, vI 0], vI ((1 + u1 : Nat) : Int)]) (cap := []) rfl rfl rfl Try.call22 (c_ReadBack (1 + u1) c'4 b'5 zs1 0 (1 + u1) h8 (by first | assumption | omega) (by omega) (by omega) (by omega) w34 r32.rng)) rfl rfl (ltb rfl) ?_
   rintro _ w35 ⟨rfl, m34⟩
   refine WL.det (op_move rfl) rfl rfl rfl ?_
   iterate 2 refine WL.det (op_extract rfl rfl) rfl rfl rfl ?_
   iterate 2 refine WL.det (op_assign rfl) rfl rfl rfl ?_
   refine WL.end (NE.code (CE.seq (CE.region ?_)))
   refine WL.det (op_move rfl) rfl rfl rfl ?_
   refine WL.det (op_eqi rfl rfl) rfl rfl rfl ?_
   refine WL.det (op_move rfl) rfl rfl rfl ?_
   refine WL.yes rfl rfl rfl (ltb rfl) rfl rfl ?_
   refine WL.det (op_fieldAddr (off' := 1) rfl Try.runUnderlying40 rfl rfl Try.sizeOf2 rfl) rfl rfl rfl ?_
   refine WL.yes rfl rfl rfl (ltb rfl) rfl rfl ?_
   refine WL.det (op_load1 (i := 1) rfl Try.isAgg2 ((r29.ext m33).ext m34).rng rfl rfl) rfl rfl rfl ?_
   refine WL.yes rfl rfl rfl (ltb rfl) rfl rfl ?_
   refine WL.det (op_eqi rfl rfl) rfl rfl rfl ?_
   refine WL.det (op_pick_t rfl rfl rfl) rfl rfl rfl ?_
   refine WL.det (op_move rfl) rfl rfl rfl ?_
   refine WL.yes rfl rfl rfl (ltb rfl) rfl rfl ?_
   refine WL.det (op_fieldAddr (off' := 0) rfl Try.runUnderlying40 rfl rfl Try.sizeOf38 rfl) rfl rfl rfl ?_
   refine WL.yes rfl rfl rfl (ltb rfl) rfl rfl ?_
   refine WL.det (op_load1 (i := 0) rfl Try.isAgg38 ((r29.ext m33).ext m34).rng rfl rfl) rfl rfl rfl ?_
   refine WL.yes rfl rfl rfl (ltb rfl) rfl rfl ?_
   refine WL.det (op_len rfl Try.runUnderlying38) rfl rfl rfl ?_
   refine WL.yes rfl rfl rfl (ltb rfl) rfl rfl ?_
   refine WL.det (op_move rfl) rfl rfl rfl ?_
   refine WL.yes rfl rfl rfl (ltb rfl) rfl rfl ?_
   refine WL.det (op_eqi_t rfl rfl rfl) rfl rfl rfl ?_
   refine WL.det (op_pick_t rfl rfl rfl) rfl rfl rfl ?_
   refine WL.det (op_move rfl) rfl rfl rfl ?_
   refine WL.yes rfl rfl rfl (ltb rfl) rfl rfl ?_
   refine WL.det (op_fieldAddr (off' := 0) rfl Try.runUnderlying40 rfl rfl Try.sizeOf38 rfl) rfl rfl rfl ?_
   refine WL.yes rfl rfl rfl (ltb rfl) rfl rfl ?_
   refine WL.det (op_load1 (i := 0) rfl Try.isAgg38 ((r29.ext m33).ext m34).rng rfl rfl) rfl rfl rfl ?_
   refine WL.yes rfl rfl rfl (ltb rfl) rfl rfl ?_
   refine WL.det (op_indexSl (off' := 0) rfl rfl rfl Try.runUnderlying38 Try.sizeOf24 (by omega) (by omega) rfl) rfl rfl rfl ?_
   refine WL.yes rfl rfl rfl (ltb rfl) rfl rfl ?_
   refine WL.det (op_load1 (i := 0) rfl Try.isAgg24 (r32.ext m34).rng rfl (fl_get (by have eL : List.length zs1 = 1 + u1 := h8; omega))) rfl rfl rfl ?_
   refine WL.yes rfl rfl rfl (ltb rfl) rfl rfl ?_
   refine WL.det (op_move rfl) rfl rfl rfl ?_
   refine WL.yes rfl rfl rfl (ltb rfl) rfl rfl ?_
   refine WL.call (oc_call (vs := [vF (zs1.getD 0 0), vF (zs1.getD ((0 + (1 + u1) - (1 + u1)) % (1 + u1)) 0)]) (cap := []) rfl rfl rfl Try.call21 (c_SameSample (zs1.getD 0 0) (zs1.getD 0 0) (zs1.getD ((0 + (1 + u1) - (1 + u1)) % (1 + u1)) 0) (zs1.getD ((0 + (1 + u1) - (1 + u1)) % (1 + u1)) 0) rfl rfl w35)) rfl rfl (ltb rfl) ?_
   rintro _ _ ⟨rfl, rfl⟩
   refine WL.det (op_pick_t rfl rfl rfl) rfl rfl rfl ?_
   refine WL.det (op_move rfl) rfl rfl rfl ?_
   refine WL.yes rfl rfl rfl (ltb rfl) rfl turn_last ?_
   refine WL.det (op_move rfl) rfl rfl rfl ?_
   refine WL.yes rfl rfl rfl (ltb rfl) rfl turn_last ?_
   refine WL.det (op_eqi rfl rfl) rfl rfl rfl ?_
   refine WL.det (op_pick_t rfl turn_last rfl) rfl rfl rfl ?_
   refine WL.det (op_move rfl) rfl rfl rfl ?_
   refine WL.yes rfl rfl rfl (ltb rfl) rfl rfl ?_
   refine WL.det (op_move rfl) rfl rfl rfl ?_
   refine WL.yes rfl rfl rfl (ltb rfl) rfl rfl ?_
   refine WL.det (op_eqi rfl rfl) rfl rfl rfl ?_
   refine WL.det (op_pick_t rfl rfl rfl) rfl rfl rfl ?_
   refine WL.det (op_move rfl) rfl rfl rfl ?_
   refine WL.yes rfl rfl rfl (ltb rfl) rfl rfl ?_
   refine WL.det (op_loadA (i := 0) (cs := [vS bb 0 (1 + u1) cc, vI ((p : Nat) : Int)]) rfl Try.isAgg40 Try.sizeOf40 ((r30.ext m33).ext m34).rng rfl rfl rfl) rfl rfl rfl ?_
   refine WL.yes rfl rfl rfl (ltb rfl) rfl rfl ?_
   refine WL.det (op_loadA (i := 0) (cs := [vS bb 0 (1 + u1) cc, vI ((p : Nat) : Int)]) rfl Try.isAgg40 Try.sizeOf40 ((r30.ext m33).ext m34).rng rfl rfl rfl) rfl rfl rfl ?_
   refine WL.yes rfl rfl rfl (ltb rfl) rfl rfl ?_
   refine WL.call (oc_call (vs := [.agg #[vS bb 0 (1 + u1) cc, vI ((p : Nat) : Int)], .agg #[vS bb 0 (1 + u1) cc, vI ((p : Nat) : Int)]]) (cap := []) rfl rfl rfl Try.call25 (c_SameRingSelf (1 + u1) cc bb xs ((p : Nat) : Int) lx (by omega) w35 ((r31.ext m33).ext m34).rng)) rfl rfl (ltb rfl) ?_
   rintro _ w36 ⟨rfl, m35⟩
   refine WL.det (op_pick_t rfl rfl rfl) rfl rfl rfl ?_
   refine WL.det (op_assign rfl) rfl rfl rfl ?_
   refine WL.end (NE.code (CE.ret' ?_))
   refine XE.leave1 Try.results4 rfl ?_
   have sz7 := (lT (lT (lT (lT (lT (lT (lT (lT m1.size m2.size) m3.size) m4.size) m5.size) m6.size) m7.size) m25.size) m30.size)
   refine ⟨rfl, (((((((((((((((Mod.refl [] w).nt m1).nt m2).nt m3).then m4 ((aC (.inr (lT (lT m1.size m2.size) lR)) aN))).nt m5).nt m6).then m7 ((aC (.inr (lT (lT m1.size m2.size) lR)) aN))).nt m25).nt m30).nt m31).then m32 ((aC (.inr (lT sz7 lR)) aN))).nt m33).nt m34).nt m35)⟩

end Go.Proofs.Ytnpkhjafnjpnmaa
