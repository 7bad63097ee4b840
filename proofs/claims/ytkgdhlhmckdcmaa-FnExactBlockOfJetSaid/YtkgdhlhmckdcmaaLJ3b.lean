/- The law on a block of a jet, walked. -/
import Derived.Test.YtkgdhlhmckdcmaaH4
import Derived.Test.YtkgdhlhmckdcmaaE8
set_option linter.unusedVariables false
set_option linter.unusedSimpArgs false
namespace Go.Proofs.Ytkgdhlhmckdcmaa

set_option maxRecDepth 100000 in
set_option maxHeartbeats 2000000 in
theorem law_blockjet_bad (nTr : Nat) (cTr : Nat) (ATr : Option Addr) (bTr : Nat) (oTr : Nat) (xTr : List Nat) (Tj : Int) (nBr : Nat) (cBr : Nat) (ABr : Option Addr) (bBr : Nat) (oBr : Nat) (xBr : List Nat) (Bj : Int) (Lk : Int) (Lc0 : Nat) (Lc1 : Nat) (Lc2 : Nat) (Ls0 : Nat) (Ls1 : Nat) (Dk : Int) (Dc0 : Nat) (Dc1 : Nat) (Dc2 : Nat) (Ds0 : Nat) (Ds1 : Nat) (ne : Nat) (fa : Nat) (bs : List Nat) (lnTr : xTr.length = nTr) (hATr : 0 < nTr → ATr = some ⟨bTr, oTr, none⟩) (lnBr : xBr.length = nBr) (hABr : 0 < nBr → ABr = some ⟨bBr, oBr, none⟩) (wTr : W32 xTr) (wBr : W32 xBr) (lLs0 : Ls0 < wid .f32) (lLs1 : Ls1 < wid .f32) (lDs0 : Ds0 < wid .f32) (lDs1 : Ds1 < wid .f32) (hv : vJet nTr Tj nBr Bj xTr xBr Lk Lc0 Lc1 Lc2 Ls0 Ls1 Dk Dc0 Dc1 Dc2 Ds0 Ds1 ne fa = false) (hn : nTr ≤ 9223372036854775807) (hm : nBr ≤ 9223372036854775807) (lb : bs.length = 16) (wb : W32 bs) (w : World) (rTr : Rng w bTr oTr (fl xTr)) (rBr : Rng w bBr oBr (fl xBr)) : Cl Try.prog 10 #[.agg #[.slice ATr nTr cTr, vI Tj, .slice ABr nBr cBr, vI Bj, vI Lk, vF Lc0, vF Lc1, vF Lc2, vF Ls0, vF Ls1, vI Dk, vF Dc0, vF Dc1, vF Dc2, vF Ds0, vF Ds1, vF ne, vF fa], .agg (fl bs).toArray] w fun v w' => v = .bool true ∧ Mod [] w w' := by
  refine Cl.of Try.func10 Try.ntmps10 rfl rfl (ρ := [(0, .agg #[.slice ATr nTr cTr, vI Tj, .slice ABr nBr cBr, vI Bj, vI Lk, vF Lc0, vF Lc1, vF Lc2, vF Ls0, vF Ls1, vI Dk, vF Dc0, vF Dc1, vF Dc2, vF Ds0, vF Ds1, vF ne, vF fa]), (1, .agg (fl bs).toArray)]) rfl ?_
  refine CE.seq ?_
  refine CE.region ?_
  refine WL.op (op_box (cs := [.slice ATr nTr cTr, vI Tj, .slice ABr nBr cBr, vI Bj, vI Lk, vF Lc0, vF Lc1, vF Lc2, vF Ls0, vF Ls1, vI Dk, vF Dc0, vF Dc1, vF Dc2, vF Ds0, vF Ds1, vF ne, vF fa]) rfl rfl) rfl rfl (ltb rfl) ?_
  rintro _ w1 ⟨rfl, r1, m1, z1⟩
  refine WL.op (op_box (cs := fl bs) rfl rfl) rfl rfl (ltb rfl) ?_
  rintro _ w2 ⟨rfl, r2, m2, z2⟩
  refine WL.det (op_assign rfl) rfl rfl rfl ?_
  refine WL.end ?_
  refine NE.code ?_
  refine CE.seq ?_
  refine CE.region ?_
  refine WL.det (op_assign rfl) rfl rfl rfl ?_
  refine WL.end ?_
  refine NE.code ?_
  refine CE.seq ?_
  refine CE.region ?_
  refine WL.det (op_loadA (i := 0) (cs := [.slice ATr nTr cTr, vI Tj, .slice ABr nBr cBr, vI Bj, vI Lk, vF Lc0, vF Lc1, vF Lc2, vF Ls0, vF Ls1, vI Dk, vF Dc0, vF Dc1, vF Dc2, vF Ds0, vF Ds1, vF ne, vF fa]) rfl Try.isAgg58 Try.sizeOf58 (r1.ext m2).rng rfl rfl rfl) rfl rfl rfl ?_
  refine WL.det (op_move rfl) rfl rfl rfl ?_
  rcases Bool.eq_false_or_eq_true (decide (1048576 < nTr + nBr)) with hb1 | hb1
  · have hp1 := hb1; try simp only [Bool.and_eq_true, Bool.or_eq_true, Bool.not_eq_true', Bool.not_eq_false', Bool.and_eq_false_iff, Bool.or_eq_false_iff, decide_eq_true_eq, decide_eq_false_iff_not, beq_iff_eq, bne_iff_ne, beq_eq_false_iff_ne, bne_eq_false_iff_eq, ne_eq, Bool.false_eq_true, not_false_eq_true, not_true_eq_false, vIn_t, vIn_f] at hp1
    refine WL.call (oc_call (vs := [.agg #[.slice ATr nTr cTr, vI Tj, .slice ABr nBr cBr, vI Bj, vI Lk, vF Lc0, vF Lc1, vF Lc2, vF Ls0, vF Ls1, vI Dk, vF Dc0, vF Dc1, vF Dc2, vF Ds0, vF Ds1, vF ne, vF fa], vI 1048576]) (cap := []) rfl rfl rfl Try.call30 (c_szJet_over 1048576 nTr cTr ATr Tj nBr cBr ABr Bj Lk Lc0 Lc1 Lc2 Ls0 Ls1 Dk Dc0 Dc1 Dc2 Ds0 Ds1 ne fa (by omega) (by omega) (by omega) (by omega) w2)) rfl rfl (ltb rfl) ?_
    rintro _ w3 ⟨rfl, m3⟩
    refine WL.det (op_assign rfl) rfl rfl rfl ?_
    refine WL.end ?_
    refine NE.code ?_
    refine CE.seq ?_
    refine CE.seq ?_
    refine CE.region ?_
    refine WL.det (op_move rfl) rfl rfl rfl ?_
    refine WL.det (op_lti rfl rfl) rfl rfl rfl ?_
    refine WL.end ?_
    refine NE.code ?_
    refine CE.cond_t rfl rfl ?_
    refine CE.seq ?_
    refine CE.region ?_
    refine WL.det (op_assign rfl) rfl rfl rfl ?_
    refine WL.end ?_
    refine NE.code ?_
    refine CE.ret' ?_
    refine XE.ret_then ?_
    refine XE.leave1 Try.results10 rfl ?_
    refine ⟨rfl, ((((Mod.refl [] w).nt m1).nt m2).nt m3)⟩
  · have hp1 := hb1; try simp only [Bool.and_eq_true, Bool.or_eq_true, Bool.not_eq_true', Bool.not_eq_false', Bool.and_eq_false_iff, Bool.or_eq_false_iff, decide_eq_true_eq, decide_eq_false_iff_not, beq_iff_eq, bne_iff_ne, beq_eq_false_iff_ne, bne_eq_false_iff_eq, ne_eq, Bool.false_eq_true, not_false_eq_true, not_true_eq_false, vIn_t, vIn_f] at hp1
    refine WL.call (oc_call (vs := [.agg #[.slice ATr nTr cTr, vI Tj, .slice ABr nBr cBr, vI Bj, vI Lk, vF Lc0, vF Lc1, vF Lc2, vF Ls0, vF Ls1, vI Dk, vF Dc0, vF Dc1, vF Dc2, vF Ds0, vF Ds1, vF ne, vF fa], vI 1048576]) (cap := []) rfl rfl rfl Try.call30 (c_szJet 1048576 nTr cTr ATr Tj nBr cBr ABr Bj Lk Lc0 Lc1 Lc2 Ls0 Ls1 Dk Dc0 Dc1 Dc2 Ds0 Ds1 ne fa (by omega) (by omega) w2)) rfl rfl (ltb rfl) ?_
    rintro _ w4 ⟨rfl, m4⟩
    refine WL.det (op_assign rfl) rfl rfl rfl ?_
    refine WL.end ?_
    refine NE.code ?_
    refine CE.seq ?_
    refine CE.seq ?_
    refine CE.region ?_
    refine WL.det (op_move rfl) rfl rfl rfl ?_
    refine WL.det (op_lti_f rfl rfl (by omega)) rfl rfl rfl ?_
    refine WL.end ?_
    refine NE.code ?_
    refine CE.cond_f rfl rfl ?_
    refine CE.skip' ?_
    refine NE.code ?_
    refine CE.seq ?_
    refine CE.drawF (fun | 1 => some (fun _ wA uA wB => ∃ (bTr' : Nat) (bBr' : Nat), uA = .agg #[vS bTr' 0 nTr nTr, vI Tj, vS bBr' 0 nBr nBr, vI Bj, vI Lk, vF Lc0, vF Lc1, vF Lc2, vF Ls0, vF Ls1, vI Dk, vF Dc0, vF Dc1, vF Dc2, vF Ds0, vF Ds1, vF ne, vF fa] ∧ Row wB bTr' 0 (fl xTr) ∧ Row wB bBr' 0 (fl xBr) ∧ wA.heap.size ≤ bTr' ∧ wA.heap.size ≤ bBr' ∧ bTr' ≠ bBr' ∧ Mod [] wA wB) | 3 => some (fun _ wA uA wB => uA = .agg (fl bs).toArray ∧ Mod [] wA wB) | 4 => some (fun _ wA uA wB => uA = .tuple #[.agg #[.slice none 0 0, vI 0, .slice none 0 0, vI 0, vI 0, vF 0, vF 0, vF 0, vF 0, vF 0, vI 0, vF 0, vF 0, vF 0, vF 0, vF 0, vF 0, vF 0], .agg (fl (List.replicate 16 0)).toArray, vI 1] ∧ Mod [] wA wB) | _ => none) [0, 1, 2, 3, 4, 5, 6, 7, 8, 9, 10, 11, 12] [13] [] (fun ρ W => ∃ (e1_1_0 : Nat) (e1_1_1 : Nat) (e1_9_0 : Nat) (e1_10_0 : Nat), ρ = [(2, vP w.heap.size 0), (3, vP w1.heap.size 0), (4, .bool false), (6, vP e1_9_0 0), (7, vP e1_10_0 0), (32, vI 1)] ∧ Row W e1_1_0 0 (fl xTr) ∧ Row W e1_1_1 0 (fl xBr) ∧ Row W e1_9_0 0 [.slice none 0 0, vI 0, .slice none 0 0, vI 0, vI 0, vF 0, vF 0, vF 0, vF 0, vF 0, vI 0, vF 0, vF 0, vF 0, vF 0, vF 0, vF 0, vF 0] ∧ Row W e1_10_0 0 (fl (List.replicate 16 0)) ∧ w4.heap.size ≤ e1_1_0 ∧ w4.heap.size ≤ e1_1_1 ∧ w4.heap.size ≤ e1_9_0 ∧ w4.heap.size ≤ e1_10_0 ∧ e1_1_0 ≠ e1_1_1 ∧ e1_1_0 ≠ e1_9_0 ∧ e1_1_0 ≠ e1_10_0 ∧ e1_1_1 ≠ e1_9_0 ∧ e1_1_1 ≠ e1_10_0 ∧ e1_9_0 ≠ e1_10_0 ∧ Mod [] w4 W) (by kernel_rfl) (by kernel_rfl) ?_ ?_
    have md1 : Mod [] w4 w4.drew := (Mod.refl _ _).drew
    generalize w4.drew = w5 at md1 ⊢
    · refine DR.det (i := 0) rfl rfl (by kernel_rfl) (.free rfl) rfl rfl (fun wD mD => op_loadA (i := 0) (cs := [.slice ATr nTr cTr, vI Tj, .slice ABr nBr cBr, vI Bj, vI Lk, vF Lc0, vF Lc1, vF Lc2, vF Ls0, vF Ls1, vI Dk, vF Dc0, vF Dc1, vF Dc2, vF Ds0, vF Ds1, vF ne, vF fa]) rfl Try.isAgg58 Try.sizeOf58 ((((r1.ext m2).ext m4).ext md1).ext mD).rng rfl rfl rfl) ?_
      refine DR.det (i := 2) rfl rfl (by kernel_rfl) (.free rfl) rfl rfl (fun wD mD => op_loadA (i := 0) (cs := fl bs) rfl Try.isAgg81 Try.sizeOf81 (((r2.ext m4).ext md1).ext mD).rng rfl (fl_whole lb) (fl_len lb)) ?_
      refine DR.fork (is := [1, 9, 10]) (by kernel_rfl) (by decide) (all3 ?_ ?_ ?_)
      · refine DP.call (i := 1) rfl rfl (.free rfl) rfl (ltb rfl) (vs := [.func (.func 32) #[] #[], .agg #[.slice ATr nTr cTr, vI Tj, .slice ABr nBr cBr, vI Bj, vI Lk, vF Lc0, vF Lc1, vF Lc2, vF Ls0, vF Ls1, vI Dk, vF Dc0, vF Dc1, vF Dc2, vF Ds0, vF Ds1, vF ne, vF fa]]) rfl ?_
        intro w6 m5
        refine ⟨oc_call (vs := [.agg #[.slice ATr nTr cTr, vI Tj, .slice ABr nBr cBr, vI Bj, vI Lk, vF Lc0, vF Lc1, vF Lc2, vF Ls0, vF Ls1, vI Dk, vF Dc0, vF Dc1, vF Dc2, vF Ds0, vF Ds1, vF ne, vF fa]]) (cap := []) rfl rfl rfl Try.call32 (c_toJet nTr cTr ATr bTr oTr xTr Tj nBr cBr ABr bBr oBr xBr Bj Lk Lc0 Lc1 Lc2 Ls0 Ls1 Dk Dc0 Dc1 Dc2 Ds0 Ds1 ne fa lnTr hATr lnBr hABr (by omega) (by omega) w6 (((((rTr.ext m1).ext m2).ext m4).ext md1).ext m5) (((((rBr.ext m1).ext m2).ext m4).ext md1).ext m5)), ?_⟩
        rintro _ w7 ⟨bTr'1, bBr'1, rfl, r3, r4, ge1, ge2, ne1, m6⟩
        refine ⟨(((Mod.refl [] w5).nt m5).nt m6), ?_⟩
        refine DR.call (i := 3) (fun uA => uA = .agg (fl bs).toArray) rfl rfl (by kernel_rfl) (.free rfl) rfl (ltb rfl) ⟨_, rfl⟩ (vs := [.func (.func 49) #[] #[], .agg (fl bs).toArray]) rfl (fun wD mD => oc_call (vs := [.agg (fl bs).toArray]) (cap := []) rfl rfl rfl Try.call49 (c_toBlock bs lb wD)) ?_ ?_
        · rintro w1 _ w2 m1 ⟨rfl, m2⟩; exact ⟨rfl, m2⟩
        rintro _ rfl
        refine DR.fork (is := [4, 9, 10]) (by kernel_rfl) (by decide) (all3 ?_ ?_ ?_)
        · refine DP.call (i := 4) rfl rfl (.free rfl) rfl (ltb rfl) (vs := [.func (.func 48) #[] #[], .agg #[vS bTr'1 0 nTr nTr, vI Tj, vS bBr'1 0 nBr nBr, vI Bj, vI Lk, vF Lc0, vF Lc1, vF Lc2, vF Ls0, vF Ls1, vI Dk, vF Dc0, vF Dc1, vF Dc2, vF Ds0, vF Ds1, vF ne, vF fa], .agg (fl bs).toArray]) rfl ?_
          intro w8 m7
          refine ⟨oc_call (vs := [.agg #[vS bTr'1 0 nTr nTr, vI Tj, vS bBr'1 0 nBr nBr, vI Bj, vI Lk, vF Lc0, vF Lc1, vF Lc2, vF Ls0, vF Ls1, vI Dk, vF Dc0, vF Dc1, vF Dc2, vF Ds0, vF Ds1, vF ne, vF fa], .agg (fl bs).toArray]) (cap := []) rfl rfl rfl Try.call48 (c_sBlockJet_bad nTr nTr bTr'1 xTr nBr nBr bBr'1 xBr Tj Bj Lk Lc0 Lc1 Lc2 Ls0 Ls1 Dk Dc0 Dc1 Dc2 Ds0 Ds1 ne fa bs lnTr lnBr (by omega) (by omega) (by first | assumption | exact W32.get (by assumption) _ | decide +kernel) (by first | assumption | exact W32.get (by assumption) _ | decide +kernel) (by first | assumption | exact W32.get (by assumption) _ | decide +kernel) (by first | assumption | exact W32.get (by assumption) _ | decide +kernel) lb (by first | assumption | exact W32.set (by assumption) (by first | assumption | exact wid_lt (by assumption)) | exact W32.zeros _ | exact W32.nil) (by assumption) w8 (r3.ext m7).rng (r4.ext m7).rng), ?_⟩
          rintro _ w9 ⟨rfl, m8⟩
          refine ⟨(((((Mod.refl [] w5).nt m5).nt m6).nt m7).nt m8), ?_⟩
          refine DR.det (i := 5) rfl rfl (by kernel_rfl) (.free rfl) rfl rfl (fun wD mD => op_move rfl) ?_
          refine DR.det (i := 6) rfl rfl (by kernel_rfl) (.free rfl) rfl rfl (fun wD mD => op_extract rfl rfl) ?_
          refine DR.det (i := 7) rfl rfl (by kernel_rfl) (.free rfl) rfl rfl (fun wD mD => op_extract rfl rfl) ?_
          refine DR.det (i := 8) rfl rfl (by kernel_rfl) (.free rfl) rfl rfl (fun wD mD => op_extract rfl rfl) ?_
          refine DR.fork (is := [9, 10]) (by kernel_rfl) (by decide) (all2 ?_ ?_)
          · refine DP.op (i := 9) rfl rfl (.free rfl) rfl (ltb rfl) ?_
            intro w10 m9
            refine Op1.mono (op_alloc (cs := [.slice none 0 0, vI 0, .slice none 0 0, vI 0, vI 0, vF 0, vF 0, vF 0, vF 0, vF 0, vI 0, vF 0, vF 0, vF 0, vF 0, vF 0, vF 0, vF 0]) Try.zeroValue61 rfl) ?_
            rintro _ w11 ⟨rfl, r5, m10, z3⟩
            refine ⟨(((((((Mod.refl [] w5).nt m5).nt m6).nt m7).nt m8).nt m9).nt m10), ?_⟩
            refine DR.one1 (i := 10) rfl rfl (by kernel_rfl) (.free rfl) rfl (ltb rfl) ?_
            intro w12 m11
            refine Op1.mono (op_alloc (cs := fl (List.replicate 16 0)) Try.zeroValue82 rfl) ?_
            rintro _ w13 ⟨rfl, r6, m12, z4⟩
            refine ⟨(((((((((Mod.refl [] w5).nt m5).nt m6).nt m7).nt m8).nt m9).nt m10).nt m11).nt m12), ?_⟩
            refine DR.st1 (i := 11) rfl rfl (by kernel_rfl) (.free rfl) rfl ?_
            intro w14 m13
            refine Op1.mono (op_store (i := 0) (cs := [.slice none 0 0, vI 0, .slice none 0 0, vI 0, vI 0, vF 0, vF 0, vF 0, vF 0, vF 0, vI 0, vF 0, vF 0, vF 0, vF 0, vF 0, vF 0, vF 0]) rfl rfl rfl Try.sizeOf61 rfl (((r5.ext m11).ext m12).ext m13) rfl (lB rfl) rfl) ?_
            rintro _ w15 ⟨r7, m14, z5⟩
            have r8 : Row w15 w10.heap.size 0 [.slice none 0 0, vI 0, .slice none 0 0, vI 0, vI 0, vF 0, vF 0, vF 0, vF 0, vF 0, vI 0, vF 0, vF 0, vF 0, vF 0, vF 0, vF 0, vF 0] := Row.congr r7 rfl
            refine ⟨(((((((((((Mod.refl [] w5).nt m5).nt m6).nt m7).nt m8).nt m9).nt m10).nt m11).nt m12).nt m13).then m14 ((aC (.inr (lT (lT (lT (lT (lT m5.size m6.size) m7.size) m8.size) m9.size) lR)) aN))), ?_⟩
            refine DR.st1 (i := 12) rfl rfl (by kernel_rfl) (.free rfl) rfl ?_
            intro w16 m15
            refine Op1.mono (op_store (i := 0) (cs := fl (List.replicate 16 0)) rfl rfl rfl Try.sizeOf82 (fl_len List.length_replicate) (((r6.ext m13).mod m14 (nC (lG (lL (lL r5.lt m11.size) lR)) nN)).ext m15) rfl (by rw [fl_length, List.length_replicate]; decide) (fl_one _)) ?_
            rintro _ w17 ⟨r9, m16, z6⟩
            have r10 : Row w17 w12.heap.size 0 (fl (List.replicate 16 0)) := Row.congr r9 (splice_all ((fl_len (List.length_replicate)).trans (fl_len (List.length_replicate)).symm))
            refine ⟨(((((((((((((Mod.refl [] w5).nt m5).nt m6).nt m7).nt m8).nt m9).nt m10).nt m11).nt m12).nt m13).then m14 ((aC (.inr (lT (lT (lT (lT (lT m5.size m6.size) m7.size) m8.size) m9.size) lR)) aN))).nt m15).then m16 ((aC (.inr (lT (lT (lT (lT (lT (lT (lT m5.size m6.size) m7.size) m8.size) m9.size) m10.size) m11.size) lR)) aN))), ?_⟩
            refine DR.sub [(2, vP w.heap.size 0), (3, vP w1.heap.size 0), (4, .bool false), (6, vP w10.heap.size 0), (7, vP w12.heap.size 0), (32, vI 1)] ⟨rfl, rfl, rfl, rfl, rfl, rfl, trivial⟩ ?_
            refine DR.meet rfl ?_
            intro w18 m17
            exact ⟨bTr'1, bBr'1, w10.heap.size, w12.heap.size, rfl, (((((((((((r3.ext m7).ext m8).ext m9).ext m10).ext m11).ext m12).ext m13).mod m14 (nC (lE (lL (lL r3.lt (lT (lT m7.size m8.size) m9.size)) lR)) nN)).ext m15).mod m16 (nC (lE (lL (lL r3.lt (lT (lT (lT (lT m7.size m8.size) m9.size) m10.size) m11.size)) lR)) nN)).ext m17), (((((((((((r4.ext m7).ext m8).ext m9).ext m10).ext m11).ext m12).ext m13).mod m14 (nC (lE (lL (lL r4.lt (lT (lT m7.size m8.size) m9.size)) lR)) nN)).ext m15).mod m16 (nC (lE (lL (lL r4.lt (lT (lT (lT (lT m7.size m8.size) m9.size) m10.size) m11.size)) lR)) nN)).ext m17), (((r8.ext m15).mod m16 (nC (lE (lL (lL r5.lt m11.size) lR)) nN)).ext m17), (r10.ext m17), (lT (lT md1.size m5.size) ge1), (lT (lT md1.size m5.size) ge2), (lT (lT (lT (lT (lT (lT md1.size m5.size) m6.size) m7.size) m8.size) m9.size) lR), (lT (lT (lT (lT (lT (lT (lT (lT md1.size m5.size) m6.size) m7.size) m8.size) m9.size) m10.size) m11.size) lR), ne1, (lE (lL (lL r3.lt (lT (lT m7.size m8.size) m9.size)) lR)), (lE (lL (lL r3.lt (lT (lT (lT (lT m7.size m8.size) m9.size) m10.size) m11.size)) lR)), (lE (lL (lL r4.lt (lT (lT m7.size m8.size) m9.size)) lR)), (lE (lL (lL r4.lt (lT (lT (lT (lT m7.size m8.size) m9.size) m10.size) m11.size)) lR)), (lE (lL (lL r5.lt m11.size) lR)), (((((((((((((((Mod.refl [] w4).nt md1).nt m5).nt m6).nt m7).nt m8).nt m9).nt m10).nt m11).nt m12).nt m13).then m14 ((aC (.inr (lT (lT (lT (lT (lT (lT md1.size m5.size) m6.size) m7.size) m8.size) m9.size) lR)) aN))).nt m15).then m16 ((aC (.inr (lT (lT (lT (lT (lT (lT (lT (lT md1.size m5.size) m6.size) m7.size) m8.size) m9.size) m10.size) m11.size) lR)) aN))).nt m17)⟩
          · refine DP.op (i := 10) rfl rfl (.free rfl) rfl (ltb rfl) ?_
            intro w19 m18
            refine Op1.mono (op_alloc (cs := fl (List.replicate 16 0)) Try.zeroValue82 rfl) ?_
            rintro _ w20 ⟨rfl, r11, m19, z7⟩
            refine ⟨(((((((Mod.refl [] w5).nt m5).nt m6).nt m7).nt m8).nt m18).nt m19), ?_⟩
            refine DR.one1 (i := 9) rfl rfl (by kernel_rfl) (.free rfl) rfl (ltb rfl) ?_
            intro w21 m20
            refine Op1.mono (op_alloc (cs := [.slice none 0 0, vI 0, .slice none 0 0, vI 0, vI 0, vF 0, vF 0, vF 0, vF 0, vF 0, vI 0, vF 0, vF 0, vF 0, vF 0, vF 0, vF 0, vF 0]) Try.zeroValue61 rfl) ?_
            rintro _ w22 ⟨rfl, r12, m21, z8⟩
            refine ⟨(((((((((Mod.refl [] w5).nt m5).nt m6).nt m7).nt m8).nt m18).nt m19).nt m20).nt m21), ?_⟩
            refine DR.st1 (i := 11) rfl rfl (by kernel_rfl) (.free rfl) rfl ?_
            intro w23 m22
            refine Op1.mono (op_store (i := 0) (cs := [.slice none 0 0, vI 0, .slice none 0 0, vI 0, vI 0, vF 0, vF 0, vF 0, vF 0, vF 0, vI 0, vF 0, vF 0, vF 0, vF 0, vF 0, vF 0, vF 0]) rfl rfl rfl Try.sizeOf61 rfl (r12.ext m22) rfl (lB rfl) rfl) ?_
            rintro _ w24 ⟨r13, m23, z9⟩
            have r14 : Row w24 w21.heap.size 0 [.slice none 0 0, vI 0, .slice none 0 0, vI 0, vI 0, vF 0, vF 0, vF 0, vF 0, vF 0, vI 0, vF 0, vF 0, vF 0, vF 0, vF 0, vF 0, vF 0] := Row.congr r13 rfl
            refine ⟨(((((((((((Mod.refl [] w5).nt m5).nt m6).nt m7).nt m8).nt m18).nt m19).nt m20).nt m21).nt m22).then m23 ((aC (.inr (lT (lT (lT (lT (lT (lT (lT m5.size m6.size) m7.size) m8.size) m18.size) m19.size) m20.size) lR)) aN))), ?_⟩
            refine DR.st1 (i := 12) rfl rfl (by kernel_rfl) (.free rfl) rfl ?_
            intro w25 m24
            refine Op1.mono (op_store (i := 0) (cs := fl (List.replicate 16 0)) rfl rfl rfl Try.sizeOf82 (fl_len List.length_replicate) (((((r11.ext m20).ext m21).ext m22).mod m23 (nC (lE (lL (lL r11.lt m20.size) lR)) nN)).ext m24) rfl (by rw [fl_length, List.length_replicate]; decide) (fl_one _)) ?_
            rintro _ w26 ⟨r15, m25, z10⟩
            have r16 : Row w26 w19.heap.size 0 (fl (List.replicate 16 0)) := Row.congr r15 (splice_all ((fl_len (List.length_replicate)).trans (fl_len (List.length_replicate)).symm))
            refine ⟨(((((((((((((Mod.refl [] w5).nt m5).nt m6).nt m7).nt m8).nt m18).nt m19).nt m20).nt m21).nt m22).then m23 ((aC (.inr (lT (lT (lT (lT (lT (lT (lT m5.size m6.size) m7.size) m8.size) m18.size) m19.size) m20.size) lR)) aN))).nt m24).then m25 ((aC (.inr (lT (lT (lT (lT (lT m5.size m6.size) m7.size) m8.size) m18.size) lR)) aN))), ?_⟩
            refine DR.sub [(2, vP w.heap.size 0), (3, vP w1.heap.size 0), (4, .bool false), (6, vP w21.heap.size 0), (7, vP w19.heap.size 0), (32, vI 1)] ⟨rfl, rfl, rfl, rfl, rfl, rfl, trivial⟩ ?_
            refine DR.meet rfl ?_
            intro w27 m26
            exact ⟨bTr'1, bBr'1, w21.heap.size, w19.heap.size, rfl, (((((((((((r3.ext m7).ext m8).ext m18).ext m19).ext m20).ext m21).ext m22).mod m23 (nC (lE (lL (lL r3.lt (lT (lT (lT (lT m7.size m8.size) m18.size) m19.size) m20.size)) lR)) nN)).ext m24).mod m25 (nC (lE (lL (lL r3.lt (lT (lT m7.size m8.size) m18.size)) lR)) nN)).ext m26), (((((((((((r4.ext m7).ext m8).ext m18).ext m19).ext m20).ext m21).ext m22).mod m23 (nC (lE (lL (lL r4.lt (lT (lT (lT (lT m7.size m8.size) m18.size) m19.size) m20.size)) lR)) nN)).ext m24).mod m25 (nC (lE (lL (lL r4.lt (lT (lT m7.size m8.size) m18.size)) lR)) nN)).ext m26), (((r14.ext m24).mod m25 (nC (lG (lL (lL r11.lt m20.size) lR)) nN)).ext m26), (r16.ext m26), (lT (lT md1.size m5.size) ge1), (lT (lT md1.size m5.size) ge2), (lT (lT (lT (lT (lT (lT (lT (lT md1.size m5.size) m6.size) m7.size) m8.size) m18.size) m19.size) m20.size) lR), (lT (lT (lT (lT (lT (lT md1.size m5.size) m6.size) m7.size) m8.size) m18.size) lR), ne1, (lE (lL (lL r3.lt (lT (lT (lT (lT m7.size m8.size) m18.size) m19.size) m20.size)) lR)), (lE (lL (lL r3.lt (lT (lT m7.size m8.size) m18.size)) lR)), (lE (lL (lL r4.lt (lT (lT (lT (lT m7.size m8.size) m18.size) m19.size) m20.size)) lR)), (lE (lL (lL r4.lt (lT (lT m7.size m8.size) m18.size)) lR)), (lG (lL (lL r11.lt m20.size) lR)), (((((((((((((((Mod.refl [] w4).nt md1).nt m5).nt m6).nt m7).nt m8).nt m18).nt m19).nt m20).nt m21).nt m22).then m23 ((aC (.inr (lT (lT (lT (lT (lT (lT (lT (lT md1.size m5.size) m6.size) m7.size) m8.size) m18.size) m19.size) m20.size) lR)) aN))).nt m24).then m25 ((aC (.inr (lT (lT (lT (lT (lT (lT md1.size m5.size) m6.size) m7.size) m8.size) m18.size) lR)) aN))).nt m26)⟩
        · refine DP.op (i := 9) rfl rfl (.free rfl) rfl (ltb rfl) ?_
          intro w28 m27
          refine Op1.mono (op_alloc (cs := [.slice none 0 0, vI 0, .slice none 0 0, vI 0, vI 0, vF 0, vF 0, vF 0, vF 0, vF 0, vI 0, vF 0, vF 0, vF 0, vF 0, vF 0, vF 0, vF 0]) Try.zeroValue61 rfl) ?_
          rintro _ w29 ⟨rfl, r17, m28, z11⟩
          refine ⟨(((((Mod.refl [] w5).nt m5).nt m6).nt m27).nt m28), ?_⟩
          refine DR.fork (is := [4, 10]) (by kernel_rfl) (by decide) (all2 ?_ ?_)
          · refine DP.call (i := 4) rfl rfl (.free rfl) rfl (ltb rfl) (vs := [.func (.func 48) #[] #[], .agg #[vS bTr'1 0 nTr nTr, vI Tj, vS bBr'1 0 nBr nBr, vI Bj, vI Lk, vF Lc0, vF Lc1, vF Lc2, vF Ls0, vF Ls1, vI Dk, vF Dc0, vF Dc1, vF Dc2, vF Ds0, vF Ds1, vF ne, vF fa], .agg (fl bs).toArray]) rfl ?_
            intro w30 m29
            refine ⟨oc_call (vs := [.agg #[vS bTr'1 0 nTr nTr, vI Tj, vS bBr'1 0 nBr nBr, vI Bj, vI Lk, vF Lc0, vF Lc1, vF Lc2, vF Ls0, vF Ls1, vI Dk, vF Dc0, vF Dc1, vF Dc2, vF Ds0, vF Ds1, vF ne, vF fa], .agg (fl bs).toArray]) (cap := []) rfl rfl rfl Try.call48 (c_sBlockJet_bad nTr nTr bTr'1 xTr nBr nBr bBr'1 xBr Tj Bj Lk Lc0 Lc1 Lc2 Ls0 Ls1 Dk Dc0 Dc1 Dc2 Ds0 Ds1 ne fa bs lnTr lnBr (by omega) (by omega) (by first | assumption | exact W32.get (by assumption) _ | decide +kernel) (by first | assumption | exact W32.get (by assumption) _ | decide +kernel) (by first | assumption | exact W32.get (by assumption) _ | decide +kernel) (by first | assumption | exact W32.get (by assumption) _ | decide +kernel) lb (by first | assumption | exact W32.set (by assumption) (by first | assumption | exact wid_lt (by assumption)) | exact W32.zeros _ | exact W32.nil) (by assumption) w30 (((r3.ext m27).ext m28).ext m29).rng (((r4.ext m27).ext m28).ext m29).rng), ?_⟩
            rintro _ w31 ⟨rfl, m30⟩
            refine ⟨(((((((Mod.refl [] w5).nt m5).nt m6).nt m27).nt m28).nt m29).nt m30), ?_⟩
            refine DR.det (i := 5) rfl rfl (by kernel_rfl) (.free rfl) rfl rfl (fun wD mD => op_move rfl) ?_
            refine DR.det (i := 6) rfl rfl (by kernel_rfl) (.free rfl) rfl rfl (fun wD mD => op_extract rfl rfl) ?_
            refine DR.det (i := 7) rfl rfl (by kernel_rfl) (.free rfl) rfl rfl (fun wD mD => op_extract rfl rfl) ?_
            refine DR.det (i := 8) rfl rfl (by kernel_rfl) (.free rfl) rfl rfl (fun wD mD => op_extract rfl rfl) ?_
            refine DR.one1 (i := 10) rfl rfl (by kernel_rfl) (.free rfl) rfl (ltb rfl) ?_
            intro w32 m31
            refine Op1.mono (op_alloc (cs := fl (List.replicate 16 0)) Try.zeroValue82 rfl) ?_
            rintro _ w33 ⟨rfl, r18, m32, z12⟩
            refine ⟨(((((((((Mod.refl [] w5).nt m5).nt m6).nt m27).nt m28).nt m29).nt m30).nt m31).nt m32), ?_⟩
            refine DR.st1 (i := 11) rfl rfl (by kernel_rfl) (.free rfl) rfl ?_
            intro w34 m33
            refine Op1.mono (op_store (i := 0) (cs := [.slice none 0 0, vI 0, .slice none 0 0, vI 0, vI 0, vF 0, vF 0, vF 0, vF 0, vF 0, vI 0, vF 0, vF 0, vF 0, vF 0, vF 0, vF 0, vF 0]) rfl rfl rfl Try.sizeOf61 rfl (((((r17.ext m29).ext m30).ext m31).ext m32).ext m33) rfl (lB rfl) rfl) ?_
            rintro _ w35 ⟨r19, m34, z13⟩
            have r20 : Row w35 w28.heap.size 0 [.slice none 0 0, vI 0, .slice none 0 0, vI 0, vI 0, vF 0, vF 0, vF 0, vF 0, vF 0, vI 0, vF 0, vF 0, vF 0, vF 0, vF 0, vF 0, vF 0] := Row.congr r19 rfl
            refine ⟨(((((((((((Mod.refl [] w5).nt m5).nt m6).nt m27).nt m28).nt m29).nt m30).nt m31).nt m32).nt m33).then m34 ((aC (.inr (lT (lT (lT m5.size m6.size) m27.size) lR)) aN))), ?_⟩
            refine DR.st1 (i := 12) rfl rfl (by kernel_rfl) (.free rfl) rfl ?_
            intro w36 m35
            refine Op1.mono (op_store (i := 0) (cs := fl (List.replicate 16 0)) rfl rfl rfl Try.sizeOf82 (fl_len List.length_replicate) (((r18.ext m33).mod m34 (nC (lG (lL (lL r17.lt (lT (lT m29.size m30.size) m31.size)) lR)) nN)).ext m35) rfl (by rw [fl_length, List.length_replicate]; decide) (fl_one _)) ?_
            rintro _ w37 ⟨r21, m36, z14⟩
            have r22 : Row w37 w32.heap.size 0 (fl (List.replicate 16 0)) := Row.congr r21 (splice_all ((fl_len (List.length_replicate)).trans (fl_len (List.length_replicate)).symm))
            refine ⟨(((((((((((((Mod.refl [] w5).nt m5).nt m6).nt m27).nt m28).nt m29).nt m30).nt m31).nt m32).nt m33).then m34 ((aC (.inr (lT (lT (lT m5.size m6.size) m27.size) lR)) aN))).nt m35).then m36 ((aC (.inr (lT (lT (lT (lT (lT (lT (lT m5.size m6.size) m27.size) m28.size) m29.size) m30.size) m31.size) lR)) aN))), ?_⟩
            refine DR.sub [(2, vP w.heap.size 0), (3, vP w1.heap.size 0), (4, .bool false), (6, vP w28.heap.size 0), (7, vP w32.heap.size 0), (32, vI 1)] ⟨rfl, rfl, rfl, rfl, rfl, rfl, trivial⟩ ?_
            refine DR.meet rfl ?_
            intro w38 m37
            exact ⟨bTr'1, bBr'1, w28.heap.size, w32.heap.size, rfl, (((((((((((r3.ext m27).ext m28).ext m29).ext m30).ext m31).ext m32).ext m33).mod m34 (nC (lE (lL (lL r3.lt m27.size) lR)) nN)).ext m35).mod m36 (nC (lE (lL (lL r3.lt (lT (lT (lT (lT m27.size m28.size) m29.size) m30.size) m31.size)) lR)) nN)).ext m37), (((((((((((r4.ext m27).ext m28).ext m29).ext m30).ext m31).ext m32).ext m33).mod m34 (nC (lE (lL (lL r4.lt m27.size) lR)) nN)).ext m35).mod m36 (nC (lE (lL (lL r4.lt (lT (lT (lT (lT m27.size m28.size) m29.size) m30.size) m31.size)) lR)) nN)).ext m37), (((r20.ext m35).mod m36 (nC (lE (lL (lL r17.lt (lT (lT m29.size m30.size) m31.size)) lR)) nN)).ext m37), (r22.ext m37), (lT (lT md1.size m5.size) ge1), (lT (lT md1.size m5.size) ge2), (lT (lT (lT (lT md1.size m5.size) m6.size) m27.size) lR), (lT (lT (lT (lT (lT (lT (lT (lT md1.size m5.size) m6.size) m27.size) m28.size) m29.size) m30.size) m31.size) lR), ne1, (lE (lL (lL r3.lt m27.size) lR)), (lE (lL (lL r3.lt (lT (lT (lT (lT m27.size m28.size) m29.size) m30.size) m31.size)) lR)), (lE (lL (lL r4.lt m27.size) lR)), (lE (lL (lL r4.lt (lT (lT (lT (lT m27.size m28.size) m29.size) m30.size) m31.size)) lR)), (lE (lL (lL r17.lt (lT (lT m29.size m30.size) m31.size)) lR)), (((((((((((((((Mod.refl [] w4).nt md1).nt m5).nt m6).nt m27).nt m28).nt m29).nt m30).nt m31).nt m32).nt m33).then m34 ((aC (.inr (lT (lT (lT (lT md1.size m5.size) m6.size) m27.size) lR)) aN))).nt m35).then m36 ((aC (.inr (lT (lT (lT (lT (lT (lT (lT (lT md1.size m5.size) m6.size) m27.size) m28.size) m29.size) m30.size) m31.size) lR)) aN))).nt m37)⟩
          · refine DP.op (i := 10) rfl rfl (.free rfl) rfl (ltb rfl) ?_
            intro w39 m38
            refine Op1.mono (op_alloc (cs := fl (List.replicate 16 0)) Try.zeroValue82 rfl) ?_
            rintro _ w40 ⟨rfl, r23, m39, z15⟩
            refine ⟨(((((((Mod.refl [] w5).nt m5).nt m6).nt m27).nt m28).nt m38).nt m39), ?_⟩
            refine DR.one (i := 4) rfl rfl (by kernel_rfl) (.free rfl) rfl (ltb rfl) (vs := [.func (.func 48) #[] #[], .agg #[vS bTr'1 0 nTr nTr, vI Tj, vS bBr'1 0 nBr nBr, vI Bj, vI Lk, vF Lc0, vF Lc1, vF Lc2, vF Ls0, vF Ls1, vI Dk, vF Dc0, vF Dc1, vF Dc2, vF Ds0, vF Ds1, vF ne, vF fa], .agg (fl bs).toArray]) rfl ?_
            intro w41 m40
            refine ⟨oc_call (vs := [.agg #[vS bTr'1 0 nTr nTr, vI Tj, vS bBr'1 0 nBr nBr, vI Bj, vI Lk, vF Lc0, vF Lc1, vF Lc2, vF Ls0, vF Ls1, vI Dk, vF Dc0, vF Dc1, vF Dc2, vF Ds0, vF Ds1, vF ne, vF fa], .agg (fl bs).toArray]) (cap := []) rfl rfl rfl Try.call48 (c_sBlockJet_bad nTr nTr bTr'1 xTr nBr nBr bBr'1 xBr Tj Bj Lk Lc0 Lc1 Lc2 Ls0 Ls1 Dk Dc0 Dc1 Dc2 Ds0 Ds1 ne fa bs lnTr lnBr (by omega) (by omega) (by first | assumption | exact W32.get (by assumption) _ | decide +kernel) (by first | assumption | exact W32.get (by assumption) _ | decide +kernel) (by first | assumption | exact W32.get (by assumption) _ | decide +kernel) (by first | assumption | exact W32.get (by assumption) _ | decide +kernel) lb (by first | assumption | exact W32.set (by assumption) (by first | assumption | exact wid_lt (by assumption)) | exact W32.zeros _ | exact W32.nil) (by assumption) w41 (((((r3.ext m27).ext m28).ext m38).ext m39).ext m40).rng (((((r4.ext m27).ext m28).ext m38).ext m39).ext m40).rng), ?_⟩
            rintro _ w42 ⟨rfl, m41⟩
            refine ⟨(((((((((Mod.refl [] w5).nt m5).nt m6).nt m27).nt m28).nt m38).nt m39).nt m40).nt m41), ?_⟩
            refine DR.det (i := 5) rfl rfl (by kernel_rfl) (.free rfl) rfl rfl (fun wD mD => op_move rfl) ?_
            refine DR.det (i := 6) rfl rfl (by kernel_rfl) (.free rfl) rfl rfl (fun wD mD => op_extract rfl rfl) ?_
            refine DR.det (i := 7) rfl rfl (by kernel_rfl) (.free rfl) rfl rfl (fun wD mD => op_extract rfl rfl) ?_
            refine DR.det (i := 8) rfl rfl (by kernel_rfl) (.free rfl) rfl rfl (fun wD mD => op_extract rfl rfl) ?_
            refine DR.st1 (i := 11) rfl rfl (by kernel_rfl) (.free rfl) rfl ?_
            intro w43 m42
            refine Op1.mono (op_store (i := 0) (cs := [.slice none 0 0, vI 0, .slice none 0 0, vI 0, vI 0, vF 0, vF 0, vF 0, vF 0, vF 0, vI 0, vF 0, vF 0, vF 0, vF 0, vF 0, vF 0, vF 0]) rfl rfl rfl Try.sizeOf61 rfl (((((r17.ext m38).ext m39).ext m40).ext m41).ext m42) rfl (lB rfl) rfl) ?_
            rintro _ w44 ⟨r24, m43, z16⟩
            have r25 : Row w44 w28.heap.size 0 [.slice none 0 0, vI 0, .slice none 0 0, vI 0, vI 0, vF 0, vF 0, vF 0, vF 0, vF 0, vI 0, vF 0, vF 0, vF 0, vF 0, vF 0, vF 0, vF 0] := Row.congr r24 rfl
            refine ⟨(((((((((((Mod.refl [] w5).nt m5).nt m6).nt m27).nt m28).nt m38).nt m39).nt m40).nt m41).nt m42).then m43 ((aC (.inr (lT (lT (lT m5.size m6.size) m27.size) lR)) aN))), ?_⟩
            refine DR.st1 (i := 12) rfl rfl (by kernel_rfl) (.free rfl) rfl ?_
            intro w45 m44
            refine Op1.mono (op_store (i := 0) (cs := fl (List.replicate 16 0)) rfl rfl rfl Try.sizeOf82 (fl_len List.length_replicate) (((((r23.ext m40).ext m41).ext m42).mod m43 (nC (lG (lL (lL r17.lt m38.size) lR)) nN)).ext m44) rfl (by rw [fl_length, List.length_replicate]; decide) (fl_one _)) ?_
            rintro _ w46 ⟨r26, m45, z17⟩
            have r27 : Row w46 w39.heap.size 0 (fl (List.replicate 16 0)) := Row.congr r26 (splice_all ((fl_len (List.length_replicate)).trans (fl_len (List.length_replicate)).symm))
            refine ⟨(((((((((((((Mod.refl [] w5).nt m5).nt m6).nt m27).nt m28).nt m38).nt m39).nt m40).nt m41).nt m42).then m43 ((aC (.inr (lT (lT (lT m5.size m6.size) m27.size) lR)) aN))).nt m44).then m45 ((aC (.inr (lT (lT (lT (lT (lT m5.size m6.size) m27.size) m28.size) m38.size) lR)) aN))), ?_⟩
            refine DR.sub [(2, vP w.heap.size 0), (3, vP w1.heap.size 0), (4, .bool false), (6, vP w28.heap.size 0), (7, vP w39.heap.size 0), (32, vI 1)] ⟨rfl, rfl, rfl, rfl, rfl, rfl, trivial⟩ ?_
            refine DR.meet rfl ?_
            intro w47 m46
            exact ⟨bTr'1, bBr'1, w28.heap.size, w39.heap.size, rfl, (((((((((((r3.ext m27).ext m28).ext m38).ext m39).ext m40).ext m41).ext m42).mod m43 (nC (lE (lL (lL r3.lt m27.size) lR)) nN)).ext m44).mod m45 (nC (lE (lL (lL r3.lt (lT (lT m27.size m28.size) m38.size)) lR)) nN)).ext m46), (((((((((((r4.ext m27).ext m28).ext m38).ext m39).ext m40).ext m41).ext m42).mod m43 (nC (lE (lL (lL r4.lt m27.size) lR)) nN)).ext m44).mod m45 (nC (lE (lL (lL r4.lt (lT (lT m27.size m28.size) m38.size)) lR)) nN)).ext m46), (((r25.ext m44).mod m45 (nC (lE (lL (lL r17.lt m38.size) lR)) nN)).ext m46), (r27.ext m46), (lT (lT md1.size m5.size) ge1), (lT (lT md1.size m5.size) ge2), (lT (lT (lT (lT md1.size m5.size) m6.size) m27.size) lR), (lT (lT (lT (lT (lT (lT md1.size m5.size) m6.size) m27.size) m28.size) m38.size) lR), ne1, (lE (lL (lL r3.lt m27.size) lR)), (lE (lL (lL r3.lt (lT (lT m27.size m28.size) m38.size)) lR)), (lE (lL (lL r4.lt m27.size) lR)), (lE (lL (lL r4.lt (lT (lT m27.size m28.size) m38.size)) lR)), (lE (lL (lL r17.lt m38.size) lR)), (((((((((((((((Mod.refl [] w4).nt md1).nt m5).nt m6).nt m27).nt m28).nt m38).nt m39).nt m40).nt m41).nt m42).then m43 ((aC (.inr (lT (lT (lT (lT md1.size m5.size) m6.size) m27.size) lR)) aN))).nt m44).then m45 ((aC (.inr (lT (lT (lT (lT (lT (lT md1.size m5.size) m6.size) m27.size) m28.size) m38.size) lR)) aN))).nt m46)⟩
        · refine DP.op (i := 10) rfl rfl (.free rfl) rfl (ltb rfl) ?_
          intro w48 m47
          refine Op1.mono (op_alloc (cs := fl (List.replicate 16 0)) Try.zeroValue82 rfl) ?_
          rintro _ w49 ⟨rfl, r28, m48, z18⟩
          refine ⟨(((((Mod.refl [] w5).nt m5).nt m6).nt m47).nt m48), ?_⟩
          refine DR.fork (is := [4, 9]) (by kernel_rfl) (by decide) (all2 ?_ ?_)
          · refine DP.call (i := 4) rfl rfl (.free rfl) rfl (ltb rfl) (vs := [.func (.func 48) #[] #[], .agg #[vS bTr'1 0 nTr nTr, vI Tj, vS bBr'1 0 nBr nBr, vI Bj, vI Lk, vF Lc0, vF Lc1, vF Lc2, vF Ls0, vF Ls1, vI Dk, vF Dc0, vF Dc1, vF Dc2, vF Ds0, vF Ds1, vF ne, vF fa], .agg (fl bs).toArray]) rfl ?_
            intro w50 m49
            refine ⟨oc_call (vs := [.agg #[vS bTr'1 0 nTr nTr, vI Tj, vS bBr'1 0 nBr nBr, vI Bj, vI Lk, vF Lc0, vF Lc1, vF Lc2, vF Ls0, vF Ls1, vI Dk, vF Dc0, vF Dc1, vF Dc2, vF Ds0, vF Ds1, vF ne, vF fa], .agg (fl bs).toArray]) (cap := []) rfl rfl rfl Try.call48 (c_sBlockJet_bad nTr nTr bTr'1 xTr nBr nBr bBr'1 xBr Tj Bj Lk Lc0 Lc1 Lc2 Ls0 Ls1 Dk Dc0 Dc1 Dc2 Ds0 Ds1 ne fa bs lnTr lnBr (by omega) (by omega) (by first | assumption | exact W32.get (by assumption) _ | decide +kernel) (by first | assumption | exact W32.get (by assumption) _ | decide +kernel) (by first | assumption | exact W32.get (by assumption) _ | decide +kernel) (by first | assumption | exact W32.get (by assumption) _ | decide +kernel) lb (by first | assumption | exact W32.set (by assumption) (by first | assumption | exact wid_lt (by assumption)) | exact W32.zeros _ | exact W32.nil) (by assumption) w50 (((r3.ext m47).ext m48).ext m49).rng (((r4.ext m47).ext m48).ext m49).rng), ?_⟩
            rintro _ w51 ⟨rfl, m50⟩
            refine ⟨(((((((Mod.refl [] w5).nt m5).nt m6).nt m47).nt m48).nt m49).nt m50), ?_⟩
            refine DR.det (i := 5) rfl rfl (by kernel_rfl) (.free rfl) rfl rfl (fun wD mD => op_move rfl) ?_
            refine DR.det (i := 6) rfl rfl (by kernel_rfl) (.free rfl) rfl rfl (fun wD mD => op_extract rfl rfl) ?_
            refine DR.det (i := 7) rfl rfl (by kernel_rfl) (.free rfl) rfl rfl (fun wD mD => op_extract rfl rfl) ?_
            refine DR.det (i := 8) rfl rfl (by kernel_rfl) (.free rfl) rfl rfl (fun wD mD => op_extract rfl rfl) ?_
            refine DR.one1 (i := 9) rfl rfl (by kernel_rfl) (.free rfl) rfl (ltb rfl) ?_
            intro w52 m51
            refine Op1.mono (op_alloc (cs := [.slice none 0 0, vI 0, .slice none 0 0, vI 0, vI 0, vF 0, vF 0, vF 0, vF 0, vF 0, vI 0, vF 0, vF 0, vF 0, vF 0, vF 0, vF 0, vF 0]) Try.zeroValue61 rfl) ?_
            rintro _ w53 ⟨rfl, r29, m52, z19⟩
            refine ⟨(((((((((Mod.refl [] w5).nt m5).nt m6).nt m47).nt m48).nt m49).nt m50).nt m51).nt m52), ?_⟩
            refine DR.st1 (i := 11) rfl rfl (by kernel_rfl) (.free rfl) rfl ?_
            intro w54 m53
            refine Op1.mono (op_store (i := 0) (cs := [.slice none 0 0, vI 0, .slice none 0 0, vI 0, vI 0, vF 0, vF 0, vF 0, vF 0, vF 0, vI 0, vF 0, vF 0, vF 0, vF 0, vF 0, vF 0, vF 0]) rfl rfl rfl Try.sizeOf61 rfl (r29.ext m53) rfl (lB rfl) rfl) ?_
            rintro _ w55 ⟨r30, m54, z20⟩
            have r31 : Row w55 w52.heap.size 0 [.slice none 0 0, vI 0, .slice none 0 0, vI 0, vI 0, vF 0, vF 0, vF 0, vF 0, vF 0, vI 0, vF 0, vF 0, vF 0, vF 0, vF 0, vF 0, vF 0] := Row.congr r30 rfl
            refine ⟨(((((((((((Mod.refl [] w5).nt m5).nt m6).nt m47).nt m48).nt m49).nt m50).nt m51).nt m52).nt m53).then m54 ((aC (.inr (lT (lT (lT (lT (lT (lT (lT m5.size m6.size) m47.size) m48.size) m49.size) m50.size) m51.size) lR)) aN))), ?_⟩
            refine DR.st1 (i := 12) rfl rfl (by kernel_rfl) (.free rfl) rfl ?_
            intro w56 m55
            refine Op1.mono (op_store (i := 0) (cs := fl (List.replicate 16 0)) rfl rfl rfl Try.sizeOf82 (fl_len List.length_replicate) (((((((r28.ext m49).ext m50).ext m51).ext m52).ext m53).mod m54 (nC (lE (lL (lL r28.lt (lT (lT m49.size m50.size) m51.size)) lR)) nN)).ext m55) rfl (by rw [fl_length, List.length_replicate]; decide) (fl_one _)) ?_
            rintro _ w57 ⟨r32, m56, z21⟩
            have r33 : Row w57 w48.heap.size 0 (fl (List.replicate 16 0)) := Row.congr r32 (splice_all ((fl_len (List.length_replicate)).trans (fl_len (List.length_replicate)).symm))
            refine ⟨(((((((((((((Mod.refl [] w5).nt m5).nt m6).nt m47).nt m48).nt m49).nt m50).nt m51).nt m52).nt m53).then m54 ((aC (.inr (lT (lT (lT (lT (lT (lT (lT m5.size m6.size) m47.size) m48.size) m49.size) m50.size) m51.size) lR)) aN))).nt m55).then m56 ((aC (.inr (lT (lT (lT m5.size m6.size) m47.size) lR)) aN))), ?_⟩
            refine DR.sub [(2, vP w.heap.size 0), (3, vP w1.heap.size 0), (4, .bool false), (6, vP w52.heap.size 0), (7, vP w48.heap.size 0), (32, vI 1)] ⟨rfl, rfl, rfl, rfl, rfl, rfl, trivial⟩ ?_
            refine DR.meet rfl ?_
            intro w58 m57
            exact ⟨bTr'1, bBr'1, w52.heap.size, w48.heap.size, rfl, (((((((((((r3.ext m47).ext m48).ext m49).ext m50).ext m51).ext m52).ext m53).mod m54 (nC (lE (lL (lL r3.lt (lT (lT (lT (lT m47.size m48.size) m49.size) m50.size) m51.size)) lR)) nN)).ext m55).mod m56 (nC (lE (lL (lL r3.lt m47.size) lR)) nN)).ext m57), (((((((((((r4.ext m47).ext m48).ext m49).ext m50).ext m51).ext m52).ext m53).mod m54 (nC (lE (lL (lL r4.lt (lT (lT (lT (lT m47.size m48.size) m49.size) m50.size) m51.size)) lR)) nN)).ext m55).mod m56 (nC (lE (lL (lL r4.lt m47.size) lR)) nN)).ext m57), (((r31.ext m55).mod m56 (nC (lG (lL (lL r28.lt (lT (lT m49.size m50.size) m51.size)) lR)) nN)).ext m57), (r33.ext m57), (lT (lT md1.size m5.size) ge1), (lT (lT md1.size m5.size) ge2), (lT (lT (lT (lT (lT (lT (lT (lT md1.size m5.size) m6.size) m47.size) m48.size) m49.size) m50.size) m51.size) lR), (lT (lT (lT (lT md1.size m5.size) m6.size) m47.size) lR), ne1, (lE (lL (lL r3.lt (lT (lT (lT (lT m47.size m48.size) m49.size) m50.size) m51.size)) lR)), (lE (lL (lL r3.lt m47.size) lR)), (lE (lL (lL r4.lt (lT (lT (lT (lT m47.size m48.size) m49.size) m50.size) m51.size)) lR)), (lE (lL (lL r4.lt m47.size) lR)), (lG (lL (lL r28.lt (lT (lT m49.size m50.size) m51.size)) lR)), (((((((((((((((Mod.refl [] w4).nt md1).nt m5).nt m6).nt m47).nt m48).nt m49).nt m50).nt m51).nt m52).nt m53).then m54 ((aC (.inr (lT (lT (lT (lT (lT (lT (lT (lT md1.size m5.size) m6.size) m47.size) m48.size) m49.size) m50.size) m51.size) lR)) aN))).nt m55).then m56 ((aC (.inr (lT (lT (lT (lT md1.size m5.size) m6.size) m47.size) lR)) aN))).nt m57)⟩
          · refine DP.op (i := 9) rfl rfl (.free rfl) rfl (ltb rfl) ?_
            intro w59 m58
            refine Op1.mono (op_alloc (cs := [.slice none 0 0, vI 0, .slice none 0 0, vI 0, vI 0, vF 0, vF 0, vF 0, vF 0, vF 0, vI 0, vF 0, vF 0, vF 0, vF 0, vF 0, vF 0, vF 0]) Try.zeroValue61 rfl) ?_
            rintro _ w60 ⟨rfl, r34, m59, z22⟩
            refine ⟨(((((((Mod.refl [] w5).nt m5).nt m6).nt m47).nt m48).nt m58).nt m59), ?_⟩
            refine DR.one (i := 4) rfl rfl (by kernel_rfl) (.free rfl) rfl (ltb rfl) (vs := [.func (.func 48) #[] #[], .agg #[vS bTr'1 0 nTr nTr, vI Tj, vS bBr'1 0 nBr nBr, vI Bj, vI Lk, vF Lc0, vF Lc1, vF Lc2, vF Ls0, vF Ls1, vI Dk, vF Dc0, vF Dc1, vF Dc2, vF Ds0, vF Ds1, vF ne, vF fa], .agg (fl bs).toArray]) rfl ?_
            intro w61 m60
            refine ⟨oc_call (vs := [.agg #[vS bTr'1 0 nTr nTr, vI Tj, vS bBr'1 0 nBr nBr, vI Bj, vI Lk, vF Lc0, vF Lc1, vF Lc2, vF Ls0, vF Ls1, vI Dk, vF Dc0, vF Dc1, vF Dc2, vF Ds0, vF Ds1, vF ne, vF fa], .agg (fl bs).toArray]) (cap := []) rfl rfl rfl Try.call48 (c_sBlockJet_bad nTr nTr bTr'1 xTr nBr nBr bBr'1 xBr Tj Bj Lk Lc0 Lc1 Lc2 Ls0 Ls1 Dk Dc0 Dc1 Dc2 Ds0 Ds1 ne fa bs lnTr lnBr (by omega) (by omega) (by first | assumption | exact W32.get (by assumption) _ | decide +kernel) (by first | assumption | exact W32.get (by assumption) _ | decide +kernel) (by first | assumption | exact W32.get (by assumption) _ | decide +kernel) (by first | assumption | exact W32.get (by assumption) _ | decide +kernel) lb (by first | assumption | exact W32.set (by assumption) (by first | assumption | exact wid_lt (by assumption)) | exact W32.zeros _ | exact W32.nil) (by assumption) w61 (((((r3.ext m47).ext m48).ext m58).ext m59).ext m60).rng (((((r4.ext m47).ext m48).ext m58).ext m59).ext m60).rng), ?_⟩
            rintro _ w62 ⟨rfl, m61⟩
            refine ⟨(((((((((Mod.refl [] w5).nt m5).nt m6).nt m47).nt m48).nt m58).nt m59).nt m60).nt m61), ?_⟩
            refine DR.det (i := 5) rfl rfl (by kernel_rfl) (.free rfl) rfl rfl (fun wD mD => op_move rfl) ?_
            refine DR.det (i := 6) rfl rfl (by kernel_rfl) (.free rfl) rfl rfl (fun wD mD => op_extract rfl rfl) ?_
            refine DR.det (i := 7) rfl rfl (by kernel_rfl) (.free rfl) rfl rfl (fun wD mD => op_extract rfl rfl) ?_
            refine DR.det (i := 8) rfl rfl (by kernel_rfl) (.free rfl) rfl rfl (fun wD mD => op_extract rfl rfl) ?_
            refine DR.st1 (i := 11) rfl rfl (by kernel_rfl) (.free rfl) rfl ?_
            intro w63 m62
            refine Op1.mono (op_store (i := 0) (cs := [.slice none 0 0, vI 0, .slice none 0 0, vI 0, vI 0, vF 0, vF 0, vF 0, vF 0, vF 0, vI 0, vF 0, vF 0, vF 0, vF 0, vF 0, vF 0, vF 0]) rfl rfl rfl Try.sizeOf61 rfl (((r34.ext m60).ext m61).ext m62) rfl (lB rfl) rfl) ?_
            rintro _ w64 ⟨r35, m63, z23⟩
            have r36 : Row w64 w59.heap.size 0 [.slice none 0 0, vI 0, .slice none 0 0, vI 0, vI 0, vF 0, vF 0, vF 0, vF 0, vF 0, vI 0, vF 0, vF 0, vF 0, vF 0, vF 0, vF 0, vF 0] := Row.congr r35 rfl
            refine ⟨(((((((((((Mod.refl [] w5).nt m5).nt m6).nt m47).nt m48).nt m58).nt m59).nt m60).nt m61).nt m62).then m63 ((aC (.inr (lT (lT (lT (lT (lT m5.size m6.size) m47.size) m48.size) m58.size) lR)) aN))), ?_⟩
            refine DR.st1 (i := 12) rfl rfl (by kernel_rfl) (.free rfl) rfl ?_
            intro w65 m64
            refine Op1.mono (op_store (i := 0) (cs := fl (List.replicate 16 0)) rfl rfl rfl Try.sizeOf82 (fl_len List.length_replicate) (((((((r28.ext m58).ext m59).ext m60).ext m61).ext m62).mod m63 (nC (lE (lL (lL r28.lt m58.size) lR)) nN)).ext m64) rfl (by rw [fl_length, List.length_replicate]; decide) (fl_one _)) ?_
            rintro _ w66 ⟨r37, m65, z24⟩
            have r38 : Row w66 w48.heap.size 0 (fl (List.replicate 16 0)) := Row.congr r37 (splice_all ((fl_len (List.length_replicate)).trans (fl_len (List.length_replicate)).symm))
            refine ⟨(((((((((((((Mod.refl [] w5).nt m5).nt m6).nt m47).nt m48).nt m58).nt m59).nt m60).nt m61).nt m62).then m63 ((aC (.inr (lT (lT (lT (lT (lT m5.size m6.size) m47.size) m48.size) m58.size) lR)) aN))).nt m64).then m65 ((aC (.inr (lT (lT (lT m5.size m6.size) m47.size) lR)) aN))), ?_⟩
            refine DR.sub [(2, vP w.heap.size 0), (3, vP w1.heap.size 0), (4, .bool false), (6, vP w59.heap.size 0), (7, vP w48.heap.size 0), (32, vI 1)] ⟨rfl, rfl, rfl, rfl, rfl, rfl, trivial⟩ ?_
            refine DR.meet rfl ?_
            intro w67 m66
            exact ⟨bTr'1, bBr'1, w59.heap.size, w48.heap.size, rfl, (((((((((((r3.ext m47).ext m48).ext m58).ext m59).ext m60).ext m61).ext m62).mod m63 (nC (lE (lL (lL r3.lt (lT (lT m47.size m48.size) m58.size)) lR)) nN)).ext m64).mod m65 (nC (lE (lL (lL r3.lt m47.size) lR)) nN)).ext m66), (((((((((((r4.ext m47).ext m48).ext m58).ext m59).ext m60).ext m61).ext m62).mod m63 (nC (lE (lL (lL r4.lt (lT (lT m47.size m48.size) m58.size)) lR)) nN)).ext m64).mod m65 (nC (lE (lL (lL r4.lt m47.size) lR)) nN)).ext m66), (((r36.ext m64).mod m65 (nC (lG (lL (lL r28.lt m58.size) lR)) nN)).ext m66), (r38.ext m66), (lT (lT md1.size m5.size) ge1), (lT (lT md1.size m5.size) ge2), (lT (lT (lT (lT (lT (lT md1.size m5.size) m6.size) m47.size) m48.size) m58.size) lR), (lT (lT (lT (lT md1.size m5.size) m6.size) m47.size) lR), ne1, (lE (lL (lL r3.lt (lT (lT m47.size m48.size) m58.size)) lR)), (lE (lL (lL r3.lt m47.size) lR)), (lE (lL (lL r4.lt (lT (lT m47.size m48.size) m58.size)) lR)), (lE (lL (lL r4.lt m47.size) lR)), (lG (lL (lL r28.lt m58.size) lR)), (((((((((((((((Mod.refl [] w4).nt md1).nt m5).nt m6).nt m47).nt m48).nt m58).nt m59).nt m60).nt m61).nt m62).then m63 ((aC (.inr (lT (lT (lT (lT (lT (lT md1.size m5.size) m6.size) m47.size) m48.size) m58.size) lR)) aN))).nt m64).then m65 ((aC (.inr (lT (lT (lT (lT md1.size m5.size) m6.size) m47.size) lR)) aN))).nt m66)⟩
      · refine DP.op (i := 9) rfl rfl (.free rfl) rfl (ltb rfl) ?_
        intro w68 m67
        refine Op1.mono (op_alloc (cs := [.slice none 0 0, vI 0, .slice none 0 0, vI 0, vI 0, vF 0, vF 0, vF 0, vF 0, vF 0, vI 0, vF 0, vF 0, vF 0, vF 0, vF 0, vF 0, vF 0]) Try.zeroValue61 rfl) ?_
        rintro _ w69 ⟨rfl, r39, m68, z25⟩
        refine ⟨(((Mod.refl [] w5).nt m67).nt m68), ?_⟩
        refine DR.fork (is := [1, 10]) (by kernel_rfl) (by decide) (all2 ?_ ?_)
        · refine DP.call (i := 1) rfl rfl (.free rfl) rfl (ltb rfl) (vs := [.func (.func 32) #[] #[], .agg #[.slice ATr nTr cTr, vI Tj, .slice ABr nBr cBr, vI Bj, vI Lk, vF Lc0, vF Lc1, vF Lc2, vF Ls0, vF Ls1, vI Dk, vF Dc0, vF Dc1, vF Dc2, vF Ds0, vF Ds1, vF ne, vF fa]]) rfl ?_
          intro w70 m69
          refine ⟨oc_call (vs := [.agg #[.slice ATr nTr cTr, vI Tj, .slice ABr nBr cBr, vI Bj, vI Lk, vF Lc0, vF Lc1, vF Lc2, vF Ls0, vF Ls1, vI Dk, vF Dc0, vF Dc1, vF Dc2, vF Ds0, vF Ds1, vF ne, vF fa]]) (cap := []) rfl rfl rfl Try.call32 (c_toJet nTr cTr ATr bTr oTr xTr Tj nBr cBr ABr bBr oBr xBr Bj Lk Lc0 Lc1 Lc2 Ls0 Ls1 Dk Dc0 Dc1 Dc2 Ds0 Ds1 ne fa lnTr hATr lnBr hABr (by omega) (by omega) w70 (((((((rTr.ext m1).ext m2).ext m4).ext md1).ext m67).ext m68).ext m69) (((((((rBr.ext m1).ext m2).ext m4).ext md1).ext m67).ext m68).ext m69)), ?_⟩
          rintro _ w71 ⟨bTr'2, bBr'2, rfl, r40, r41, ge3, ge4, ne2, m70⟩
          refine ⟨(((((Mod.refl [] w5).nt m67).nt m68).nt m69).nt m70), ?_⟩
          refine DR.call (i := 3) (fun uA => uA = .agg (fl bs).toArray) rfl rfl (by kernel_rfl) (.free rfl) rfl (ltb rfl) ⟨_, rfl⟩ (vs := [.func (.func 49) #[] #[], .agg (fl bs).toArray]) rfl (fun wD mD => oc_call (vs := [.agg (fl bs).toArray]) (cap := []) rfl rfl rfl Try.call49 (c_toBlock bs lb wD)) ?_ ?_
          · rintro w1 _ w2 m1 ⟨rfl, m2⟩; exact ⟨rfl, m2⟩
          rintro _ rfl
          refine DR.fork (is := [4, 10]) (by kernel_rfl) (by decide) (all2 ?_ ?_)
          · refine DP.call (i := 4) rfl rfl (.free rfl) rfl (ltb rfl) (vs := [.func (.func 48) #[] #[], .agg #[vS bTr'2 0 nTr nTr, vI Tj, vS bBr'2 0 nBr nBr, vI Bj, vI Lk, vF Lc0, vF Lc1, vF Lc2, vF Ls0, vF Ls1, vI Dk, vF Dc0, vF Dc1, vF Dc2, vF Ds0, vF Ds1, vF ne, vF fa], .agg (fl bs).toArray]) rfl ?_
            intro w72 m71
            refine ⟨oc_call (vs := [.agg #[vS bTr'2 0 nTr nTr, vI Tj, vS bBr'2 0 nBr nBr, vI Bj, vI Lk, vF Lc0, vF Lc1, vF Lc2, vF Ls0, vF Ls1, vI Dk, vF Dc0, vF Dc1, vF Dc2, vF Ds0, vF Ds1, vF ne, vF fa], .agg (fl bs).toArray]) (cap := []) rfl rfl rfl Try.call48 (c_sBlockJet_bad nTr nTr bTr'2 xTr nBr nBr bBr'2 xBr Tj Bj Lk Lc0 Lc1 Lc2 Ls0 Ls1 Dk Dc0 Dc1 Dc2 Ds0 Ds1 ne fa bs lnTr lnBr (by omega) (by omega) (by first | assumption | exact W32.get (by assumption) _ | decide +kernel) (by first | assumption | exact W32.get (by assumption) _ | decide +kernel) (by first | assumption | exact W32.get (by assumption) _ | decide +kernel) (by first | assumption | exact W32.get (by assumption) _ | decide +kernel) lb (by first | assumption | exact W32.set (by assumption) (by first | assumption | exact wid_lt (by assumption)) | exact W32.zeros _ | exact W32.nil) (by assumption) w72 (r40.ext m71).rng (r41.ext m71).rng), ?_⟩
            rintro _ w73 ⟨rfl, m72⟩
            refine ⟨(((((((Mod.refl [] w5).nt m67).nt m68).nt m69).nt m70).nt m71).nt m72), ?_⟩
            refine DR.det (i := 5) rfl rfl (by kernel_rfl) (.free rfl) rfl rfl (fun wD mD => op_move rfl) ?_
            refine DR.det (i := 6) rfl rfl (by kernel_rfl) (.free rfl) rfl rfl (fun wD mD => op_extract rfl rfl) ?_
            refine DR.det (i := 7) rfl rfl (by kernel_rfl) (.free rfl) rfl rfl (fun wD mD => op_extract rfl rfl) ?_
            refine DR.det (i := 8) rfl rfl (by kernel_rfl) (.free rfl) rfl rfl (fun wD mD => op_extract rfl rfl) ?_
            refine DR.one1 (i := 10) rfl rfl (by kernel_rfl) (.free rfl) rfl (ltb rfl) ?_
            intro w74 m73
            refine Op1.mono (op_alloc (cs := fl (List.replicate 16 0)) Try.zeroValue82 rfl) ?_
            rintro _ w75 ⟨rfl, r42, m74, z26⟩
            refine ⟨(((((((((Mod.refl [] w5).nt m67).nt m68).nt m69).nt m70).nt m71).nt m72).nt m73).nt m74), ?_⟩
            refine DR.st1 (i := 11) rfl rfl (by kernel_rfl) (.free rfl) rfl ?_
            intro w76 m75
            refine Op1.mono (op_store (i := 0) (cs := [.slice none 0 0, vI 0, .slice none 0 0, vI 0, vI 0, vF 0, vF 0, vF 0, vF 0, vF 0, vI 0, vF 0, vF 0, vF 0, vF 0, vF 0, vF 0, vF 0]) rfl rfl rfl Try.sizeOf61 rfl (((((((r39.ext m69).ext m70).ext m71).ext m72).ext m73).ext m74).ext m75) rfl (lB rfl) rfl) ?_
            rintro _ w77 ⟨r43, m76, z27⟩
            have r44 : Row w77 w68.heap.size 0 [.slice none 0 0, vI 0, .slice none 0 0, vI 0, vI 0, vF 0, vF 0, vF 0, vF 0, vF 0, vI 0, vF 0, vF 0, vF 0, vF 0, vF 0, vF 0, vF 0] := Row.congr r43 rfl
            refine ⟨(((((((((((Mod.refl [] w5).nt m67).nt m68).nt m69).nt m70).nt m71).nt m72).nt m73).nt m74).nt m75).then m76 ((aC (.inr (lT m67.size lR)) aN))), ?_⟩
            refine DR.st1 (i := 12) rfl rfl (by kernel_rfl) (.free rfl) rfl ?_
            intro w78 m77
            refine Op1.mono (op_store (i := 0) (cs := fl (List.replicate 16 0)) rfl rfl rfl Try.sizeOf82 (fl_len List.length_replicate) (((r42.ext m75).mod m76 (nC (lG (lL (lL r39.lt (lT (lT (lT (lT m69.size m70.size) m71.size) m72.size) m73.size)) lR)) nN)).ext m77) rfl (by rw [fl_length, List.length_replicate]; decide) (fl_one _)) ?_
            rintro _ w79 ⟨r45, m78, z28⟩
            have r46 : Row w79 w74.heap.size 0 (fl (List.replicate 16 0)) := Row.congr r45 (splice_all ((fl_len (List.length_replicate)).trans (fl_len (List.length_replicate)).symm))
            refine ⟨(((((((((((((Mod.refl [] w5).nt m67).nt m68).nt m69).nt m70).nt m71).nt m72).nt m73).nt m74).nt m75).then m76 ((aC (.inr (lT m67.size lR)) aN))).nt m77).then m78 ((aC (.inr (lT (lT (lT (lT (lT (lT (lT m67.size m68.size) m69.size) m70.size) m71.size) m72.size) m73.size) lR)) aN))), ?_⟩
            refine DR.sub [(2, vP w.heap.size 0), (3, vP w1.heap.size 0), (4, .bool false), (6, vP w68.heap.size 0), (7, vP w74.heap.size 0), (32, vI 1)] ⟨rfl, rfl, rfl, rfl, rfl, rfl, trivial⟩ ?_
            refine DR.meet rfl ?_
            intro w80 m79
            exact ⟨bTr'2, bBr'2, w68.heap.size, w74.heap.size, rfl, (((((((((r40.ext m71).ext m72).ext m73).ext m74).ext m75).mod m76 (nC (lG (lL (lL r39.lt m69.size) ge3)) nN)).ext m77).mod m78 (nC (lE (lL (lL r40.lt (lT (lT m71.size m72.size) m73.size)) lR)) nN)).ext m79), (((((((((r41.ext m71).ext m72).ext m73).ext m74).ext m75).mod m76 (nC (lG (lL (lL r39.lt m69.size) ge4)) nN)).ext m77).mod m78 (nC (lE (lL (lL r41.lt (lT (lT m71.size m72.size) m73.size)) lR)) nN)).ext m79), (((r44.ext m77).mod m78 (nC (lE (lL (lL r39.lt (lT (lT (lT (lT m69.size m70.size) m71.size) m72.size) m73.size)) lR)) nN)).ext m79), (r46.ext m79), (lT (lT (lT (lT md1.size m67.size) m68.size) m69.size) ge3), (lT (lT (lT (lT md1.size m67.size) m68.size) m69.size) ge4), (lT (lT md1.size m67.size) lR), (lT (lT (lT (lT (lT (lT (lT (lT md1.size m67.size) m68.size) m69.size) m70.size) m71.size) m72.size) m73.size) lR), ne2, (lG (lL (lL r39.lt m69.size) ge3)), (lE (lL (lL r40.lt (lT (lT m71.size m72.size) m73.size)) lR)), (lG (lL (lL r39.lt m69.size) ge4)), (lE (lL (lL r41.lt (lT (lT m71.size m72.size) m73.size)) lR)), (lE (lL (lL r39.lt (lT (lT (lT (lT m69.size m70.size) m71.size) m72.size) m73.size)) lR)), (((((((((((((((Mod.refl [] w4).nt md1).nt m67).nt m68).nt m69).nt m70).nt m71).nt m72).nt m73).nt m74).nt m75).then m76 ((aC (.inr (lT (lT md1.size m67.size) lR)) aN))).nt m77).then m78 ((aC (.inr (lT (lT (lT (lT (lT (lT (lT (lT md1.size m67.size) m68.size) m69.size) m70.size) m71.size) m72.size) m73.size) lR)) aN))).nt m79)⟩
          · refine DP.op (i := 10) rfl rfl (.free rfl) rfl (ltb rfl) ?_
            intro w81 m80
            refine Op1.mono (op_alloc (cs := fl (List.replicate 16 0)) Try.zeroValue82 rfl) ?_
            rintro _ w82 ⟨rfl, r47, m81, z29⟩
            refine ⟨(((((((Mod.refl [] w5).nt m67).nt m68).nt m69).nt m70).nt m80).nt m81), ?_⟩
            refine DR.one (i := 4) rfl rfl (by kernel_rfl) (.free rfl) rfl (ltb rfl) (vs := [.func (.func 48) #[] #[], .agg #[vS bTr'2 0 nTr nTr, vI Tj, vS bBr'2 0 nBr nBr, vI Bj, vI Lk, vF Lc0, vF Lc1, vF Lc2, vF Ls0, vF Ls1, vI Dk, vF Dc0, vF Dc1, vF Dc2, vF Ds0, vF Ds1, vF ne, vF fa], .agg (fl bs).toArray]) rfl ?_
            intro w83 m82
            refine ⟨oc_call (vs := [.agg #[vS bTr'2 0 nTr nTr, vI Tj, vS bBr'2 0 nBr nBr, vI Bj, vI Lk, vF Lc0, vF Lc1, vF Lc2, vF Ls0, vF Ls1, vI Dk, vF Dc0, vF Dc1, vF Dc2, vF Ds0, vF Ds1, vF ne, vF fa], .agg (fl bs).toArray]) (cap := []) rfl rfl rfl Try.call48 (c_sBlockJet_bad nTr nTr bTr'2 xTr nBr nBr bBr'2 xBr Tj Bj Lk Lc0 Lc1 Lc2 Ls0 Ls1 Dk Dc0 Dc1 Dc2 Ds0 Ds1 ne fa bs lnTr lnBr (by omega) (by omega) (by first | assumption | exact W32.get (by assumption) _ | decide +kernel) (by first | assumption | exact W32.get (by assumption) _ | decide +kernel) (by first | assumption | exact W32.get (by assumption) _ | decide +kernel) (by first | assumption | exact W32.get (by assumption) _ | decide +kernel) lb (by first | assumption | exact W32.set (by assumption) (by first | assumption | exact wid_lt (by assumption)) | exact W32.zeros _ | exact W32.nil) (by assumption) w83 (((r40.ext m80).ext m81).ext m82).rng (((r41.ext m80).ext m81).ext m82).rng), ?_⟩
            rintro _ w84 ⟨rfl, m83⟩
            refine ⟨(((((((((Mod.refl [] w5).nt m67).nt m68).nt m69).nt m70).nt m80).nt m81).nt m82).nt m83), ?_⟩
            refine DR.det (i := 5) rfl rfl (by kernel_rfl) (.free rfl) rfl rfl (fun wD mD => op_move rfl) ?_
            refine DR.det (i := 6) rfl rfl (by kernel_rfl) (.free rfl) rfl rfl (fun wD mD => op_extract rfl rfl) ?_
            refine DR.det (i := 7) rfl rfl (by kernel_rfl) (.free rfl) rfl rfl (fun wD mD => op_extract rfl rfl) ?_
            refine DR.det (i := 8) rfl rfl (by kernel_rfl) (.free rfl) rfl rfl (fun wD mD => op_extract rfl rfl) ?_
            refine DR.st1 (i := 11) rfl rfl (by kernel_rfl) (.free rfl) rfl ?_
            intro w85 m84
            refine Op1.mono (op_store (i := 0) (cs := [.slice none 0 0, vI 0, .slice none 0 0, vI 0, vI 0, vF 0, vF 0, vF 0, vF 0, vF 0, vI 0, vF 0, vF 0, vF 0, vF 0, vF 0, vF 0, vF 0]) rfl rfl rfl Try.sizeOf61 rfl (((((((r39.ext m69).ext m70).ext m80).ext m81).ext m82).ext m83).ext m84) rfl (lB rfl) rfl) ?_
            rintro _ w86 ⟨r48, m85, z30⟩
            have r49 : Row w86 w68.heap.size 0 [.slice none 0 0, vI 0, .slice none 0 0, vI 0, vI 0, vF 0, vF 0, vF 0, vF 0, vF 0, vI 0, vF 0, vF 0, vF 0, vF 0, vF 0, vF 0, vF 0] := Row.congr r48 rfl
            refine ⟨(((((((((((Mod.refl [] w5).nt m67).nt m68).nt m69).nt m70).nt m80).nt m81).nt m82).nt m83).nt m84).then m85 ((aC (.inr (lT m67.size lR)) aN))), ?_⟩
            refine DR.st1 (i := 12) rfl rfl (by kernel_rfl) (.free rfl) rfl ?_
            intro w87 m86
            refine Op1.mono (op_store (i := 0) (cs := fl (List.replicate 16 0)) rfl rfl rfl Try.sizeOf82 (fl_len List.length_replicate) (((((r47.ext m82).ext m83).ext m84).mod m85 (nC (lG (lL (lL r39.lt (lT (lT m69.size m70.size) m80.size)) lR)) nN)).ext m86) rfl (by rw [fl_length, List.length_replicate]; decide) (fl_one _)) ?_
            rintro _ w88 ⟨r50, m87, z31⟩
            have r51 : Row w88 w81.heap.size 0 (fl (List.replicate 16 0)) := Row.congr r50 (splice_all ((fl_len (List.length_replicate)).trans (fl_len (List.length_replicate)).symm))
            refine ⟨(((((((((((((Mod.refl [] w5).nt m67).nt m68).nt m69).nt m70).nt m80).nt m81).nt m82).nt m83).nt m84).then m85 ((aC (.inr (lT m67.size lR)) aN))).nt m86).then m87 ((aC (.inr (lT (lT (lT (lT (lT m67.size m68.size) m69.size) m70.size) m80.size) lR)) aN))), ?_⟩
            refine DR.sub [(2, vP w.heap.size 0), (3, vP w1.heap.size 0), (4, .bool false), (6, vP w68.heap.size 0), (7, vP w81.heap.size 0), (32, vI 1)] ⟨rfl, rfl, rfl, rfl, rfl, rfl, trivial⟩ ?_
            refine DR.meet rfl ?_
            intro w89 m88
            exact ⟨bTr'2, bBr'2, w68.heap.size, w81.heap.size, rfl, (((((((((r40.ext m80).ext m81).ext m82).ext m83).ext m84).mod m85 (nC (lG (lL (lL r39.lt m69.size) ge3)) nN)).ext m86).mod m87 (nC (lE (lL (lL r40.lt m80.size) lR)) nN)).ext m88), (((((((((r41.ext m80).ext m81).ext m82).ext m83).ext m84).mod m85 (nC (lG (lL (lL r39.lt m69.size) ge4)) nN)).ext m86).mod m87 (nC (lE (lL (lL r41.lt m80.size) lR)) nN)).ext m88), (((r49.ext m86).mod m87 (nC (lE (lL (lL r39.lt (lT (lT m69.size m70.size) m80.size)) lR)) nN)).ext m88), (r51.ext m88), (lT (lT (lT (lT md1.size m67.size) m68.size) m69.size) ge3), (lT (lT (lT (lT md1.size m67.size) m68.size) m69.size) ge4), (lT (lT md1.size m67.size) lR), (lT (lT (lT (lT (lT (lT md1.size m67.size) m68.size) m69.size) m70.size) m80.size) lR), ne2, (lG (lL (lL r39.lt m69.size) ge3)), (lE (lL (lL r40.lt m80.size) lR)), (lG (lL (lL r39.lt m69.size) ge4)), (lE (lL (lL r41.lt m80.size) lR)), (lE (lL (lL r39.lt (lT (lT m69.size m70.size) m80.size)) lR)), (((((((((((((((Mod.refl [] w4).nt md1).nt m67).nt m68).nt m69).nt m70).nt m80).nt m81).nt m82).nt m83).nt m84).then m85 ((aC (.inr (lT (lT md1.size m67.size) lR)) aN))).nt m86).then m87 ((aC (.inr (lT (lT (lT (lT (lT (lT md1.size m67.size) m68.size) m69.size) m70.size) m80.size) lR)) aN))).nt m88)⟩
        · refine DP.op (i := 10) rfl rfl (.free rfl) rfl (ltb rfl) ?_
          intro w90 m89
          refine Op1.mono (op_alloc (cs := fl (List.replicate 16 0)) Try.zeroValue82 rfl) ?_
          rintro _ w91 ⟨rfl, r52, m90, z32⟩
          refine ⟨(((((Mod.refl [] w5).nt m67).nt m68).nt m89).nt m90), ?_⟩
          refine DR.one (i := 1) rfl rfl (by kernel_rfl) (.free rfl) rfl (ltb rfl) (vs := [.func (.func 32) #[] #[], .agg #[.slice ATr nTr cTr, vI Tj, .slice ABr nBr cBr, vI Bj, vI Lk, vF Lc0, vF Lc1, vF Lc2, vF Ls0, vF Ls1, vI Dk, vF Dc0, vF Dc1, vF Dc2, vF Ds0, vF Ds1, vF ne, vF fa]]) rfl ?_
          intro w92 m91
          refine ⟨oc_call (vs := [.agg #[.slice ATr nTr cTr, vI Tj, .slice ABr nBr cBr, vI Bj, vI Lk, vF Lc0, vF Lc1, vF Lc2, vF Ls0, vF Ls1, vI Dk, vF Dc0, vF Dc1, vF Dc2, vF Ds0, vF Ds1, vF ne, vF fa]]) (cap := []) rfl rfl rfl Try.call32 (c_toJet nTr cTr ATr bTr oTr xTr Tj nBr cBr ABr bBr oBr xBr Bj Lk Lc0 Lc1 Lc2 Ls0 Ls1 Dk Dc0 Dc1 Dc2 Ds0 Ds1 ne fa lnTr hATr lnBr hABr (by omega) (by omega) w92 (((((((((rTr.ext m1).ext m2).ext m4).ext md1).ext m67).ext m68).ext m89).ext m90).ext m91) (((((((((rBr.ext m1).ext m2).ext m4).ext md1).ext m67).ext m68).ext m89).ext m90).ext m91)), ?_⟩
          rintro _ w93 ⟨bTr'3, bBr'3, rfl, r53, r54, ge5, ge6, ne3, m92⟩
          refine ⟨(((((((Mod.refl [] w5).nt m67).nt m68).nt m89).nt m90).nt m91).nt m92), ?_⟩
          refine DR.call (i := 3) (fun uA => uA = .agg (fl bs).toArray) rfl rfl (by kernel_rfl) (.free rfl) rfl (ltb rfl) ⟨_, rfl⟩ (vs := [.func (.func 49) #[] #[], .agg (fl bs).toArray]) rfl (fun wD mD => oc_call (vs := [.agg (fl bs).toArray]) (cap := []) rfl rfl rfl Try.call49 (c_toBlock bs lb wD)) ?_ ?_
          · rintro w1 _ w2 m1 ⟨rfl, m2⟩; exact ⟨rfl, m2⟩
          rintro _ rfl
          refine DR.one (i := 4) rfl rfl (by kernel_rfl) (.free rfl) rfl (ltb rfl) (vs := [.func (.func 48) #[] #[], .agg #[vS bTr'3 0 nTr nTr, vI Tj, vS bBr'3 0 nBr nBr, vI Bj, vI Lk, vF Lc0, vF Lc1, vF Lc2, vF Ls0, vF Ls1, vI Dk, vF Dc0, vF Dc1, vF Dc2, vF Ds0, vF Ds1, vF ne, vF fa], .agg (fl bs).toArray]) rfl ?_
          intro w94 m93
          refine ⟨oc_call (vs := [.agg #[vS bTr'3 0 nTr nTr, vI Tj, vS bBr'3 0 nBr nBr, vI Bj, vI Lk, vF Lc0, vF Lc1, vF Lc2, vF Ls0, vF Ls1, vI Dk, vF Dc0, vF Dc1, vF Dc2, vF Ds0, vF Ds1, vF ne, vF fa], .agg (fl bs).toArray]) (cap := []) rfl rfl rfl Try.call48 (c_sBlockJet_bad nTr nTr bTr'3 xTr nBr nBr bBr'3 xBr Tj Bj Lk Lc0 Lc1 Lc2 Ls0 Ls1 Dk Dc0 Dc1 Dc2 Ds0 Ds1 ne fa bs lnTr lnBr (by omega) (by omega) (by first | assumption | exact W32.get (by assumption) _ | decide +kernel) (by first | assumption | exact W32.get (by assumption) _ | decide +kernel) (by first | assumption | exact W32.get (by assumption) _ | decide +kernel) (by first | assumption | exact W32.get (by assumption) _ | decide +kernel) lb (by first | assumption | exact W32.set (by assumption) (by first | assumption | exact wid_lt (by assumption)) | exact W32.zeros _ | exact W32.nil) (by assumption) w94 (r53.ext m93).rng (r54.ext m93).rng), ?_⟩
          rintro _ w95 ⟨rfl, m94⟩
          refine ⟨(((((((((Mod.refl [] w5).nt m67).nt m68).nt m89).nt m90).nt m91).nt m92).nt m93).nt m94), ?_⟩
          refine DR.det (i := 5) rfl rfl (by kernel_rfl) (.free rfl) rfl rfl (fun wD mD => op_move rfl) ?_
          refine DR.det (i := 6) rfl rfl (by kernel_rfl) (.free rfl) rfl rfl (fun wD mD => op_extract rfl rfl) ?_
          refine DR.det (i := 7) rfl rfl (by kernel_rfl) (.free rfl) rfl rfl (fun wD mD => op_extract rfl rfl) ?_
          refine DR.det (i := 8) rfl rfl (by kernel_rfl) (.free rfl) rfl rfl (fun wD mD => op_extract rfl rfl) ?_
          refine DR.st1 (i := 11) rfl rfl (by kernel_rfl) (.free rfl) rfl ?_
          intro w96 m95
          refine Op1.mono (op_store (i := 0) (cs := [.slice none 0 0, vI 0, .slice none 0 0, vI 0, vI 0, vF 0, vF 0, vF 0, vF 0, vF 0, vI 0, vF 0, vF 0, vF 0, vF 0, vF 0, vF 0, vF 0]) rfl rfl rfl Try.sizeOf61 rfl (((((((r39.ext m89).ext m90).ext m91).ext m92).ext m93).ext m94).ext m95) rfl (lB rfl) rfl) ?_
          rintro _ w97 ⟨r55, m96, z33⟩
          have r56 : Row w97 w68.heap.size 0 [.slice none 0 0, vI 0, .slice none 0 0, vI 0, vI 0, vF 0, vF 0, vF 0, vF 0, vF 0, vI 0, vF 0, vF 0, vF 0, vF 0, vF 0, vF 0, vF 0] := Row.congr r55 rfl
          refine ⟨(((((((((((Mod.refl [] w5).nt m67).nt m68).nt m89).nt m90).nt m91).nt m92).nt m93).nt m94).nt m95).then m96 ((aC (.inr (lT m67.size lR)) aN))), ?_⟩
          refine DR.st1 (i := 12) rfl rfl (by kernel_rfl) (.free rfl) rfl ?_
          intro w98 m97
          refine Op1.mono (op_store (i := 0) (cs := fl (List.replicate 16 0)) rfl rfl rfl Try.sizeOf82 (fl_len List.length_replicate) (((((((r52.ext m91).ext m92).ext m93).ext m94).ext m95).mod m96 (nC (lG (lL (lL r39.lt m89.size) lR)) nN)).ext m97) rfl (by rw [fl_length, List.length_replicate]; decide) (fl_one _)) ?_
          rintro _ w99 ⟨r57, m98, z34⟩
          have r58 : Row w99 w90.heap.size 0 (fl (List.replicate 16 0)) := Row.congr r57 (splice_all ((fl_len (List.length_replicate)).trans (fl_len (List.length_replicate)).symm))
          refine ⟨(((((((((((((Mod.refl [] w5).nt m67).nt m68).nt m89).nt m90).nt m91).nt m92).nt m93).nt m94).nt m95).then m96 ((aC (.inr (lT m67.size lR)) aN))).nt m97).then m98 ((aC (.inr (lT (lT (lT m67.size m68.size) m89.size) lR)) aN))), ?_⟩
          refine DR.sub [(2, vP w.heap.size 0), (3, vP w1.heap.size 0), (4, .bool false), (6, vP w68.heap.size 0), (7, vP w90.heap.size 0), (32, vI 1)] ⟨rfl, rfl, rfl, rfl, rfl, rfl, trivial⟩ ?_
          refine DR.meet rfl ?_
          intro w100 m99
          exact ⟨bTr'3, bBr'3, w68.heap.size, w90.heap.size, rfl, (((((((r53.ext m93).ext m94).ext m95).mod m96 (nC (lG (lL (lL r39.lt (lT (lT m89.size m90.size) m91.size)) ge5)) nN)).ext m97).mod m98 (nC (lG (lL (lL r52.lt m91.size) ge5)) nN)).ext m99), (((((((r54.ext m93).ext m94).ext m95).mod m96 (nC (lG (lL (lL r39.lt (lT (lT m89.size m90.size) m91.size)) ge6)) nN)).ext m97).mod m98 (nC (lG (lL (lL r52.lt m91.size) ge6)) nN)).ext m99), (((r56.ext m97).mod m98 (nC (lE (lL (lL r39.lt m89.size) lR)) nN)).ext m99), (r58.ext m99), (lT (lT (lT (lT (lT (lT md1.size m67.size) m68.size) m89.size) m90.size) m91.size) ge5), (lT (lT (lT (lT (lT (lT md1.size m67.size) m68.size) m89.size) m90.size) m91.size) ge6), (lT (lT md1.size m67.size) lR), (lT (lT (lT (lT md1.size m67.size) m68.size) m89.size) lR), ne3, (lG (lL (lL r39.lt (lT (lT m89.size m90.size) m91.size)) ge5)), (lG (lL (lL r52.lt m91.size) ge5)), (lG (lL (lL r39.lt (lT (lT m89.size m90.size) m91.size)) ge6)), (lG (lL (lL r52.lt m91.size) ge6)), (lE (lL (lL r39.lt m89.size) lR)), (((((((((((((((Mod.refl [] w4).nt md1).nt m67).nt m68).nt m89).nt m90).nt m91).nt m92).nt m93).nt m94).nt m95).then m96 ((aC (.inr (lT (lT md1.size m67.size) lR)) aN))).nt m97).then m98 ((aC (.inr (lT (lT (lT (lT md1.size m67.size) m68.size) m89.size) lR)) aN))).nt m99)⟩
      · refine DP.op (i := 10) rfl rfl (.free rfl) rfl (ltb rfl) ?_
        intro w101 m100
        refine Op1.mono (op_alloc (cs := fl (List.replicate 16 0)) Try.zeroValue82 rfl) ?_
        rintro _ w102 ⟨rfl, r59, m101, z35⟩
        refine ⟨(((Mod.refl [] w5).nt m100).nt m101), ?_⟩
        refine DR.fork (is := [1, 9]) (by kernel_rfl) (by decide) (all2 ?_ ?_)
        · refine DP.call (i := 1) rfl rfl (.free rfl) rfl (ltb rfl) (vs := [.func (.func 32) #[] #[], .agg #[.slice ATr nTr cTr, vI Tj, .slice ABr nBr cBr, vI Bj, vI Lk, vF Lc0, vF Lc1, vF Lc2, vF Ls0, vF Ls1, vI Dk, vF Dc0, vF Dc1, vF Dc2, vF Ds0, vF Ds1, vF ne, vF fa]]) rfl ?_
          intro w103 m102
          refine ⟨oc_call (vs := [.agg #[.slice ATr nTr cTr, vI Tj, .slice ABr nBr cBr, vI Bj, vI Lk, vF Lc0, vF Lc1, vF Lc2, vF Ls0, vF Ls1, vI Dk, vF Dc0, vF Dc1, vF Dc2, vF Ds0, vF Ds1, vF ne, vF fa]]) (cap := []) rfl rfl rfl Try.call32 (c_toJet nTr cTr ATr bTr oTr xTr Tj nBr cBr ABr bBr oBr xBr Bj Lk Lc0 Lc1 Lc2 Ls0 Ls1 Dk Dc0 Dc1 Dc2 Ds0 Ds1 ne fa lnTr hATr lnBr hABr (by omega) (by omega) w103 (((((((rTr.ext m1).ext m2).ext m4).ext md1).ext m100).ext m101).ext m102) (((((((rBr.ext m1).ext m2).ext m4).ext md1).ext m100).ext m101).ext m102)), ?_⟩
          rintro _ w104 ⟨bTr'4, bBr'4, rfl, r60, r61, ge7, ge8, ne4, m103⟩
          refine ⟨(((((Mod.refl [] w5).nt m100).nt m101).nt m102).nt m103), ?_⟩
          refine DR.call (i := 3) (fun uA => uA = .agg (fl bs).toArray) rfl rfl (by kernel_rfl) (.free rfl) rfl (ltb rfl) ⟨_, rfl⟩ (vs := [.func (.func 49) #[] #[], .agg (fl bs).toArray]) rfl (fun wD mD => oc_call (vs := [.agg (fl bs).toArray]) (cap := []) rfl rfl rfl Try.call49 (c_toBlock bs lb wD)) ?_ ?_
          · rintro w1 _ w2 m1 ⟨rfl, m2⟩; exact ⟨rfl, m2⟩
          rintro _ rfl
          refine DR.fork (is := [4, 9]) (by kernel_rfl) (by decide) (all2 ?_ ?_)
          · refine DP.call (i := 4) rfl rfl (.free rfl) rfl (ltb rfl) (vs := [.func (.func 48) #[] #[], .agg #[vS bTr'4 0 nTr nTr, vI Tj, vS bBr'4 0 nBr nBr, vI Bj, vI Lk, vF Lc0, vF Lc1, vF Lc2, vF Ls0, vF Ls1, vI Dk, vF Dc0, vF Dc1, vF Dc2, vF Ds0, vF Ds1, vF ne, vF fa], .agg (fl bs).toArray]) rfl ?_
            intro w105 m104
            refine ⟨oc_call (vs := [.agg #[vS bTr'4 0 nTr nTr, vI Tj, vS bBr'4 0 nBr nBr, vI Bj, vI Lk, vF Lc0, vF Lc1, vF Lc2, vF Ls0, vF Ls1, vI Dk, vF Dc0, vF Dc1, vF Dc2, vF Ds0, vF Ds1, vF ne, vF fa], .agg (fl bs).toArray]) (cap := []) rfl rfl rfl Try.call48 (c_sBlockJet_bad nTr nTr bTr'4 xTr nBr nBr bBr'4 xBr Tj Bj Lk Lc0 Lc1 Lc2 Ls0 Ls1 Dk Dc0 Dc1 Dc2 Ds0 Ds1 ne fa bs lnTr lnBr (by omega) (by omega) (by first | assumption | exact W32.get (by assumption) _ | decide +kernel) (by first | assumption | exact W32.get (by assumption) _ | decide +kernel) (by first | assumption | exact W32.get (by assumption) _ | decide +kernel) (by first | assumption | exact W32.get (by assumption) _ | decide +kernel) lb (by first | assumption | exact W32.set (by assumption) (by first | assumption | exact wid_lt (by assumption)) | exact W32.zeros _ | exact W32.nil) (by assumption) w105 (r60.ext m104).rng (r61.ext m104).rng), ?_⟩
            rintro _ w106 ⟨rfl, m105⟩
            refine ⟨(((((((Mod.refl [] w5).nt m100).nt m101).nt m102).nt m103).nt m104).nt m105), ?_⟩
            refine DR.det (i := 5) rfl rfl (by kernel_rfl) (.free rfl) rfl rfl (fun wD mD => op_move rfl) ?_
            refine DR.det (i := 6) rfl rfl (by kernel_rfl) (.free rfl) rfl rfl (fun wD mD => op_extract rfl rfl) ?_
            refine DR.det (i := 7) rfl rfl (by kernel_rfl) (.free rfl) rfl rfl (fun wD mD => op_extract rfl rfl) ?_
            refine DR.det (i := 8) rfl rfl (by kernel_rfl) (.free rfl) rfl rfl (fun wD mD => op_extract rfl rfl) ?_
            refine DR.one1 (i := 9) rfl rfl (by kernel_rfl) (.free rfl) rfl (ltb rfl) ?_
            intro w107 m106
            refine Op1.mono (op_alloc (cs := [.slice none 0 0, vI 0, .slice none 0 0, vI 0, vI 0, vF 0, vF 0, vF 0, vF 0, vF 0, vI 0, vF 0, vF 0, vF 0, vF 0, vF 0, vF 0, vF 0]) Try.zeroValue61 rfl) ?_
            rintro _ w108 ⟨rfl, r62, m107, z36⟩
            refine ⟨(((((((((Mod.refl [] w5).nt m100).nt m101).nt m102).nt m103).nt m104).nt m105).nt m106).nt m107), ?_⟩
            refine DR.st1 (i := 11) rfl rfl (by kernel_rfl) (.free rfl) rfl ?_
            intro w109 m108
            refine Op1.mono (op_store (i := 0) (cs := [.slice none 0 0, vI 0, .slice none 0 0, vI 0, vI 0, vF 0, vF 0, vF 0, vF 0, vF 0, vI 0, vF 0, vF 0, vF 0, vF 0, vF 0, vF 0, vF 0]) rfl rfl rfl Try.sizeOf61 rfl (r62.ext m108) rfl (lB rfl) rfl) ?_
            rintro _ w110 ⟨r63, m109, z37⟩
            have r64 : Row w110 w107.heap.size 0 [.slice none 0 0, vI 0, .slice none 0 0, vI 0, vI 0, vF 0, vF 0, vF 0, vF 0, vF 0, vI 0, vF 0, vF 0, vF 0, vF 0, vF 0, vF 0, vF 0] := Row.congr r63 rfl
            refine ⟨(((((((((((Mod.refl [] w5).nt m100).nt m101).nt m102).nt m103).nt m104).nt m105).nt m106).nt m107).nt m108).then m109 ((aC (.inr (lT (lT (lT (lT (lT (lT (lT m100.size m101.size) m102.size) m103.size) m104.size) m105.size) m106.size) lR)) aN))), ?_⟩
            refine DR.st1 (i := 12) rfl rfl (by kernel_rfl) (.free rfl) rfl ?_
            intro w111 m110
            refine Op1.mono (op_store (i := 0) (cs := fl (List.replicate 16 0)) rfl rfl rfl Try.sizeOf82 (fl_len List.length_replicate) (((((((((r59.ext m102).ext m103).ext m104).ext m105).ext m106).ext m107).ext m108).mod m109 (nC (lE (lL (lL r59.lt (lT (lT (lT (lT m102.size m103.size) m104.size) m105.size) m106.size)) lR)) nN)).ext m110) rfl (by rw [fl_length, List.length_replicate]; decide) (fl_one _)) ?_
            rintro _ w112 ⟨r65, m111, z38⟩
            have r66 : Row w112 w101.heap.size 0 (fl (List.replicate 16 0)) := Row.congr r65 (splice_all ((fl_len (List.length_replicate)).trans (fl_len (List.length_replicate)).symm))
            refine ⟨(((((((((((((Mod.refl [] w5).nt m100).nt m101).nt m102).nt m103).nt m104).nt m105).nt m106).nt m107).nt m108).then m109 ((aC (.inr (lT (lT (lT (lT (lT (lT (lT m100.size m101.size) m102.size) m103.size) m104.size) m105.size) m106.size) lR)) aN))).nt m110).then m111 ((aC (.inr (lT m100.size lR)) aN))), ?_⟩
            refine DR.sub [(2, vP w.heap.size 0), (3, vP w1.heap.size 0), (4, .bool false), (6, vP w107.heap.size 0), (7, vP w101.heap.size 0), (32, vI 1)] ⟨rfl, rfl, rfl, rfl, rfl, rfl, trivial⟩ ?_
            refine DR.meet rfl ?_
            intro w113 m112
            exact ⟨bTr'4, bBr'4, w107.heap.size, w101.heap.size, rfl, (((((((((r60.ext m104).ext m105).ext m106).ext m107).ext m108).mod m109 (nC (lE (lL (lL r60.lt (lT (lT m104.size m105.size) m106.size)) lR)) nN)).ext m110).mod m111 (nC (lG (lL (lL r59.lt m102.size) ge7)) nN)).ext m112), (((((((((r61.ext m104).ext m105).ext m106).ext m107).ext m108).mod m109 (nC (lE (lL (lL r61.lt (lT (lT m104.size m105.size) m106.size)) lR)) nN)).ext m110).mod m111 (nC (lG (lL (lL r59.lt m102.size) ge8)) nN)).ext m112), (((r64.ext m110).mod m111 (nC (lG (lL (lL r59.lt (lT (lT (lT (lT m102.size m103.size) m104.size) m105.size) m106.size)) lR)) nN)).ext m112), (r66.ext m112), (lT (lT (lT (lT md1.size m100.size) m101.size) m102.size) ge7), (lT (lT (lT (lT md1.size m100.size) m101.size) m102.size) ge8), (lT (lT (lT (lT (lT (lT (lT (lT md1.size m100.size) m101.size) m102.size) m103.size) m104.size) m105.size) m106.size) lR), (lT (lT md1.size m100.size) lR), ne4, (lE (lL (lL r60.lt (lT (lT m104.size m105.size) m106.size)) lR)), (lG (lL (lL r59.lt m102.size) ge7)), (lE (lL (lL r61.lt (lT (lT m104.size m105.size) m106.size)) lR)), (lG (lL (lL r59.lt m102.size) ge8)), (lG (lL (lL r59.lt (lT (lT (lT (lT m102.size m103.size) m104.size) m105.size) m106.size)) lR)), (((((((((((((((Mod.refl [] w4).nt md1).nt m100).nt m101).nt m102).nt m103).nt m104).nt m105).nt m106).nt m107).nt m108).then m109 ((aC (.inr (lT (lT (lT (lT (lT (lT (lT (lT md1.size m100.size) m101.size) m102.size) m103.size) m104.size) m105.size) m106.size) lR)) aN))).nt m110).then m111 ((aC (.inr (lT (lT md1.size m100.size) lR)) aN))).nt m112)⟩
          · refine DP.op (i := 9) rfl rfl (.free rfl) rfl (ltb rfl) ?_
            intro w114 m113
            refine Op1.mono (op_alloc (cs := [.slice none 0 0, vI 0, .slice none 0 0, vI 0, vI 0, vF 0, vF 0, vF 0, vF 0, vF 0, vI 0, vF 0, vF 0, vF 0, vF 0, vF 0, vF 0, vF 0]) Try.zeroValue61 rfl) ?_
            rintro _ w115 ⟨rfl, r67, m114, z39⟩
            refine ⟨(((((((Mod.refl [] w5).nt m100).nt m101).nt m102).nt m103).nt m113).nt m114), ?_⟩
            refine DR.one (i := 4) rfl rfl (by kernel_rfl) (.free rfl) rfl (ltb rfl) (vs := [.func (.func 48) #[] #[], .agg #[vS bTr'4 0 nTr nTr, vI Tj, vS bBr'4 0 nBr nBr, vI Bj, vI Lk, vF Lc0, vF Lc1, vF Lc2, vF Ls0, vF Ls1, vI Dk, vF Dc0, vF Dc1, vF Dc2, vF Ds0, vF Ds1, vF ne, vF fa], .agg (fl bs).toArray]) rfl ?_
            intro w116 m115
            refine ⟨oc_call (vs := [.agg #[vS bTr'4 0 nTr nTr, vI Tj, vS bBr'4 0 nBr nBr, vI Bj, vI Lk, vF Lc0, vF Lc1, vF Lc2, vF Ls0, vF Ls1, vI Dk, vF Dc0, vF Dc1, vF Dc2, vF Ds0, vF Ds1, vF ne, vF fa], .agg (fl bs).toArray]) (cap := []) rfl rfl rfl Try.call48 (c_sBlockJet_bad nTr nTr bTr'4 xTr nBr nBr bBr'4 xBr Tj Bj Lk Lc0 Lc1 Lc2 Ls0 Ls1 Dk Dc0 Dc1 Dc2 Ds0 Ds1 ne fa bs lnTr lnBr (by omega) (by omega) (by first | assumption | exact W32.get (by assumption) _ | decide +kernel) (by first | assumption | exact W32.get (by assumption) _ | decide +kernel) (by first | assumption | exact W32.get (by assumption) _ | decide +kernel) (by first | assumption | exact W32.get (by assumption) _ | decide +kernel) lb (by first | assumption | exact W32.set (by assumption) (by first | assumption | exact wid_lt (by assumption)) | exact W32.zeros _ | exact W32.nil) (by assumption) w116 (((r60.ext m113).ext m114).ext m115).rng (((r61.ext m113).ext m114).ext m115).rng), ?_⟩
            rintro _ w117 ⟨rfl, m116⟩
            refine ⟨(((((((((Mod.refl [] w5).nt m100).nt m101).nt m102).nt m103).nt m113).nt m114).nt m115).nt m116), ?_⟩
            refine DR.det (i := 5) rfl rfl (by kernel_rfl) (.free rfl) rfl rfl (fun wD mD => op_move rfl) ?_
            refine DR.det (i := 6) rfl rfl (by kernel_rfl) (.free rfl) rfl rfl (fun wD mD => op_extract rfl rfl) ?_
            refine DR.det (i := 7) rfl rfl (by kernel_rfl) (.free rfl) rfl rfl (fun wD mD => op_extract rfl rfl) ?_
            refine DR.det (i := 8) rfl rfl (by kernel_rfl) (.free rfl) rfl rfl (fun wD mD => op_extract rfl rfl) ?_
            refine DR.st1 (i := 11) rfl rfl (by kernel_rfl) (.free rfl) rfl ?_
            intro w118 m117
            refine Op1.mono (op_store (i := 0) (cs := [.slice none 0 0, vI 0, .slice none 0 0, vI 0, vI 0, vF 0, vF 0, vF 0, vF 0, vF 0, vI 0, vF 0, vF 0, vF 0, vF 0, vF 0, vF 0, vF 0]) rfl rfl rfl Try.sizeOf61 rfl (((r67.ext m115).ext m116).ext m117) rfl (lB rfl) rfl) ?_
            rintro _ w119 ⟨r68, m118, z40⟩
            have r69 : Row w119 w114.heap.size 0 [.slice none 0 0, vI 0, .slice none 0 0, vI 0, vI 0, vF 0, vF 0, vF 0, vF 0, vF 0, vI 0, vF 0, vF 0, vF 0, vF 0, vF 0, vF 0, vF 0] := Row.congr r68 rfl
            refine ⟨(((((((((((Mod.refl [] w5).nt m100).nt m101).nt m102).nt m103).nt m113).nt m114).nt m115).nt m116).nt m117).then m118 ((aC (.inr (lT (lT (lT (lT (lT m100.size m101.size) m102.size) m103.size) m113.size) lR)) aN))), ?_⟩
            refine DR.st1 (i := 12) rfl rfl (by kernel_rfl) (.free rfl) rfl ?_
            intro w120 m119
            refine Op1.mono (op_store (i := 0) (cs := fl (List.replicate 16 0)) rfl rfl rfl Try.sizeOf82 (fl_len List.length_replicate) (((((((((r59.ext m102).ext m103).ext m113).ext m114).ext m115).ext m116).ext m117).mod m118 (nC (lE (lL (lL r59.lt (lT (lT m102.size m103.size) m113.size)) lR)) nN)).ext m119) rfl (by rw [fl_length, List.length_replicate]; decide) (fl_one _)) ?_
            rintro _ w121 ⟨r70, m120, z41⟩
            have r71 : Row w121 w101.heap.size 0 (fl (List.replicate 16 0)) := Row.congr r70 (splice_all ((fl_len (List.length_replicate)).trans (fl_len (List.length_replicate)).symm))
            refine ⟨(((((((((((((Mod.refl [] w5).nt m100).nt m101).nt m102).nt m103).nt m113).nt m114).nt m115).nt m116).nt m117).then m118 ((aC (.inr (lT (lT (lT (lT (lT m100.size m101.size) m102.size) m103.size) m113.size) lR)) aN))).nt m119).then m120 ((aC (.inr (lT m100.size lR)) aN))), ?_⟩
            refine DR.sub [(2, vP w.heap.size 0), (3, vP w1.heap.size 0), (4, .bool false), (6, vP w114.heap.size 0), (7, vP w101.heap.size 0), (32, vI 1)] ⟨rfl, rfl, rfl, rfl, rfl, rfl, trivial⟩ ?_
            refine DR.meet rfl ?_
            intro w122 m121
            exact ⟨bTr'4, bBr'4, w114.heap.size, w101.heap.size, rfl, (((((((((r60.ext m113).ext m114).ext m115).ext m116).ext m117).mod m118 (nC (lE (lL (lL r60.lt m113.size) lR)) nN)).ext m119).mod m120 (nC (lG (lL (lL r59.lt m102.size) ge7)) nN)).ext m121), (((((((((r61.ext m113).ext m114).ext m115).ext m116).ext m117).mod m118 (nC (lE (lL (lL r61.lt m113.size) lR)) nN)).ext m119).mod m120 (nC (lG (lL (lL r59.lt m102.size) ge8)) nN)).ext m121), (((r69.ext m119).mod m120 (nC (lG (lL (lL r59.lt (lT (lT m102.size m103.size) m113.size)) lR)) nN)).ext m121), (r71.ext m121), (lT (lT (lT (lT md1.size m100.size) m101.size) m102.size) ge7), (lT (lT (lT (lT md1.size m100.size) m101.size) m102.size) ge8), (lT (lT (lT (lT (lT (lT md1.size m100.size) m101.size) m102.size) m103.size) m113.size) lR), (lT (lT md1.size m100.size) lR), ne4, (lE (lL (lL r60.lt m113.size) lR)), (lG (lL (lL r59.lt m102.size) ge7)), (lE (lL (lL r61.lt m113.size) lR)), (lG (lL (lL r59.lt m102.size) ge8)), (lG (lL (lL r59.lt (lT (lT m102.size m103.size) m113.size)) lR)), (((((((((((((((Mod.refl [] w4).nt md1).nt m100).nt m101).nt m102).nt m103).nt m113).nt m114).nt m115).nt m116).nt m117).then m118 ((aC (.inr (lT (lT (lT (lT (lT (lT md1.size m100.size) m101.size) m102.size) m103.size) m113.size) lR)) aN))).nt m119).then m120 ((aC (.inr (lT (lT md1.size m100.size) lR)) aN))).nt m121)⟩
        · refine DP.op (i := 9) rfl rfl (.free rfl) rfl (ltb rfl) ?_
          intro w123 m122
          refine Op1.mono (op_alloc (cs := [.slice none 0 0, vI 0, .slice none 0 0, vI 0, vI 0, vF 0, vF 0, vF 0, vF 0, vF 0, vI 0, vF 0, vF 0, vF 0, vF 0, vF 0, vF 0, vF 0]) Try.zeroValue61 rfl) ?_
          rintro _ w124 ⟨rfl, r72, m123, z42⟩
          refine ⟨(((((Mod.refl [] w5).nt m100).nt m101).nt m122).nt m123), ?_⟩
          refine DR.one (i := 1) rfl rfl (by kernel_rfl) (.free rfl) rfl (ltb rfl) (vs := [.func (.func 32) #[] #[], .agg #[.slice ATr nTr cTr, vI Tj, .slice ABr nBr cBr, vI Bj, vI Lk, vF Lc0, vF Lc1, vF Lc2, vF Ls0, vF Ls1, vI Dk, vF Dc0, vF Dc1, vF Dc2, vF Ds0, vF Ds1, vF ne, vF fa]]) rfl ?_
          intro w125 m124
          refine ⟨oc_call (vs := [.agg #[.slice ATr nTr cTr, vI Tj, .slice ABr nBr cBr, vI Bj, vI Lk, vF Lc0, vF Lc1, vF Lc2, vF Ls0, vF Ls1, vI Dk, vF Dc0, vF Dc1, vF Dc2, vF Ds0, vF Ds1, vF ne, vF fa]]) (cap := []) rfl rfl rfl Try.call32 (c_toJet nTr cTr ATr bTr oTr xTr Tj nBr cBr ABr bBr oBr xBr Bj Lk Lc0 Lc1 Lc2 Ls0 Ls1 Dk Dc0 Dc1 Dc2 Ds0 Ds1 ne fa lnTr hATr lnBr hABr (by omega) (by omega) w125 (((((((((rTr.ext m1).ext m2).ext m4).ext md1).ext m100).ext m101).ext m122).ext m123).ext m124) (((((((((rBr.ext m1).ext m2).ext m4).ext md1).ext m100).ext m101).ext m122).ext m123).ext m124)), ?_⟩
          rintro _ w126 ⟨bTr'5, bBr'5, rfl, r73, r74, ge9, ge10, ne5, m125⟩
          refine ⟨(((((((Mod.refl [] w5).nt m100).nt m101).nt m122).nt m123).nt m124).nt m125), ?_⟩
          refine DR.call (i := 3) (fun uA => uA = .agg (fl bs).toArray) rfl rfl (by kernel_rfl) (.free rfl) rfl (ltb rfl) ⟨_, rfl⟩ (vs := [.func (.func 49) #[] #[], .agg (fl bs).toArray]) rfl (fun wD mD => oc_call (vs := [.agg (fl bs).toArray]) (cap := []) rfl rfl rfl Try.call49 (c_toBlock bs lb wD)) ?_ ?_
          · rintro w1 _ w2 m1 ⟨rfl, m2⟩; exact ⟨rfl, m2⟩
          rintro _ rfl
          refine DR.one (i := 4) rfl rfl (by kernel_rfl) (.free rfl) rfl (ltb rfl) (vs := [.func (.func 48) #[] #[], .agg #[vS bTr'5 0 nTr nTr, vI Tj, vS bBr'5 0 nBr nBr, vI Bj, vI Lk, vF Lc0, vF Lc1, vF Lc2, vF Ls0, vF Ls1, vI Dk, vF Dc0, vF Dc1, vF Dc2, vF Ds0, vF Ds1, vF ne, vF fa], .agg (fl bs).toArray]) rfl ?_
          intro w127 m126
          refine ⟨oc_call (vs := [.agg #[vS bTr'5 0 nTr nTr, vI Tj, vS bBr'5 0 nBr nBr, vI Bj, vI Lk, vF Lc0, vF Lc1, vF Lc2, vF Ls0, vF Ls1, vI Dk, vF Dc0, vF Dc1, vF Dc2, vF Ds0, vF Ds1, vF ne, vF fa], .agg (fl bs).toArray]) (cap := []) rfl rfl rfl Try.call48 (c_sBlockJet_bad nTr nTr bTr'5 xTr nBr nBr bBr'5 xBr Tj Bj Lk Lc0 Lc1 Lc2 Ls0 Ls1 Dk Dc0 Dc1 Dc2 Ds0 Ds1 ne fa bs lnTr lnBr (by omega) (by omega) (by first | assumption | exact W32.get (by assumption) _ | decide +kernel) (by first | assumption | exact W32.get (by assumption) _ | decide +kernel) (by first | assumption | exact W32.get (by assumption) _ | decide +kernel) (by first | assumption | exact W32.get (by assumption) _ | decide +kernel) lb (by first | assumption | exact W32.set (by assumption) (by first | assumption | exact wid_lt (by assumption)) | exact W32.zeros _ | exact W32.nil) (by assumption) w127 (r73.ext m126).rng (r74.ext m126).rng), ?_⟩
          rintro _ w128 ⟨rfl, m127⟩
          refine ⟨(((((((((Mod.refl [] w5).nt m100).nt m101).nt m122).nt m123).nt m124).nt m125).nt m126).nt m127), ?_⟩
          refine DR.det (i := 5) rfl rfl (by kernel_rfl) (.free rfl) rfl rfl (fun wD mD => op_move rfl) ?_
          refine DR.det (i := 6) rfl rfl (by kernel_rfl) (.free rfl) rfl rfl (fun wD mD => op_extract rfl rfl) ?_
          refine DR.det (i := 7) rfl rfl (by kernel_rfl) (.free rfl) rfl rfl (fun wD mD => op_extract rfl rfl) ?_
          refine DR.det (i := 8) rfl rfl (by kernel_rfl) (.free rfl) rfl rfl (fun wD mD => op_extract rfl rfl) ?_
          refine DR.st1 (i := 11) rfl rfl (by kernel_rfl) (.free rfl) rfl ?_
          intro w129 m128
          refine Op1.mono (op_store (i := 0) (cs := [.slice none 0 0, vI 0, .slice none 0 0, vI 0, vI 0, vF 0, vF 0, vF 0, vF 0, vF 0, vI 0, vF 0, vF 0, vF 0, vF 0, vF 0, vF 0, vF 0]) rfl rfl rfl Try.sizeOf61 rfl (((((r72.ext m124).ext m125).ext m126).ext m127).ext m128) rfl (lB rfl) rfl) ?_
          rintro _ w130 ⟨r75, m129, z43⟩
          have r76 : Row w130 w123.heap.size 0 [.slice none 0 0, vI 0, .slice none 0 0, vI 0, vI 0, vF 0, vF 0, vF 0, vF 0, vF 0, vI 0, vF 0, vF 0, vF 0, vF 0, vF 0, vF 0, vF 0] := Row.congr r75 rfl
          refine ⟨(((((((((((Mod.refl [] w5).nt m100).nt m101).nt m122).nt m123).nt m124).nt m125).nt m126).nt m127).nt m128).then m129 ((aC (.inr (lT (lT (lT m100.size m101.size) m122.size) lR)) aN))), ?_⟩
          refine DR.st1 (i := 12) rfl rfl (by kernel_rfl) (.free rfl) rfl ?_
          intro w131 m130
          refine Op1.mono (op_store (i := 0) (cs := fl (List.replicate 16 0)) rfl rfl rfl Try.sizeOf82 (fl_len List.length_replicate) (((((((((r59.ext m122).ext m123).ext m124).ext m125).ext m126).ext m127).ext m128).mod m129 (nC (lE (lL (lL r59.lt m122.size) lR)) nN)).ext m130) rfl (by rw [fl_length, List.length_replicate]; decide) (fl_one _)) ?_
          rintro _ w132 ⟨r77, m131, z44⟩
          have r78 : Row w132 w101.heap.size 0 (fl (List.replicate 16 0)) := Row.congr r77 (splice_all ((fl_len (List.length_replicate)).trans (fl_len (List.length_replicate)).symm))
          refine ⟨(((((((((((((Mod.refl [] w5).nt m100).nt m101).nt m122).nt m123).nt m124).nt m125).nt m126).nt m127).nt m128).then m129 ((aC (.inr (lT (lT (lT m100.size m101.size) m122.size) lR)) aN))).nt m130).then m131 ((aC (.inr (lT m100.size lR)) aN))), ?_⟩
          refine DR.sub [(2, vP w.heap.size 0), (3, vP w1.heap.size 0), (4, .bool false), (6, vP w123.heap.size 0), (7, vP w101.heap.size 0), (32, vI 1)] ⟨rfl, rfl, rfl, rfl, rfl, rfl, trivial⟩ ?_
          refine DR.meet rfl ?_
          intro w133 m132
          exact ⟨bTr'5, bBr'5, w123.heap.size, w101.heap.size, rfl, (((((((r73.ext m126).ext m127).ext m128).mod m129 (nC (lG (lL (lL r72.lt m124.size) ge9)) nN)).ext m130).mod m131 (nC (lG (lL (lL r59.lt (lT (lT m122.size m123.size) m124.size)) ge9)) nN)).ext m132), (((((((r74.ext m126).ext m127).ext m128).mod m129 (nC (lG (lL (lL r72.lt m124.size) ge10)) nN)).ext m130).mod m131 (nC (lG (lL (lL r59.lt (lT (lT m122.size m123.size) m124.size)) ge10)) nN)).ext m132), (((r76.ext m130).mod m131 (nC (lG (lL (lL r59.lt m122.size) lR)) nN)).ext m132), (r78.ext m132), (lT (lT (lT (lT (lT (lT md1.size m100.size) m101.size) m122.size) m123.size) m124.size) ge9), (lT (lT (lT (lT (lT (lT md1.size m100.size) m101.size) m122.size) m123.size) m124.size) ge10), (lT (lT (lT (lT md1.size m100.size) m101.size) m122.size) lR), (lT (lT md1.size m100.size) lR), ne5, (lG (lL (lL r72.lt m124.size) ge9)), (lG (lL (lL r59.lt (lT (lT m122.size m123.size) m124.size)) ge9)), (lG (lL (lL r72.lt m124.size) ge10)), (lG (lL (lL r59.lt (lT (lT m122.size m123.size) m124.size)) ge10)), (lG (lL (lL r59.lt m122.size) lR)), (((((((((((((((Mod.refl [] w4).nt md1).nt m100).nt m101).nt m122).nt m123).nt m124).nt m125).nt m126).nt m127).nt m128).then m129 ((aC (.inr (lT (lT (lT (lT md1.size m100.size) m101.size) m122.size) lR)) aN))).nt m130).then m131 ((aC (.inr (lT (lT md1.size m100.size) lR)) aN))).nt m132)⟩
    · rintro _ w134 ⟨e1_1_0, e1_1_1, e1_9_0, e1_10_0, rfl, rr1_0, rr1_1, rr1_2, rr1_3, ge11, ge12, ge13, ge14, ne6, ne7, ne8, ne9, ne10, ne11, m133⟩
      refine WO.det (op_assign rfl) rfl (.free rfl) rfl rfl ?_
      refine WO.end ?_
      refine NE.code ?_
      refine CE.seq ?_
      refine CE.region ?_
      refine WL.det (op_loadA (i := 0) (cs := [.slice ATr nTr cTr, vI Tj, .slice ABr nBr cBr, vI Bj, vI Lk, vF Lc0, vF Lc1, vF Lc2, vF Ls0, vF Ls1, vI Dk, vF Dc0, vF Dc1, vF Dc2, vF Ds0, vF Ds1, vF ne, vF fa]) rfl Try.isAgg58 Try.sizeOf58 (((r1.ext m2).ext m4).ext m133).rng rfl rfl rfl) rfl rfl rfl ?_
      refine WL.call (oc_call (vs := [.agg #[.slice ATr nTr cTr, vI Tj, .slice ABr nBr cBr, vI Bj, vI Lk, vF Lc0, vF Lc1, vF Lc2, vF Ls0, vF Ls1, vI Dk, vF Dc0, vF Dc1, vF Dc2, vF Ds0, vF Ds1, vF ne, vF fa]]) (cap := []) rfl rfl rfl Try.call32 (c_toJet nTr cTr ATr bTr oTr xTr Tj nBr cBr ABr bBr oBr xBr Bj Lk Lc0 Lc1 Lc2 Ls0 Ls1 Dk Dc0 Dc1 Dc2 Ds0 Ds1 ne fa lnTr hATr lnBr hABr (by omega) (by omega) w134 ((((rTr.ext m1).ext m2).ext m4).ext m133) ((((rBr.ext m1).ext m2).ext m4).ext m133))) rfl rfl (ltb rfl) ?_
      rintro _ w135 ⟨bTr'6, bBr'6, rfl, r79, r80, ge15, ge16, ne12, m134⟩
      refine WL.op (op_alloc (cs := [.slice none 0 0, vI 0, .slice none 0 0, vI 0, vI 0, vF 0, vF 0, vF 0, vF 0, vF 0, vI 0, vF 0, vF 0, vF 0, vF 0, vF 0, vF 0, vF 0]) Try.zeroValue61 rfl) rfl rfl (ltb rfl) ?_
      rintro _ w136 ⟨rfl, r81, m135, z45⟩
      refine WL.op0 (op_store (i := 0) (cs := [vS bTr'6 0 nTr nTr, vI Tj, vS bBr'6 0 nBr nBr, vI Bj, vI Lk, vF Lc0, vF Lc1, vF Lc2, vF Ls0, vF Ls1, vI Dk, vF Dc0, vF Dc1, vF Dc2, vF Ds0, vF Ds1, vF ne, vF fa]) rfl rfl rfl Try.sizeOf61 rfl r81 rfl (lB rfl) rfl) rfl rfl ?_
      rintro _ w137 ⟨r82, m136, z46⟩
      have r83 : Row w137 w135.heap.size 0 [vS bTr'6 0 nTr nTr, vI Tj, vS bBr'6 0 nBr nBr, vI Bj, vI Lk, vF Lc0, vF Lc1, vF Lc2, vF Ls0, vF Ls1, vI Dk, vF Dc0, vF Dc1, vF Dc2, vF Ds0, vF Ds1, vF ne, vF fa] := Row.congr r82 rfl
      refine WL.end ?_
      refine NE.code ?_
      refine CE.seq ?_
      refine CE.draw (fun | 2 => some (fun _ wA uA wB => uA = .agg (fl bs).toArray ∧ Mod [] wA wB) | 3 => some (fun _ wA uA wB => uA = .tuple #[.agg #[.slice none 0 0, vI 0, .slice none 0 0, vI 0, vI 0, vF 0, vF 0, vF 0, vF 0, vF 0, vI 0, vF 0, vF 0, vF 0, vF 0, vF 0, vF 0, vF 0], .agg (fl (List.replicate 16 0)).toArray, vI 1] ∧ Mod [] wA wB) | _ => none) [0, 1, 2, 3, 4, 5, 6, 7, 8, 9, 10, 11] [12] [] (by kernel_rfl) (by kernel_rfl) ?_
      have md2 : Mod [] w137 w137.drew := (Mod.refl _ _).drew
      generalize w137.drew = w138 at md2 ⊢
      refine DR.det (i := 0) rfl rfl (by kernel_rfl) (.free rfl) rfl rfl (fun wD mD => op_loadA (i := 0) (cs := [vS bTr'6 0 nTr nTr, vI Tj, vS bBr'6 0 nBr nBr, vI Bj, vI Lk, vF Lc0, vF Lc1, vF Lc2, vF Ls0, vF Ls1, vI Dk, vF Dc0, vF Dc1, vF Dc2, vF Ds0, vF Ds1, vF ne, vF fa]) rfl Try.isAgg61 Try.sizeOf61 ((r83.ext md2).ext mD).rng rfl rfl rfl) ?_
      refine DR.det (i := 1) rfl rfl (by kernel_rfl) (.free rfl) rfl rfl (fun wD mD => op_loadA (i := 0) (cs := fl bs) rfl Try.isAgg81 Try.sizeOf81 (((((((r2.ext m4).ext m133).ext m134).ext m135).mod m136 (nC (lE (lL (lL r2.lt (lT (lT m4.size m133.size) m134.size)) lR)) nN)).ext md2).ext mD).rng rfl (fl_whole lb) (fl_len lb)) ?_
      refine DR.call (i := 2) (fun uA => uA = .agg (fl bs).toArray) rfl rfl (by kernel_rfl) (.free rfl) rfl (ltb rfl) ⟨_, rfl⟩ (vs := [.func (.func 49) #[] #[], .agg (fl bs).toArray]) rfl (fun wD mD => oc_call (vs := [.agg (fl bs).toArray]) (cap := []) rfl rfl rfl Try.call49 (c_toBlock bs lb wD)) ?_ ?_
      · rintro w1 _ w2 m1 ⟨rfl, m2⟩; exact ⟨rfl, m2⟩
      rintro _ rfl
      refine DR.call (i := 3) (fun uA => uA = .tuple #[.agg #[.slice none 0 0, vI 0, .slice none 0 0, vI 0, vI 0, vF 0, vF 0, vF 0, vF 0, vF 0, vI 0, vF 0, vF 0, vF 0, vF 0, vF 0, vF 0, vF 0], .agg (fl (List.replicate 16 0)).toArray, vI 1]) rfl rfl (by kernel_rfl) (.free rfl) rfl (ltb rfl) ⟨_, rfl⟩ (vs := [.func (.func 50) #[] #[], .agg #[vS bTr'6 0 nTr nTr, vI Tj, vS bBr'6 0 nBr nBr, vI Bj, vI Lk, vF Lc0, vF Lc1, vF Lc2, vF Ls0, vF Ls1, vI Dk, vF Dc0, vF Dc1, vF Dc2, vF Ds0, vF Ds1, vF ne, vF fa], .agg (fl bs).toArray]) rfl (fun wD mD => oc_call (vs := [.agg #[vS bTr'6 0 nTr nTr, vI Tj, vS bBr'6 0 nBr nBr, vI Bj, vI Lk, vF Lc0, vF Lc1, vF Lc2, vF Ls0, vF Ls1, vI Dk, vF Dc0, vF Dc1, vF Dc2, vF Ds0, vF Ds1, vF ne, vF fa], .agg (fl bs).toArray]) (cap := []) rfl rfl rfl Try.call50 (c_iBlockJet_bad nTr nTr bTr'6 xTr nBr nBr bBr'6 xBr Tj Bj Lk Lc0 Lc1 Lc2 Ls0 Ls1 Dk Dc0 Dc1 Dc2 Ds0 Ds1 ne fa bs lnTr lnBr (by omega) (by omega) (by first | assumption | exact W32.get (by assumption) _ | decide +kernel) (by first | assumption | exact W32.get (by assumption) _ | decide +kernel) (by first | assumption | exact W32.get (by assumption) _ | decide +kernel) (by first | assumption | exact W32.get (by assumption) _ | decide +kernel) lb (by first | assumption | exact W32.set (by assumption) (by first | assumption | exact wid_lt (by assumption)) | exact W32.zeros _ | exact W32.nil) (by assumption) wD ((((r79.ext m135).mod m136 (nC (lE (lL r79.lt lR)) nN)).ext md2).ext mD).rng ((((r80.ext m135).mod m136 (nC (lE (lL r80.lt lR)) nN)).ext md2).ext mD).rng)) ?_ ?_
      · rintro w1 _ w2 m1 ⟨rfl, m2⟩; exact ⟨rfl, m2⟩
      rintro _ rfl
      refine DR.det (i := 4) rfl rfl (by kernel_rfl) (.free rfl) rfl rfl (fun wD mD => op_move rfl) ?_
      refine DR.det (i := 5) rfl rfl (by kernel_rfl) (.free rfl) rfl rfl (fun wD mD => op_extract rfl rfl) ?_
      refine DR.det (i := 6) rfl rfl (by kernel_rfl) (.free rfl) rfl rfl (fun wD mD => op_extract rfl rfl) ?_
      refine DR.det (i := 7) rfl rfl (by kernel_rfl) (.free rfl) rfl rfl (fun wD mD => op_extract rfl rfl) ?_
      refine DR.two (i := 8) (j := 9) rfl rfl rfl rfl (by kernel_rfl) (by kernel_rfl) (by kernel_rfl) (by decide) (by decide) rfl rfl rfl rfl (ltb rfl) (ltb rfl) (fun _ _ => op_alloc (cs := [.slice none 0 0, vI 0, .slice none 0 0, vI 0, vI 0, vF 0, vF 0, vF 0, vF 0, vF 0, vI 0, vF 0, vF 0, vF 0, vF 0, vF 0, vF 0, vF 0]) Try.zeroValue61 rfl) (fun _ _ => op_alloc (cs := fl (List.replicate 16 0)) Try.zeroValue82 rfl) ?_
      intro b1 b2 w139 r84 r85 ge17 ge18 ne13 m137
      refine DR.st1 (i := 10) rfl rfl (by kernel_rfl) (.free rfl) rfl ?_
      intro w140 m138
      refine Op1.mono (op_store (i := 0) (cs := [.slice none 0 0, vI 0, .slice none 0 0, vI 0, vI 0, vF 0, vF 0, vF 0, vF 0, vF 0, vI 0, vF 0, vF 0, vF 0, vF 0, vF 0, vF 0, vF 0]) rfl rfl rfl Try.sizeOf61 rfl (r84.ext m138) rfl (lB rfl) rfl) ?_
      rintro _ w141 ⟨r86, m139, z47⟩
      have r87 : Row w141 b1 0 [.slice none 0 0, vI 0, .slice none 0 0, vI 0, vI 0, vF 0, vF 0, vF 0, vF 0, vF 0, vI 0, vF 0, vF 0, vF 0, vF 0, vF 0, vF 0, vF 0] := Row.congr r86 rfl
      refine ⟨((((Mod.refl [] w138).nt m137).nt m138).then m139 ((aC (.inr ge17) aN))), ?_⟩
      refine DR.st1 (i := 11) rfl rfl (by kernel_rfl) (.free rfl) rfl ?_
      intro w142 m140
      refine Op1.mono (op_store (i := 0) (cs := fl (List.replicate 16 0)) rfl rfl rfl Try.sizeOf82 (fl_len List.length_replicate) (((r85.ext m138).mod m139 (nC (Ne.symm ne13) nN)).ext m140) rfl (by rw [fl_length, List.length_replicate]; decide) (fl_one _)) ?_
      rintro _ w143 ⟨r88, m141, z48⟩
      have r89 : Row w143 b2 0 (fl (List.replicate 16 0)) := Row.congr r88 (splice_all ((fl_len (List.length_replicate)).trans (fl_len (List.length_replicate)).symm))
      refine ⟨((((((Mod.refl [] w138).nt m137).nt m138).then m139 ((aC (.inr ge17) aN))).nt m140).then m141 ((aC (.inr ge18) aN))), ?_⟩
      refine DR.done rfl ?_
      intro w144 m142
      refine WO.det (op_assign rfl) rfl (.free rfl) rfl rfl ?_
      refine WO.end ?_
      refine NE.code ?_
      refine CE.seq ?_
      refine CE.seq ?_
      refine CE.region ?_
      refine WL.det (op_loadA (i := 0) (cs := [.slice none 0 0, vI 0, .slice none 0 0, vI 0, vI 0, vF 0, vF 0, vF 0, vF 0, vF 0, vI 0, vF 0, vF 0, vF 0, vF 0, vF 0, vF 0, vF 0]) rfl Try.isAgg61 Try.sizeOf61 (((r87.ext m140).mod m141 (nC ne13 nN)).ext m142).rng rfl rfl rfl) rfl rfl rfl ?_
      refine WL.det (op_loadA (i := 0) (cs := [.slice none 0 0, vI 0, .slice none 0 0, vI 0, vI 0, vF 0, vF 0, vF 0, vF 0, vF 0, vI 0, vF 0, vF 0, vF 0, vF 0, vF 0, vF 0, vF 0]) rfl Try.isAgg61 Try.sizeOf61 ((((((((((rr1_2.ext m134).ext m135).mod m136 (nC (lE (lL (lL rr1_2.lt m134.size) lR)) nN)).ext md2).ext m137).ext m138).mod m139 (nC (lE (lL (lL rr1_2.lt (lT (lT (lT m134.size m135.size) m136.size) md2.size)) ge17)) nN)).ext m140).mod m141 (nC (lE (lL (lL rr1_2.lt (lT (lT (lT m134.size m135.size) m136.size) md2.size)) ge18)) nN)).ext m142).rng rfl rfl rfl) rfl rfl rfl ?_
      refine WL.call (oc_call (vs := [.agg #[.slice none 0 0, vI 0, .slice none 0 0, vI 0, vI 0, vF 0, vF 0, vF 0, vF 0, vF 0, vI 0, vF 0, vF 0, vF 0, vF 0, vF 0, vF 0, vF 0], .agg #[.slice none 0 0, vI 0, .slice none 0 0, vI 0, vI 0, vF 0, vF 0, vF 0, vF 0, vF 0, vI 0, vF 0, vF 0, vF 0, vF 0, vF 0, vF 0, vF 0]]) (cap := []) rfl rfl rfl Try.call34 (c_eqJet 0 0 none 0 0 [] (0 : Int) 0 0 none 0 0 [] (0 : Int) (0 : Int) 0 0 0 0 0 0 0 0 0 0 (0 : Int) 0 0 0 0 0 0 0 0 0 0 0 0 0 0 0 none 0 0 0 none 0 0 0 0 0 0 0 0 0 0 0 0 0 0 rfl (fun h => absurd h (Nat.lt_irrefl _)) rfl (fun h => absurd h (Nat.lt_irrefl _)) (fun h => absurd h (Nat.lt_irrefl _)) (fun h => absurd h (Nat.lt_irrefl _)) rfl rfl rfl rfl rfl rfl rfl rfl rfl rfl rfl rfl rfl rfl rfl rfl rfl rfl rfl rfl rfl rfl rfl rfl (by omega) (by omega) w144 (Rng.nil _ _ _) (Rng.nil _ _ _) (Rng.nil _ _ _) (Rng.nil _ _ _))) rfl rfl (ltb rfl) ?_
      rintro _ w145 ⟨rfl, m143⟩
      refine WL.det (op_not rfl) rfl rfl rfl ?_
      refine WL.det (op_move rfl) rfl rfl rfl ?_
      refine WL.yes rfl rfl rfl (ltb rfl) rfl rfl ?_
      refine WL.det (op_loadA (i := 0) (cs := fl (List.replicate 16 0)) rfl Try.isAgg82 Try.sizeOf82 ((r89.ext m142).ext m143).rng rfl (fl_whole List.length_replicate) (fl_len List.length_replicate)) rfl rfl rfl ?_
      refine WL.yes rfl rfl rfl (ltb rfl) rfl rfl ?_
      refine WL.det (op_loadA (i := 0) (cs := fl (List.replicate 16 0)) rfl Try.isAgg82 Try.sizeOf82 (((((((((((rr1_3.ext m134).ext m135).mod m136 (nC (lE (lL (lL rr1_3.lt m134.size) lR)) nN)).ext md2).ext m137).ext m138).mod m139 (nC (lE (lL (lL rr1_3.lt (lT (lT (lT m134.size m135.size) m136.size) md2.size)) ge17)) nN)).ext m140).mod m141 (nC (lE (lL (lL rr1_3.lt (lT (lT (lT m134.size m135.size) m136.size) md2.size)) ge18)) nN)).ext m142).ext m143).rng rfl (fl_whole List.length_replicate) (fl_len List.length_replicate)) rfl rfl rfl ?_
      refine WL.yes rfl rfl rfl (ltb rfl) rfl rfl ?_
      refine WL.call (oc_call (vs := [.agg (fl (List.replicate 16 0)).toArray, .agg (fl (List.replicate 16 0)).toArray]) (cap := []) rfl rfl rfl Try.call51 (c_eqBlock_same (List.replicate 16 0) List.length_replicate w145)) rfl rfl (ltb rfl) ?_
      rintro _ w146 ⟨rfl, m144⟩
      refine WL.yes rfl rfl rfl (ltb rfl) rfl rfl ?_
      refine WL.det (op_not rfl) rfl rfl rfl ?_
      refine WL.det (op_pick_f rfl rfl rfl) rfl rfl rfl ?_
      refine WL.det (op_move rfl) rfl rfl rfl ?_
      refine WL.yes rfl rfl rfl (ltb rfl) rfl rfl ?_
      refine WL.det (op_move rfl) rfl rfl rfl ?_
      refine WL.yes rfl rfl rfl (ltb rfl) rfl rfl ?_
      refine WL.det (op_move rfl) rfl rfl rfl ?_
      refine WL.yes rfl rfl rfl (ltb rfl) rfl rfl ?_
      refine WL.det (op_nei rfl rfl) rfl rfl rfl ?_
      refine WL.det (op_pick_f rfl rfl rfl) rfl rfl rfl ?_
      refine WL.end ?_
      refine NE.code ?_
      refine CE.cond_f rfl rfl ?_
      refine CE.skip' ?_
      refine NE.code ?_
      refine CE.seq ?_
      refine CE.seq ?_
      refine CE.draw (fun | 2 => some (fun _ wA uA wB => ∃ (bTr' : Nat) (bBr' : Nat), uA = .agg #[vS bTr' 0 nTr nTr, vI Tj, vS bBr' 0 nBr nBr, vI Bj, vI Lk, vF Lc0, vF Lc1, vF Lc2, vF Ls0, vF Ls1, vI Dk, vF Dc0, vF Dc1, vF Dc2, vF Ds0, vF Ds1, vF ne, vF fa] ∧ Row wB bTr' 0 (fl xTr) ∧ Row wB bBr' 0 (fl xBr) ∧ wA.heap.size ≤ bTr' ∧ wA.heap.size ≤ bBr' ∧ bTr' ≠ bBr' ∧ Mod [] wA wB) | _ => none) [0, 1, 2] [3, 4] [] (by kernel_rfl) (by kernel_rfl) ?_
      have md3 : Mod [] w146 w146.drew := (Mod.refl _ _).drew
      generalize w146.drew = w147 at md3 ⊢
      refine DR.det (i := 0) rfl rfl (by kernel_rfl) (.free rfl) rfl rfl (fun wD mD => op_loadA (i := 0) (cs := [vS bTr'6 0 nTr nTr, vI Tj, vS bBr'6 0 nBr nBr, vI Bj, vI Lk, vF Lc0, vF Lc1, vF Lc2, vF Ls0, vF Ls1, vI Dk, vF Dc0, vF Dc1, vF Dc2, vF Ds0, vF Ds1, vF ne, vF fa]) rfl Try.isAgg61 Try.sizeOf61 (((((((((((r83.ext md2).ext m137).ext m138).mod m139 (nC (lE (lL (lL r81.lt (lT m136.size md2.size)) ge17)) nN)).ext m140).mod m141 (nC (lE (lL (lL r81.lt (lT m136.size md2.size)) ge18)) nN)).ext m142).ext m143).ext m144).ext md3).ext mD).rng rfl rfl rfl) ?_
      refine DR.det (i := 1) rfl rfl (by kernel_rfl) (.free rfl) rfl rfl (fun wD mD => op_loadA (i := 0) (cs := [.slice ATr nTr cTr, vI Tj, .slice ABr nBr cBr, vI Bj, vI Lk, vF Lc0, vF Lc1, vF Lc2, vF Ls0, vF Ls1, vI Dk, vF Dc0, vF Dc1, vF Dc2, vF Ds0, vF Ds1, vF ne, vF fa]) rfl Try.isAgg58 Try.sizeOf58 (((((((((((((((((r1.ext m2).ext m4).ext m133).ext m134).ext m135).mod m136 (nC (lE (lL (lL r1.lt (lT (lT (lT m2.size m4.size) m133.size) m134.size)) lR)) nN)).ext md2).ext m137).ext m138).mod m139 (nC (lE (lL (lL r1.lt (lT (lT (lT (lT (lT (lT m2.size m4.size) m133.size) m134.size) m135.size) m136.size) md2.size)) ge17)) nN)).ext m140).mod m141 (nC (lE (lL (lL r1.lt (lT (lT (lT (lT (lT (lT m2.size m4.size) m133.size) m134.size) m135.size) m136.size) md2.size)) ge18)) nN)).ext m142).ext m143).ext m144).ext md3).ext mD).rng rfl rfl rfl) ?_
      refine DR.one (i := 2) rfl rfl (by kernel_rfl) (.free rfl) rfl (ltb rfl) (vs := [.func (.func 32) #[] #[], .agg #[.slice ATr nTr cTr, vI Tj, .slice ABr nBr cBr, vI Bj, vI Lk, vF Lc0, vF Lc1, vF Lc2, vF Ls0, vF Ls1, vI Dk, vF Dc0, vF Dc1, vF Dc2, vF Ds0, vF Ds1, vF ne, vF fa]]) rfl ?_
      intro w148 m145
      refine ⟨oc_call (vs := [.agg #[.slice ATr nTr cTr, vI Tj, .slice ABr nBr cBr, vI Bj, vI Lk, vF Lc0, vF Lc1, vF Lc2, vF Ls0, vF Ls1, vI Dk, vF Dc0, vF Dc1, vF Dc2, vF Ds0, vF Ds1, vF ne, vF fa]]) (cap := []) rfl rfl rfl Try.call32 (c_toJet nTr cTr ATr bTr oTr xTr Tj nBr cBr ABr bBr oBr xBr Bj Lk Lc0 Lc1 Lc2 Ls0 Ls1 Dk Dc0 Dc1 Dc2 Ds0 Ds1 ne fa lnTr hATr lnBr hABr (by omega) (by omega) w148 ((((((Rng.youngS rTr ((Rng.youngS rTr ((((Rng.youngS rTr ((((((rTr.ext m1).ext m2).ext m4).ext m133).ext m134).ext m135) m136 (allge_cons (lT (lT (lT (lT (lT m1.size m2.size) m4.size) m133.size) m134.size) lR) allge_nil)).ext md2).ext m137).ext m138) m139 (allge_cons (lT (lT (lT (lT (lT (lT (lT (lT m1.size m2.size) m4.size) m133.size) m134.size) m135.size) m136.size) md2.size) ge17) allge_nil)).ext m140) m141 (allge_cons (lT (lT (lT (lT (lT (lT (lT (lT m1.size m2.size) m4.size) m133.size) m134.size) m135.size) m136.size) md2.size) ge18) allge_nil)).ext m142).ext m143).ext m144).ext md3).ext m145) ((((((Rng.youngS rBr ((Rng.youngS rBr ((((Rng.youngS rBr ((((((rBr.ext m1).ext m2).ext m4).ext m133).ext m134).ext m135) m136 (allge_cons (lT (lT (lT (lT (lT m1.size m2.size) m4.size) m133.size) m134.size) lR) allge_nil)).ext md2).ext m137).ext m138) m139 (allge_cons (lT (lT (lT (lT (lT (lT (lT (lT m1.size m2.size) m4.size) m133.size) m134.size) m135.size) m136.size) md2.size) ge17) allge_nil)).ext m140) m141 (allge_cons (lT (lT (lT (lT (lT (lT (lT (lT m1.size m2.size) m4.size) m133.size) m134.size) m135.size) m136.size) md2.size) ge18) allge_nil)).ext m142).ext m143).ext m144).ext md3).ext m145)), ?_⟩
      rintro _ w149 ⟨bTr'7, bBr'7, rfl, r90, r91, ge19, ge20, ne14, m146⟩
      refine ⟨(((Mod.refl [] w147).nt m145).nt m146), ?_⟩
      refine DR.done rfl ?_
      intro w150 m147
      refine WO.call rfl (.free rfl) rfl (ltb rfl) (oc_call (vs := [.agg #[vS bTr'6 0 nTr nTr, vI Tj, vS bBr'6 0 nBr nBr, vI Bj, vI Lk, vF Lc0, vF Lc1, vF Lc2, vF Ls0, vF Ls1, vI Dk, vF Dc0, vF Dc1, vF Dc2, vF Ds0, vF Ds1, vF ne, vF fa], .agg #[vS bTr'7 0 nTr nTr, vI Tj, vS bBr'7 0 nBr nBr, vI Bj, vI Lk, vF Lc0, vF Lc1, vF Lc2, vF Ls0, vF Ls1, vI Dk, vF Dc0, vF Dc1, vF Dc2, vF Ds0, vF Ds1, vF ne, vF fa]]) (cap := []) rfl rfl rfl Try.call34 (c_eqJet nTr nTr (some ⟨bTr'6, 0, none⟩) bTr'6 0 xTr Tj nBr nBr (some ⟨bBr'6, 0, none⟩) bBr'6 0 xBr Bj Lk Lc0 Lc0 Lc1 Lc1 Lc2 Lc2 Ls0 Ls0 Ls1 Ls1 Dk Dc0 Dc0 Dc1 Dc1 Dc2 Dc2 Ds0 Ds0 Ds1 Ds1 ne ne fa fa nTr (some ⟨bTr'7, 0, none⟩) bTr'7 0 nBr (some ⟨bBr'7, 0, none⟩) bBr'7 0 Lc0 Lc1 Lc2 Ls0 Ls1 Dc0 Dc1 Dc2 Ds0 Ds1 ne fa lnTr (fun _ => rfl) lnBr (fun _ => rfl) (fun _ => rfl) (fun _ => rfl) rfl rfl rfl rfl rfl rfl rfl rfl rfl rfl rfl rfl rfl rfl rfl rfl rfl rfl rfl rfl rfl rfl rfl rfl (by omega) (by omega) w150 (((((((((((((((r79.ext m135).mod m136 (nC (lE (lL r79.lt lR)) nN)).ext md2).ext m137).ext m138).mod m139 (nC (lE (lL (lL r79.lt (lT (lT m135.size m136.size) md2.size)) ge17)) nN)).ext m140).mod m141 (nC (lE (lL (lL r79.lt (lT (lT m135.size m136.size) md2.size)) ge18)) nN)).ext m142).ext m143).ext m144).ext md3).ext m145).ext m146).ext m147).rng (((((((((((((((r80.ext m135).mod m136 (nC (lE (lL r80.lt lR)) nN)).ext md2).ext m137).ext m138).mod m139 (nC (lE (lL (lL r80.lt (lT (lT m135.size m136.size) md2.size)) ge17)) nN)).ext m140).mod m141 (nC (lE (lL (lL r80.lt (lT (lT m135.size m136.size) md2.size)) ge18)) nN)).ext m142).ext m143).ext m144).ext md3).ext m145).ext m146).ext m147).rng (r90.ext m147).rng (r91.ext m147).rng)) ?_
      rintro _ w151 ⟨rfl, m148⟩
      refine WO.det (op_not rfl) rfl (.free rfl) rfl rfl ?_
      refine WO.end ?_
      refine NE.code ?_
      refine CE.cond_f rfl rfl ?_
      refine CE.skip' ?_
      refine NE.code ?_
      refine CE.seq ?_
      refine CE.region ?_
      refine WL.det (op_assign rfl) rfl rfl rfl ?_
      refine WL.end ?_
      refine NE.code ?_
      refine CE.seq ?_
      refine CE.region ?_
      refine WL.det (op_loadA (i := 0) (cs := [vS bTr'6 0 nTr nTr, vI Tj, vS bBr'6 0 nBr nBr, vI Bj, vI Lk, vF Lc0, vF Lc1, vF Lc2, vF Ls0, vF Ls1, vI Dk, vF Dc0, vF Dc1, vF Dc2, vF Ds0, vF Ds1, vF ne, vF fa]) rfl Try.isAgg61 Try.sizeOf61 ((((((((((((((r83.ext md2).ext m137).ext m138).mod m139 (nC (lE (lL (lL r81.lt (lT m136.size md2.size)) ge17)) nN)).ext m140).mod m141 (nC (lE (lL (lL r81.lt (lT m136.size md2.size)) ge18)) nN)).ext m142).ext m143).ext m144).ext md3).ext m145).ext m146).ext m147).ext m148).rng rfl rfl rfl) rfl rfl rfl ?_
      refine WL.det (op_move rfl) rfl rfl rfl ?_
      refine WL.call (oc_call (vs := [.agg #[vS bTr'6 0 nTr nTr, vI Tj, vS bBr'6 0 nBr nBr, vI Bj, vI Lk, vF Lc0, vF Lc1, vF Lc2, vF Ls0, vF Ls1, vI Dk, vF Dc0, vF Dc1, vF Dc2, vF Ds0, vF Ds1, vF ne, vF fa], vI 1]) (cap := []) rfl rfl rfl Try.call36 (c_markJet nTr nTr bTr'6 xTr Tj nBr nBr bBr'6 xBr Bj Lk Lc0 Lc1 Lc2 Ls0 Ls1 Dk Dc0 Dc1 Dc2 Ds0 Ds1 ne fa 1 lnTr lnBr (by omega) (by omega) (by omega) w151 ((((((((((((((((r79.ext m135).mod m136 (nC (lE (lL r79.lt lR)) nN)).ext md2).ext m137).ext m138).mod m139 (nC (lE (lL (lL r79.lt (lT (lT m135.size m136.size) md2.size)) ge17)) nN)).ext m140).mod m141 (nC (lE (lL (lL r79.lt (lT (lT m135.size m136.size) md2.size)) ge18)) nN)).ext m142).ext m143).ext m144).ext md3).ext m145).ext m146).ext m147).ext m148) ((((((((((((((((r80.ext m135).mod m136 (nC (lE (lL r80.lt lR)) nN)).ext md2).ext m137).ext m138).mod m139 (nC (lE (lL (lL r80.lt (lT (lT m135.size m136.size) md2.size)) ge17)) nN)).ext m140).mod m141 (nC (lE (lL (lL r80.lt (lT (lT m135.size m136.size) md2.size)) ge18)) nN)).ext m142).ext m143).ext m144).ext md3).ext m145).ext m146).ext m147).ext m148) ne12)) rfl rfl (ltb rfl) ?_
      rintro _ w152 ⟨rfl, r92, r93, m149⟩
      refine WL.det (op_assign rfl) rfl rfl rfl ?_
      refine WL.end ?_
      refine NE.code ?_
      refine CE.seq ?_
      refine CE.seq ?_
      refine CE.region ?_
      refine WL.det (op_move rfl) rfl rfl rfl ?_
      refine WL.det (op_lti_f rfl rfl (by omega)) rfl rfl rfl ?_
      refine WL.det (op_move rfl) rfl rfl rfl ?_
      refine WL.yes rfl rfl rfl (ltb rfl) rfl rfl ?_
      refine WL.det (op_loadA (i := 0) (cs := [.slice none 0 0, vI 0, .slice none 0 0, vI 0, vI 0, vF 0, vF 0, vF 0, vF 0, vF 0, vI 0, vF 0, vF 0, vF 0, vF 0, vF 0, vF 0, vF 0]) rfl Try.isAgg61 Try.sizeOf61 (((((((((((r87.ext m140).mod m141 (nC ne13 nN)).ext m142).ext m143).ext m144).ext md3).ext m145).ext m146).ext m147).ext m148).mod m149 (nC (lG (lL (lL r79.lt (lT (lT m135.size m136.size) md2.size)) ge17)) (nC (lG (lL (lL r80.lt (lT (lT m135.size m136.size) md2.size)) ge17)) nN))).rng rfl rfl rfl) rfl rfl rfl ?_
      refine WL.yes rfl rfl rfl (ltb rfl) rfl rfl ?_
      refine WL.det (op_loadA (i := 0) (cs := [.slice none 0 0, vI 0, .slice none 0 0, vI 0, vI 0, vF 0, vF 0, vF 0, vF 0, vF 0, vI 0, vF 0, vF 0, vF 0, vF 0, vF 0, vF 0, vF 0]) rfl Try.isAgg61 Try.sizeOf61 ((((((((((((((((((rr1_2.ext m134).ext m135).mod m136 (nC (lE (lL (lL rr1_2.lt m134.size) lR)) nN)).ext md2).ext m137).ext m138).mod m139 (nC (lE (lL (lL rr1_2.lt (lT (lT (lT m134.size m135.size) m136.size) md2.size)) ge17)) nN)).ext m140).mod m141 (nC (lE (lL (lL rr1_2.lt (lT (lT (lT m134.size m135.size) m136.size) md2.size)) ge18)) nN)).ext m142).ext m143).ext m144).ext md3).ext m145).ext m146).ext m147).ext m148).mod m149 (nC (lE (lL rr1_2.lt ge15)) (nC (lE (lL rr1_2.lt ge16)) nN))).rng rfl rfl rfl) rfl rfl rfl ?_
      refine WL.yes rfl rfl rfl (ltb rfl) rfl rfl ?_
      refine WL.call (oc_call (vs := [.agg #[.slice none 0 0, vI 0, .slice none 0 0, vI 0, vI 0, vF 0, vF 0, vF 0, vF 0, vF 0, vI 0, vF 0, vF 0, vF 0, vF 0, vF 0, vF 0, vF 0], .agg #[.slice none 0 0, vI 0, .slice none 0 0, vI 0, vI 0, vF 0, vF 0, vF 0, vF 0, vF 0, vI 0, vF 0, vF 0, vF 0, vF 0, vF 0, vF 0, vF 0]]) (cap := []) rfl rfl rfl Try.call34 (c_eqJet 0 0 none 0 0 [] (0 : Int) 0 0 none 0 0 [] (0 : Int) (0 : Int) 0 0 0 0 0 0 0 0 0 0 (0 : Int) 0 0 0 0 0 0 0 0 0 0 0 0 0 0 0 none 0 0 0 none 0 0 0 0 0 0 0 0 0 0 0 0 0 0 rfl (fun h => absurd h (Nat.lt_irrefl _)) rfl (fun h => absurd h (Nat.lt_irrefl _)) (fun h => absurd h (Nat.lt_irrefl _)) (fun h => absurd h (Nat.lt_irrefl _)) rfl rfl rfl rfl rfl rfl rfl rfl rfl rfl rfl rfl rfl rfl rfl rfl rfl rfl rfl rfl rfl rfl rfl rfl (by omega) (by omega) w152 (Rng.nil _ _ _) (Rng.nil _ _ _) (Rng.nil _ _ _) (Rng.nil _ _ _))) rfl rfl (ltb rfl) ?_
      rintro _ w153 ⟨rfl, m150⟩
      refine WL.yes rfl rfl rfl (ltb rfl) rfl rfl ?_
      refine WL.det (op_not rfl) rfl rfl rfl ?_
      refine WL.det (op_pick_f rfl rfl rfl) rfl rfl rfl ?_
      refine WL.det (op_move rfl) rfl rfl rfl ?_
      refine WL.yes rfl rfl rfl (ltb rfl) rfl rfl ?_
      refine WL.det (op_loadA (i := 0) (cs := fl (List.replicate 16 0)) rfl Try.isAgg82 Try.sizeOf82 ((((((((((r89.ext m142).ext m143).ext m144).ext md3).ext m145).ext m146).ext m147).ext m148).mod m149 (nC (lG (lL (lL r79.lt (lT (lT m135.size m136.size) md2.size)) ge18)) (nC (lG (lL (lL r80.lt (lT (lT m135.size m136.size) md2.size)) ge18)) nN))).ext m150).rng rfl (fl_whole List.length_replicate) (fl_len List.length_replicate)) rfl rfl rfl ?_
      refine WL.yes rfl rfl rfl (ltb rfl) rfl rfl ?_
      refine WL.det (op_loadA (i := 0) (cs := fl (List.replicate 16 0)) rfl Try.isAgg82 Try.sizeOf82 (((((((((((((((((((rr1_3.ext m134).ext m135).mod m136 (nC (lE (lL (lL rr1_3.lt m134.size) lR)) nN)).ext md2).ext m137).ext m138).mod m139 (nC (lE (lL (lL rr1_3.lt (lT (lT (lT m134.size m135.size) m136.size) md2.size)) ge17)) nN)).ext m140).mod m141 (nC (lE (lL (lL rr1_3.lt (lT (lT (lT m134.size m135.size) m136.size) md2.size)) ge18)) nN)).ext m142).ext m143).ext m144).ext md3).ext m145).ext m146).ext m147).ext m148).mod m149 (nC (lE (lL rr1_3.lt ge15)) (nC (lE (lL rr1_3.lt ge16)) nN))).ext m150).rng rfl (fl_whole List.length_replicate) (fl_len List.length_replicate)) rfl rfl rfl ?_
      refine WL.yes rfl rfl rfl (ltb rfl) rfl rfl ?_
      refine WL.call (oc_call (vs := [.agg (fl (List.replicate 16 0)).toArray, .agg (fl (List.replicate 16 0)).toArray]) (cap := []) rfl rfl rfl Try.call51 (c_eqBlock_same (List.replicate 16 0) List.length_replicate w153)) rfl rfl (ltb rfl) ?_
      rintro _ w154 ⟨rfl, m151⟩
      refine WL.yes rfl rfl rfl (ltb rfl) rfl rfl ?_
      refine WL.det (op_not rfl) rfl rfl rfl ?_
      refine WL.det (op_pick_f rfl rfl rfl) rfl rfl rfl ?_
      refine WL.det (op_move rfl) rfl rfl rfl ?_
      refine WL.yes rfl rfl rfl (ltb rfl) rfl rfl ?_
      refine WL.det (op_move rfl) rfl rfl rfl ?_
      refine WL.yes rfl rfl rfl (ltb rfl) rfl rfl ?_
      refine WL.det (op_move rfl) rfl rfl rfl ?_
      refine WL.yes rfl rfl rfl (ltb rfl) rfl rfl ?_
      refine WL.det (op_nei rfl rfl) rfl rfl rfl ?_
      refine WL.det (op_pick_f rfl rfl rfl) rfl rfl rfl ?_
      refine WL.end ?_
      refine NE.code ?_
      refine CE.cond_f rfl rfl ?_
      refine CE.skip' ?_
      refine NE.code ?_
      refine CE.seq ?_
      refine CE.region ?_
      refine WL.det (op_assign rfl) rfl rfl rfl ?_
      refine WL.end ?_
      refine NE.code ?_
      refine CE.seq ?_
      refine CE.region ?_
      refine WL.det (op_loadA (i := 0) (cs := [.slice none 0 0, vI 0, .slice none 0 0, vI 0, vI 0, vF 0, vF 0, vF 0, vF 0, vF 0, vI 0, vF 0, vF 0, vF 0, vF 0, vF 0, vF 0, vF 0]) rfl Try.isAgg61 Try.sizeOf61 (((((((((((((r87.ext m140).mod m141 (nC ne13 nN)).ext m142).ext m143).ext m144).ext md3).ext m145).ext m146).ext m147).ext m148).mod m149 (nC (lG (lL (lL r79.lt (lT (lT m135.size m136.size) md2.size)) ge17)) (nC (lG (lL (lL r80.lt (lT (lT m135.size m136.size) md2.size)) ge17)) nN))).ext m150).ext m151).rng rfl rfl rfl) rfl rfl rfl ?_
      refine WL.det (op_move rfl) rfl rfl rfl ?_
      refine WL.call (oc_call (vs := [.agg #[.slice none 0 0, vI 0, .slice none 0 0, vI 0, vI 0, vF 0, vF 0, vF 0, vF 0, vF 0, vI 0, vF 0, vF 0, vF 0, vF 0, vF 0, vF 0, vF 0], vI 1]) (cap := []) rfl rfl rfl Try.call36 (c_markJet_nil (0 : Int) (0 : Int) (0 : Int) 0 0 0 0 0 (0 : Int) 0 0 0 0 0 0 0 1 (by omega) w154)) rfl rfl (ltb rfl) ?_
      rintro _ w155 ⟨rfl, m152⟩
      refine WL.det (op_assign rfl) rfl rfl rfl ?_
      refine WL.end ?_
      refine NE.code ?_
      refine CE.seq ?_
      refine CE.region ?_
      refine WL.det (op_assign rfl) rfl rfl rfl ?_
      refine WL.end ?_
      refine NE.code ?_
      refine CE.seq ?_
      refine CE.region ?_
      refine WL.det (op_loadA (i := 0) (cs := [.slice none 0 0, vI 0, .slice none 0 0, vI 0, vI 0, vF 0, vF 0, vF 0, vF 0, vF 0, vI 0, vF 0, vF 0, vF 0, vF 0, vF 0, vF 0, vF 0]) rfl Try.isAgg61 Try.sizeOf61 ((((((((((((((r87.ext m140).mod m141 (nC ne13 nN)).ext m142).ext m143).ext m144).ext md3).ext m145).ext m146).ext m147).ext m148).mod m149 (nC (lG (lL (lL r79.lt (lT (lT m135.size m136.size) md2.size)) ge17)) (nC (lG (lL (lL r80.lt (lT (lT m135.size m136.size) md2.size)) ge17)) nN))).ext m150).ext m151).ext m152).rng rfl rfl rfl) rfl rfl rfl ?_
      refine WL.det (op_move rfl) rfl rfl rfl ?_
      refine WL.call (oc_call (vs := [.agg #[.slice none 0 0, vI 0, .slice none 0 0, vI 0, vI 0, vF 0, vF 0, vF 0, vF 0, vF 0, vI 0, vF 0, vF 0, vF 0, vF 0, vF 0, vF 0, vF 0], vI 1]) (cap := []) rfl rfl rfl Try.call37 (c_heldJet_nil (0 : Int) (0 : Int) (0 : Int) 0 0 0 0 0 (0 : Int) 0 0 0 0 0 0 0 1 (by omega) w155)) rfl rfl (ltb rfl) ?_
      rintro _ w156 ⟨rfl, m153⟩
      refine WL.det (op_assign rfl) rfl rfl rfl ?_
      refine WL.end ?_
      refine NE.code ?_
      refine CE.seq ?_
      refine CE.seq ?_
      refine CE.region ?_
      refine WL.det (op_move rfl) rfl rfl rfl ?_
      refine WL.det (op_lti rfl rfl) rfl rfl rfl ?_
      refine WL.end ?_
      refine NE.code ?_
      refine CE.cond_f rfl rfl ?_
      refine CE.skip' ?_
      refine NE.code ?_
      refine CE.seq ?_
      refine CE.seq ?_
      refine CE.region ?_
      refine WL.det (op_move rfl) rfl rfl rfl ?_
      refine WL.det (op_move rfl) rfl rfl rfl ?_
      refine WL.det (op_nei rfl rfl) rfl rfl rfl ?_
      refine WL.end ?_
      refine NE.code ?_
      refine CE.cond_f rfl rfl ?_
      refine CE.skip' ?_
      refine NE.code ?_
      refine CE.seq ?_
      refine CE.drawF (fun | 1 => some (fun _ wA uA wB => ∃ (bTr' : Nat) (bBr' : Nat), uA = .agg #[vS bTr' 0 nTr nTr, vI Tj, vS bBr' 0 nBr nBr, vI Bj, vI Lk, vF Lc0, vF Lc1, vF Lc2, vF Ls0, vF Ls1, vI Dk, vF Dc0, vF Dc1, vF Dc2, vF Ds0, vF Ds1, vF ne, vF fa] ∧ Row wB bTr' 0 (fl xTr) ∧ Row wB bBr' 0 (fl xBr) ∧ wA.heap.size ≤ bTr' ∧ wA.heap.size ≤ bBr' ∧ bTr' ≠ bBr' ∧ Mod [] wA wB) | 3 => some (fun _ wA uA wB => uA = .agg (fl bs).toArray ∧ Mod [] wA wB) | 4 => some (fun _ wA uA wB => uA = .tuple #[.agg #[.slice none 0 0, vI 0, .slice none 0 0, vI 0, vI 0, vF 0, vF 0, vF 0, vF 0, vF 0, vI 0, vF 0, vF 0, vF 0, vF 0, vF 0, vF 0, vF 0], .agg (fl (List.replicate 16 0)).toArray, vI 1] ∧ Mod [] wA wB) | _ => none) [0, 1, 2, 3, 4, 5, 6, 7, 8, 9, 10, 11, 12] [13] [] (fun ρ W => ∃ (e4_1_0 : Nat) (e4_1_1 : Nat) (e4_9_0 : Nat) (e4_10_0 : Nat), ρ = [(4, .bool false), (6, vP e1_9_0 0), (7, vP e1_10_0 0), (8, vI 1), (10, vP b1 0), (14, vI 1), (15, vI 1), (16, vP e4_9_0 0), (17, vP e4_10_0 0), (104, vI 1)] ∧ Row W e4_1_0 0 (fl xTr) ∧ Row W e4_1_1 0 (fl xBr) ∧ Row W e4_9_0 0 [.slice none 0 0, vI 0, .slice none 0 0, vI 0, vI 0, vF 0, vF 0, vF 0, vF 0, vF 0, vI 0, vF 0, vF 0, vF 0, vF 0, vF 0, vF 0, vF 0] ∧ Row W e4_10_0 0 (fl (List.replicate 16 0)) ∧ w156.heap.size ≤ e4_1_0 ∧ w156.heap.size ≤ e4_1_1 ∧ w156.heap.size ≤ e4_9_0 ∧ w156.heap.size ≤ e4_10_0 ∧ e4_1_0 ≠ e4_1_1 ∧ e4_1_0 ≠ e4_9_0 ∧ e4_1_0 ≠ e4_10_0 ∧ e4_1_1 ≠ e4_9_0 ∧ e4_1_1 ≠ e4_10_0 ∧ e4_9_0 ≠ e4_10_0 ∧ Mod [] w156 W) (by kernel_rfl) (by kernel_rfl) ?_ ?_
      have md4 : Mod [] w156 w156.drew := (Mod.refl _ _).drew
      generalize w156.drew = w157 at md4 ⊢
      · refine DR.det (i := 0) rfl rfl (by kernel_rfl) (.free rfl) rfl rfl (fun wD mD => op_loadA (i := 0) (cs := [.slice ATr nTr cTr, vI Tj, .slice ABr nBr cBr, vI Bj, vI Lk, vF Lc0, vF Lc1, vF Lc2, vF Ls0, vF Ls1, vI Dk, vF Dc0, vF Dc1, vF Dc2, vF Ds0, vF Ds1, vF ne, vF fa]) rfl Try.isAgg58 Try.sizeOf58 (((((((((((((((((((((((((((r1.ext m2).ext m4).ext m133).ext m134).ext m135).mod m136 (nC (lE (lL (lL r1.lt (lT (lT (lT m2.size m4.size) m133.size) m134.size)) lR)) nN)).ext md2).ext m137).ext m138).mod m139 (nC (lE (lL (lL r1.lt (lT (lT (lT (lT (lT (lT m2.size m4.size) m133.size) m134.size) m135.size) m136.size) md2.size)) ge17)) nN)).ext m140).mod m141 (nC (lE (lL (lL r1.lt (lT (lT (lT (lT (lT (lT m2.size m4.size) m133.size) m134.size) m135.size) m136.size) md2.size)) ge18)) nN)).ext m142).ext m143).ext m144).ext md3).ext m145).ext m146).ext m147).ext m148).mod m149 (nC (lE (lL (lL r1.lt (lT (lT m2.size m4.size) m133.size)) ge15)) (nC (lE (lL (lL r1.lt (lT (lT m2.size m4.size) m133.size)) ge16)) nN))).ext m150).ext m151).ext m152).ext m153).ext md4).ext mD).rng rfl rfl rfl) ?_
        refine DR.det (i := 2) rfl rfl (by kernel_rfl) (.free rfl) rfl rfl (fun wD mD => op_loadA (i := 0) (cs := fl bs) rfl Try.isAgg81 Try.sizeOf81 ((((((((((((((((((((((((((r2.ext m4).ext m133).ext m134).ext m135).mod m136 (nC (lE (lL (lL r2.lt (lT (lT m4.size m133.size) m134.size)) lR)) nN)).ext md2).ext m137).ext m138).mod m139 (nC (lE (lL (lL r2.lt (lT (lT (lT (lT (lT m4.size m133.size) m134.size) m135.size) m136.size) md2.size)) ge17)) nN)).ext m140).mod m141 (nC (lE (lL (lL r2.lt (lT (lT (lT (lT (lT m4.size m133.size) m134.size) m135.size) m136.size) md2.size)) ge18)) nN)).ext m142).ext m143).ext m144).ext md3).ext m145).ext m146).ext m147).ext m148).mod m149 (nC (lE (lL (lL r2.lt (lT m4.size m133.size)) ge15)) (nC (lE (lL (lL r2.lt (lT m4.size m133.size)) ge16)) nN))).ext m150).ext m151).ext m152).ext m153).ext md4).ext mD).rng rfl (fl_whole lb) (fl_len lb)) ?_
        refine DR.fork (is := [1, 9, 10]) (by kernel_rfl) (by decide) (all3 ?_ ?_ ?_)
        · refine DP.call (i := 1) rfl rfl (.free rfl) rfl (ltb rfl) (vs := [.func (.func 32) #[] #[], .agg #[.slice ATr nTr cTr, vI Tj, .slice ABr nBr cBr, vI Bj, vI Lk, vF Lc0, vF Lc1, vF Lc2, vF Ls0, vF Ls1, vI Dk, vF Dc0, vF Dc1, vF Dc2, vF Ds0, vF Ds1, vF ne, vF fa]]) rfl ?_
          intro w158 m154
          refine ⟨oc_call (vs := [.agg #[.slice ATr nTr cTr, vI Tj, .slice ABr nBr cBr, vI Bj, vI Lk, vF Lc0, vF Lc1, vF Lc2, vF Ls0, vF Ls1, vI Dk, vF Dc0, vF Dc1, vF Dc2, vF Ds0, vF Ds1, vF ne, vF fa]]) (cap := []) rfl rfl rfl Try.call32 (c_toJet nTr cTr ATr bTr oTr xTr Tj nBr cBr ABr bBr oBr xBr Bj Lk Lc0 Lc1 Lc2 Ls0 Ls1 Dk Dc0 Dc1 Dc2 Ds0 Ds1 ne fa lnTr hATr lnBr hABr (by omega) (by omega) w158 (((((((Rng.youngS rTr (((((((((Rng.youngS rTr ((Rng.youngS rTr ((((Rng.youngS rTr ((((((rTr.ext m1).ext m2).ext m4).ext m133).ext m134).ext m135) m136 (allge_cons (lT (lT (lT (lT (lT m1.size m2.size) m4.size) m133.size) m134.size) lR) allge_nil)).ext md2).ext m137).ext m138) m139 (allge_cons (lT (lT (lT (lT (lT (lT (lT (lT m1.size m2.size) m4.size) m133.size) m134.size) m135.size) m136.size) md2.size) ge17) allge_nil)).ext m140) m141 (allge_cons (lT (lT (lT (lT (lT (lT (lT (lT m1.size m2.size) m4.size) m133.size) m134.size) m135.size) m136.size) md2.size) ge18) allge_nil)).ext m142).ext m143).ext m144).ext md3).ext m145).ext m146).ext m147).ext m148) m149 (allge_cons (lT (lT (lT (lT m1.size m2.size) m4.size) m133.size) ge15) (allge_cons (lT (lT (lT (lT m1.size m2.size) m4.size) m133.size) ge16) allge_nil))).ext m150).ext m151).ext m152).ext m153).ext md4).ext m154) (((((((Rng.youngS rBr (((((((((Rng.youngS rBr ((Rng.youngS rBr ((((Rng.youngS rBr ((((((rBr.ext m1).ext m2).ext m4).ext m133).ext m134).ext m135) m136 (allge_cons (lT (lT (lT (lT (lT m1.size m2.size) m4.size) m133.size) m134.size) lR) allge_nil)).ext md2).ext m137).ext m138) m139 (allge_cons (lT (lT (lT (lT (lT (lT (lT (lT m1.size m2.size) m4.size) m133.size) m134.size) m135.size) m136.size) md2.size) ge17) allge_nil)).ext m140) m141 (allge_cons (lT (lT (lT (lT (lT (lT (lT (lT m1.size m2.size) m4.size) m133.size) m134.size) m135.size) m136.size) md2.size) ge18) allge_nil)).ext m142).ext m143).ext m144).ext md3).ext m145).ext m146).ext m147).ext m148) m149 (allge_cons (lT (lT (lT (lT m1.size m2.size) m4.size) m133.size) ge15) (allge_cons (lT (lT (lT (lT m1.size m2.size) m4.size) m133.size) ge16) allge_nil))).ext m150).ext m151).ext m152).ext m153).ext md4).ext m154)), ?_⟩
          rintro _ w159 ⟨bTr'8, bBr'8, rfl, r94, r95, ge21, ge22, ne15, m155⟩
          refine ⟨(((Mod.refl [] w157).nt m154).nt m155), ?_⟩
          refine DR.call (i := 3) (fun uA => uA = .agg (fl bs).toArray) rfl rfl (by kernel_rfl) (.free rfl) rfl (ltb rfl) ⟨_, rfl⟩ (vs := [.func (.func 49) #[] #[], .agg (fl bs).toArray]) rfl (fun wD mD => oc_call (vs := [.agg (fl bs).toArray]) (cap := []) rfl rfl rfl Try.call49 (c_toBlock bs lb wD)) ?_ ?_
          · rintro w1 _ w2 m1 ⟨rfl, m2⟩; exact ⟨rfl, m2⟩
          rintro _ rfl
          refine DR.fork (is := [4, 9, 10]) (by kernel_rfl) (by decide) (all3 ?_ ?_ ?_)
          · refine DP.call (i := 4) rfl rfl (.free rfl) rfl (ltb rfl) (vs := [.func (.func 50) #[] #[], .agg #[vS bTr'8 0 nTr nTr, vI Tj, vS bBr'8 0 nBr nBr, vI Bj, vI Lk, vF Lc0, vF Lc1, vF Lc2, vF Ls0, vF Ls1, vI Dk, vF Dc0, vF Dc1, vF Dc2, vF Ds0, vF Ds1, vF ne, vF fa], .agg (fl bs).toArray]) rfl ?_
            intro w160 m156
            refine ⟨oc_call (vs := [.agg #[vS bTr'8 0 nTr nTr, vI Tj, vS bBr'8 0 nBr nBr, vI Bj, vI Lk, vF Lc0, vF Lc1, vF Lc2, vF Ls0, vF Ls1, vI Dk, vF Dc0, vF Dc1, vF Dc2, vF Ds0, vF Ds1, vF ne, vF fa], .agg (fl bs).toArray]) (cap := []) rfl rfl rfl Try.call50 (c_iBlockJet_bad nTr nTr bTr'8 xTr nBr nBr bBr'8 xBr Tj Bj Lk Lc0 Lc1 Lc2 Ls0 Ls1 Dk Dc0 Dc1 Dc2 Ds0 Ds1 ne fa bs lnTr lnBr (by omega) (by omega) (by first | assumption | exact W32.get (by assumption) _ | decide +kernel) (by first | assumption | exact W32.get (by assumption) _ | decide +kernel) (by first | assumption | exact W32.get (by assumption) _ | decide +kernel) (by first | assumption | exact W32.get (by assumption) _ | decide +kernel) lb (by first | assumption | exact W32.set (by assumption) (by first | assumption | exact wid_lt (by assumption)) | exact W32.zeros _ | exact W32.nil) (by assumption) w160 (r94.ext m156).rng (r95.ext m156).rng), ?_⟩
            rintro _ w161 ⟨rfl, m157⟩
            refine ⟨(((((Mod.refl [] w157).nt m154).nt m155).nt m156).nt m157), ?_⟩
            refine DR.det (i := 5) rfl rfl (by kernel_rfl) (.free rfl) rfl rfl (fun wD mD => op_move rfl) ?_
            refine DR.det (i := 6) rfl rfl (by kernel_rfl) (.free rfl) rfl rfl (fun wD mD => op_extract rfl rfl) ?_
            refine DR.det (i := 7) rfl rfl (by kernel_rfl) (.free rfl) rfl rfl (fun wD mD => op_extract rfl rfl) ?_
            refine DR.det (i := 8) rfl rfl (by kernel_rfl) (.free rfl) rfl rfl (fun wD mD => op_extract rfl rfl) ?_
            refine DR.fork (is := [9, 10]) (by kernel_rfl) (by decide) (all2 ?_ ?_)
            · refine DP.op (i := 9) rfl rfl (.free rfl) rfl (ltb rfl) ?_
              intro w162 m158
              refine Op1.mono (op_alloc (cs := [.slice none 0 0, vI 0, .slice none 0 0, vI 0, vI 0, vF 0, vF 0, vF 0, vF 0, vF 0, vI 0, vF 0, vF 0, vF 0, vF 0, vF 0, vF 0, vF 0]) Try.zeroValue61 rfl) ?_
              rintro _ w163 ⟨rfl, r96, m159, z49⟩
              refine ⟨(((((((Mod.refl [] w157).nt m154).nt m155).nt m156).nt m157).nt m158).nt m159), ?_⟩
              refine DR.one1 (i := 10) rfl rfl (by kernel_rfl) (.free rfl) rfl (ltb rfl) ?_
              intro w164 m160
              refine Op1.mono (op_alloc (cs := fl (List.replicate 16 0)) Try.zeroValue82 rfl) ?_
              rintro _ w165 ⟨rfl, r97, m161, z50⟩
              refine ⟨(((((((((Mod.refl [] w157).nt m154).nt m155).nt m156).nt m157).nt m158).nt m159).nt m160).nt m161), ?_⟩
              refine DR.st1 (i := 11) rfl rfl (by kernel_rfl) (.free rfl) rfl ?_
              intro w166 m162
              refine Op1.mono (op_store (i := 0) (cs := [.slice none 0 0, vI 0, .slice none 0 0, vI 0, vI 0, vF 0, vF 0, vF 0, vF 0, vF 0, vI 0, vF 0, vF 0, vF 0, vF 0, vF 0, vF 0, vF 0]) rfl rfl rfl Try.sizeOf61 rfl (((r96.ext m160).ext m161).ext m162) rfl (lB rfl) rfl) ?_
              rintro _ w167 ⟨r98, m163, z51⟩
              have r99 : Row w167 w162.heap.size 0 [.slice none 0 0, vI 0, .slice none 0 0, vI 0, vI 0, vF 0, vF 0, vF 0, vF 0, vF 0, vI 0, vF 0, vF 0, vF 0, vF 0, vF 0, vF 0, vF 0] := Row.congr r98 rfl
              refine ⟨(((((((((((Mod.refl [] w157).nt m154).nt m155).nt m156).nt m157).nt m158).nt m159).nt m160).nt m161).nt m162).then m163 ((aC (.inr (lT (lT (lT (lT (lT m154.size m155.size) m156.size) m157.size) m158.size) lR)) aN))), ?_⟩
              refine DR.st1 (i := 12) rfl rfl (by kernel_rfl) (.free rfl) rfl ?_
              intro w168 m164
              refine Op1.mono (op_store (i := 0) (cs := fl (List.replicate 16 0)) rfl rfl rfl Try.sizeOf82 (fl_len List.length_replicate) (((r97.ext m162).mod m163 (nC (lG (lL (lL r96.lt m160.size) lR)) nN)).ext m164) rfl (by rw [fl_length, List.length_replicate]; decide) (fl_one _)) ?_
              rintro _ w169 ⟨r100, m165, z52⟩
              have r101 : Row w169 w164.heap.size 0 (fl (List.replicate 16 0)) := Row.congr r100 (splice_all ((fl_len (List.length_replicate)).trans (fl_len (List.length_replicate)).symm))
              refine ⟨(((((((((((((Mod.refl [] w157).nt m154).nt m155).nt m156).nt m157).nt m158).nt m159).nt m160).nt m161).nt m162).then m163 ((aC (.inr (lT (lT (lT (lT (lT m154.size m155.size) m156.size) m157.size) m158.size) lR)) aN))).nt m164).then m165 ((aC (.inr (lT (lT (lT (lT (lT (lT (lT m154.size m155.size) m156.size) m157.size) m158.size) m159.size) m160.size) lR)) aN))), ?_⟩
              refine DR.sub [(4, .bool false), (6, vP e1_9_0 0), (7, vP e1_10_0 0), (8, vI 1), (10, vP b1 0), (14, vI 1), (15, vI 1), (16, vP w162.heap.size 0), (17, vP w164.heap.size 0), (104, vI 1)] ⟨rfl, rfl, rfl, rfl, rfl, rfl, rfl, rfl, rfl, rfl, trivial⟩ ?_
              refine DR.meet rfl ?_
              intro w170 m166
              exact ⟨bTr'8, bBr'8, w162.heap.size, w164.heap.size, rfl, (((((((((((r94.ext m156).ext m157).ext m158).ext m159).ext m160).ext m161).ext m162).mod m163 (nC (lE (lL (lL r94.lt (lT (lT m156.size m157.size) m158.size)) lR)) nN)).ext m164).mod m165 (nC (lE (lL (lL r94.lt (lT (lT (lT (lT m156.size m157.size) m158.size) m159.size) m160.size)) lR)) nN)).ext m166), (((((((((((r95.ext m156).ext m157).ext m158).ext m159).ext m160).ext m161).ext m162).mod m163 (nC (lE (lL (lL r95.lt (lT (lT m156.size m157.size) m158.size)) lR)) nN)).ext m164).mod m165 (nC (lE (lL (lL r95.lt (lT (lT (lT (lT m156.size m157.size) m158.size) m159.size) m160.size)) lR)) nN)).ext m166), (((r99.ext m164).mod m165 (nC (lE (lL (lL r96.lt m160.size) lR)) nN)).ext m166), (r101.ext m166), (lT (lT md4.size m154.size) ge21), (lT (lT md4.size m154.size) ge22), (lT (lT (lT (lT (lT (lT md4.size m154.size) m155.size) m156.size) m157.size) m158.size) lR), (lT (lT (lT (lT (lT (lT (lT (lT md4.size m154.size) m155.size) m156.size) m157.size) m158.size) m159.size) m160.size) lR), ne15, (lE (lL (lL r94.lt (lT (lT m156.size m157.size) m158.size)) lR)), (lE (lL (lL r94.lt (lT (lT (lT (lT m156.size m157.size) m158.size) m159.size) m160.size)) lR)), (lE (lL (lL r95.lt (lT (lT m156.size m157.size) m158.size)) lR)), (lE (lL (lL r95.lt (lT (lT (lT (lT m156.size m157.size) m158.size) m159.size) m160.size)) lR)), (lE (lL (lL r96.lt m160.size) lR)), (((((((((((((((Mod.refl [] w156).nt md4).nt m154).nt m155).nt m156).nt m157).nt m158).nt m159).nt m160).nt m161).nt m162).then m163 ((aC (.inr (lT (lT (lT (lT (lT (lT md4.size m154.size) m155.size) m156.size) m157.size) m158.size) lR)) aN))).nt m164).then m165 ((aC (.inr (lT (lT (lT (lT (lT (lT (lT (lT md4.size m154.size) m155.size) m156.size) m157.size) m158.size) m159.size) m160.size) lR)) aN))).nt m166)⟩
            · refine DP.op (i := 10) rfl rfl (.free rfl) rfl (ltb rfl) ?_
              intro w171 m167
              refine Op1.mono (op_alloc (cs := fl (List.replicate 16 0)) Try.zeroValue82 rfl) ?_
              rintro _ w172 ⟨rfl, r102, m168, z53⟩
              refine ⟨(((((((Mod.refl [] w157).nt m154).nt m155).nt m156).nt m157).nt m167).nt m168), ?_⟩
              refine DR.one1 (i := 9) rfl rfl (by kernel_rfl) (.free rfl) rfl (ltb rfl) ?_
              intro w173 m169
              refine Op1.mono (op_alloc (cs := [.slice none 0 0, vI 0, .slice none 0 0, vI 0, vI 0, vF 0, vF 0, vF 0, vF 0, vF 0, vI 0, vF 0, vF 0, vF 0, vF 0, vF 0, vF 0, vF 0]) Try.zeroValue61 rfl) ?_
              rintro _ w174 ⟨rfl, r103, m170, z54⟩
              refine ⟨(((((((((Mod.refl [] w157).nt m154).nt m155).nt m156).nt m157).nt m167).nt m168).nt m169).nt m170), ?_⟩
              refine DR.st1 (i := 11) rfl rfl (by kernel_rfl) (.free rfl) rfl ?_
              intro w175 m171
              refine Op1.mono (op_store (i := 0) (cs := [.slice none 0 0, vI 0, .slice none 0 0, vI 0, vI 0, vF 0, vF 0, vF 0, vF 0, vF 0, vI 0, vF 0, vF 0, vF 0, vF 0, vF 0, vF 0, vF 0]) rfl rfl rfl Try.sizeOf61 rfl (r103.ext m171) rfl (lB rfl) rfl) ?_
              rintro _ w176 ⟨r104, m172, z55⟩
              have r105 : Row w176 w173.heap.size 0 [.slice none 0 0, vI 0, .slice none 0 0, vI 0, vI 0, vF 0, vF 0, vF 0, vF 0, vF 0, vI 0, vF 0, vF 0, vF 0, vF 0, vF 0, vF 0, vF 0] := Row.congr r104 rfl
              refine ⟨(((((((((((Mod.refl [] w157).nt m154).nt m155).nt m156).nt m157).nt m167).nt m168).nt m169).nt m170).nt m171).then m172 ((aC (.inr (lT (lT (lT (lT (lT (lT (lT m154.size m155.size) m156.size) m157.size) m167.size) m168.size) m169.size) lR)) aN))), ?_⟩
              refine DR.st1 (i := 12) rfl rfl (by kernel_rfl) (.free rfl) rfl ?_
              intro w177 m173
              refine Op1.mono (op_store (i := 0) (cs := fl (List.replicate 16 0)) rfl rfl rfl Try.sizeOf82 (fl_len List.length_replicate) (((((r102.ext m169).ext m170).ext m171).mod m172 (nC (lE (lL (lL r102.lt m169.size) lR)) nN)).ext m173) rfl (by rw [fl_length, List.length_replicate]; decide) (fl_one _)) ?_
              rintro _ w178 ⟨r106, m174, z56⟩
              have r107 : Row w178 w171.heap.size 0 (fl (List.replicate 16 0)) := Row.congr r106 (splice_all ((fl_len (List.length_replicate)).trans (fl_len (List.length_replicate)).symm))
              refine ⟨(((((((((((((Mod.refl [] w157).nt m154).nt m155).nt m156).nt m157).nt m167).nt m168).nt m169).nt m170).nt m171).then m172 ((aC (.inr (lT (lT (lT (lT (lT (lT (lT m154.size m155.size) m156.size) m157.size) m167.size) m168.size) m169.size) lR)) aN))).nt m173).then m174 ((aC (.inr (lT (lT (lT (lT (lT m154.size m155.size) m156.size) m157.size) m167.size) lR)) aN))), ?_⟩
              refine DR.sub [(4, .bool false), (6, vP e1_9_0 0), (7, vP e1_10_0 0), (8, vI 1), (10, vP b1 0), (14, vI 1), (15, vI 1), (16, vP w173.heap.size 0), (17, vP w171.heap.size 0), (104, vI 1)] ⟨rfl, rfl, rfl, rfl, rfl, rfl, rfl, rfl, rfl, rfl, trivial⟩ ?_
              refine DR.meet rfl ?_
              intro w179 m175
              exact ⟨bTr'8, bBr'8, w173.heap.size, w171.heap.size, rfl, (((((((((((r94.ext m156).ext m157).ext m167).ext m168).ext m169).ext m170).ext m171).mod m172 (nC (lE (lL (lL r94.lt (lT (lT (lT (lT m156.size m157.size) m167.size) m168.size) m169.size)) lR)) nN)).ext m173).mod m174 (nC (lE (lL (lL r94.lt (lT (lT m156.size m157.size) m167.size)) lR)) nN)).ext m175), (((((((((((r95.ext m156).ext m157).ext m167).ext m168).ext m169).ext m170).ext m171).mod m172 (nC (lE (lL (lL r95.lt (lT (lT (lT (lT m156.size m157.size) m167.size) m168.size) m169.size)) lR)) nN)).ext m173).mod m174 (nC (lE (lL (lL r95.lt (lT (lT m156.size m157.size) m167.size)) lR)) nN)).ext m175), (((r105.ext m173).mod m174 (nC (lG (lL (lL r102.lt m169.size) lR)) nN)).ext m175), (r107.ext m175), (lT (lT md4.size m154.size) ge21), (lT (lT md4.size m154.size) ge22), (lT (lT (lT (lT (lT (lT (lT (lT md4.size m154.size) m155.size) m156.size) m157.size) m167.size) m168.size) m169.size) lR), (lT (lT (lT (lT (lT (lT md4.size m154.size) m155.size) m156.size) m157.size) m167.size) lR), ne15, (lE (lL (lL r94.lt (lT (lT (lT (lT m156.size m157.size) m167.size) m168.size) m169.size)) lR)), (lE (lL (lL r94.lt (lT (lT m156.size m157.size) m167.size)) lR)), (lE (lL (lL r95.lt (lT (lT (lT (lT m156.size m157.size) m167.size) m168.size) m169.size)) lR)), (lE (lL (lL r95.lt (lT (lT m156.size m157.size) m167.size)) lR)), (lG (lL (lL r102.lt m169.size) lR)), (((((((((((((((Mod.refl [] w156).nt md4).nt m154).nt m155).nt m156).nt m157).nt m167).nt m168).nt m169).nt m170).nt m171).then m172 ((aC (.inr (lT (lT (lT (lT (lT (lT (lT (lT md4.size m154.size) m155.size) m156.size) m157.size) m167.size) m168.size) m169.size) lR)) aN))).nt m173).then m174 ((aC (.inr (lT (lT (lT (lT (lT (lT md4.size m154.size) m155.size) m156.size) m157.size) m167.size) lR)) aN))).nt m175)⟩
          · refine DP.op (i := 9) rfl rfl (.free rfl) rfl (ltb rfl) ?_
            intro w180 m176
            refine Op1.mono (op_alloc (cs := [.slice none 0 0, vI 0, .slice none 0 0, vI 0, vI 0, vF 0, vF 0, vF 0, vF 0, vF 0, vI 0, vF 0, vF 0, vF 0, vF 0, vF 0, vF 0, vF 0]) Try.zeroValue61 rfl) ?_
            rintro _ w181 ⟨rfl, r108, m177, z57⟩
            refine ⟨(((((Mod.refl [] w157).nt m154).nt m155).nt m176).nt m177), ?_⟩
            refine DR.fork (is := [4, 10]) (by kernel_rfl) (by decide) (all2 ?_ ?_)
            · refine DP.call (i := 4) rfl rfl (.free rfl) rfl (ltb rfl) (vs := [.func (.func 50) #[] #[], .agg #[vS bTr'8 0 nTr nTr, vI Tj, vS bBr'8 0 nBr nBr, vI Bj, vI Lk, vF Lc0, vF Lc1, vF Lc2, vF Ls0, vF Ls1, vI Dk, vF Dc0, vF Dc1, vF Dc2, vF Ds0, vF Ds1, vF ne, vF fa], .agg (fl bs).toArray]) rfl ?_
              intro w182 m178
              refine ⟨oc_call (vs := [.agg #[vS bTr'8 0 nTr nTr, vI Tj, vS bBr'8 0 nBr nBr, vI Bj, vI Lk, vF Lc0, vF Lc1, vF Lc2, vF Ls0, vF Ls1, vI Dk, vF Dc0, vF Dc1, vF Dc2, vF Ds0, vF Ds1, vF ne, vF fa], .agg (fl bs).toArray]) (cap := []) rfl rfl rfl Try.call50 (c_iBlockJet_bad nTr nTr bTr'8 xTr nBr nBr bBr'8 xBr Tj Bj Lk Lc0 Lc1 Lc2 Ls0 Ls1 Dk Dc0 Dc1 Dc2 Ds0 Ds1 ne fa bs lnTr lnBr (by omega) (by omega) (by first | assumption | exact W32.get (by assumption) _ | decide +kernel) (by first | assumption | exact W32.get (by assumption) _ | decide +kernel) (by first | assumption | exact W32.get (by assumption) _ | decide +kernel) (by first | assumption | exact W32.get (by assumption) _ | decide +kernel) lb (by first | assumption | exact W32.set (by assumption) (by first | assumption | exact wid_lt (by assumption)) | exact W32.zeros _ | exact W32.nil) (by assumption) w182 (((r94.ext m176).ext m177).ext m178).rng (((r95.ext m176).ext m177).ext m178).rng), ?_⟩
              rintro _ w183 ⟨rfl, m179⟩
              refine ⟨(((((((Mod.refl [] w157).nt m154).nt m155).nt m176).nt m177).nt m178).nt m179), ?_⟩
              refine DR.det (i := 5) rfl rfl (by kernel_rfl) (.free rfl) rfl rfl (fun wD mD => op_move rfl) ?_
              refine DR.det (i := 6) rfl rfl (by kernel_rfl) (.free rfl) rfl rfl (fun wD mD => op_extract rfl rfl) ?_
              refine DR.det (i := 7) rfl rfl (by kernel_rfl) (.free rfl) rfl rfl (fun wD mD => op_extract rfl rfl) ?_
              refine DR.det (i := 8) rfl rfl (by kernel_rfl) (.free rfl) rfl rfl (fun wD mD => op_extract rfl rfl) ?_
              refine DR.one1 (i := 10) rfl rfl (by kernel_rfl) (.free rfl) rfl (ltb rfl) ?_
              intro w184 m180
              refine Op1.mono (op_alloc (cs := fl (List.replicate 16 0)) Try.zeroValue82 rfl) ?_
              rintro _ w185 ⟨rfl, r109, m181, z58⟩
              refine ⟨(((((((((Mod.refl [] w157).nt m154).nt m155).nt m176).nt m177).nt m178).nt m179).nt m180).nt m181), ?_⟩
              refine DR.st1 (i := 11) rfl rfl (by kernel_rfl) (.free rfl) rfl ?_
              intro w186 m182
              refine Op1.mono (op_store (i := 0) (cs := [.slice none 0 0, vI 0, .slice none 0 0, vI 0, vI 0, vF 0, vF 0, vF 0, vF 0, vF 0, vI 0, vF 0, vF 0, vF 0, vF 0, vF 0, vF 0, vF 0]) rfl rfl rfl Try.sizeOf61 rfl (((((r108.ext m178).ext m179).ext m180).ext m181).ext m182) rfl (lB rfl) rfl) ?_
              rintro _ w187 ⟨r110, m183, z59⟩
              have r111 : Row w187 w180.heap.size 0 [.slice none 0 0, vI 0, .slice none 0 0, vI 0, vI 0, vF 0, vF 0, vF 0, vF 0, vF 0, vI 0, vF 0, vF 0, vF 0, vF 0, vF 0, vF 0, vF 0] := Row.congr r110 rfl
              refine ⟨(((((((((((Mod.refl [] w157).nt m154).nt m155).nt m176).nt m177).nt m178).nt m179).nt m180).nt m181).nt m182).then m183 ((aC (.inr (lT (lT (lT m154.size m155.size) m176.size) lR)) aN))), ?_⟩
              refine DR.st1 (i := 12) rfl rfl (by kernel_rfl) (.free rfl) rfl ?_
              intro w188 m184
              refine Op1.mono (op_store (i := 0) (cs := fl (List.replicate 16 0)) rfl rfl rfl Try.sizeOf82 (fl_len List.length_replicate) (((r109.ext m182).mod m183 (nC (lG (lL (lL r108.lt (lT (lT m178.size m179.size) m180.size)) lR)) nN)).ext m184) rfl (by rw [fl_length, List.length_replicate]; decide) (fl_one _)) ?_
              rintro _ w189 ⟨r112, m185, z60⟩
              have r113 : Row w189 w184.heap.size 0 (fl (List.replicate 16 0)) := Row.congr r112 (splice_all ((fl_len (List.length_replicate)).trans (fl_len (List.length_replicate)).symm))
              refine ⟨(((((((((((((Mod.refl [] w157).nt m154).nt m155).nt m176).nt m177).nt m178).nt m179).nt m180).nt m181).nt m182).then m183 ((aC (.inr (lT (lT (lT m154.size m155.size) m176.size) lR)) aN))).nt m184).then m185 ((aC (.inr (lT (lT (lT (lT (lT (lT (lT m154.size m155.size) m176.size) m177.size) m178.size) m179.size) m180.size) lR)) aN))), ?_⟩
              refine DR.sub [(4, .bool false), (6, vP e1_9_0 0), (7, vP e1_10_0 0), (8, vI 1), (10, vP b1 0), (14, vI 1), (15, vI 1), (16, vP w180.heap.size 0), (17, vP w184.heap.size 0), (104, vI 1)] ⟨rfl, rfl, rfl, rfl, rfl, rfl, rfl, rfl, rfl, rfl, trivial⟩ ?_
              refine DR.meet rfl ?_
              intro w190 m186
              exact ⟨bTr'8, bBr'8, w180.heap.size, w184.heap.size, rfl, (((((((((((r94.ext m176).ext m177).ext m178).ext m179).ext m180).ext m181).ext m182).mod m183 (nC (lE (lL (lL r94.lt m176.size) lR)) nN)).ext m184).mod m185 (nC (lE (lL (lL r94.lt (lT (lT (lT (lT m176.size m177.size) m178.size) m179.size) m180.size)) lR)) nN)).ext m186), (((((((((((r95.ext m176).ext m177).ext m178).ext m179).ext m180).ext m181).ext m182).mod m183 (nC (lE (lL (lL r95.lt m176.size) lR)) nN)).ext m184).mod m185 (nC (lE (lL (lL r95.lt (lT (lT (lT (lT m176.size m177.size) m178.size) m179.size) m180.size)) lR)) nN)).ext m186), (((r111.ext m184).mod m185 (nC (lE (lL (lL r108.lt (lT (lT m178.size m179.size) m180.size)) lR)) nN)).ext m186), (r113.ext m186), (lT (lT md4.size m154.size) ge21), (lT (lT md4.size m154.size) ge22), (lT (lT (lT (lT md4.size m154.size) m155.size) m176.size) lR), (lT (lT (lT (lT (lT (lT (lT (lT md4.size m154.size) m155.size) m176.size) m177.size) m178.size) m179.size) m180.size) lR), ne15, (lE (lL (lL r94.lt m176.size) lR)), (lE (lL (lL r94.lt (lT (lT (lT (lT m176.size m177.size) m178.size) m179.size) m180.size)) lR)), (lE (lL (lL r95.lt m176.size) lR)), (lE (lL (lL r95.lt (lT (lT (lT (lT m176.size m177.size) m178.size) m179.size) m180.size)) lR)), (lE (lL (lL r108.lt (lT (lT m178.size m179.size) m180.size)) lR)), (((((((((((((((Mod.refl [] w156).nt md4).nt m154).nt m155).nt m176).nt m177).nt m178).nt m179).nt m180).nt m181).nt m182).then m183 ((aC (.inr (lT (lT (lT (lT md4.size m154.size) m155.size) m176.size) lR)) aN))).nt m184).then m185 ((aC (.inr (lT (lT (lT (lT (lT (lT (lT (lT md4.size m154.size) m155.size) m176.size) m177.size) m178.size) m179.size) m180.size) lR)) aN))).nt m186)⟩
            · refine DP.op (i := 10) rfl rfl (.free rfl) rfl (ltb rfl) ?_
              intro w191 m187
              refine Op1.mono (op_alloc (cs := fl (List.replicate 16 0)) Try.zeroValue82 rfl) ?_
              rintro _ w192 ⟨rfl, r114, m188, z61⟩
              refine ⟨(((((((Mod.refl [] w157).nt m154).nt m155).nt m176).nt m177).nt m187).nt m188), ?_⟩
              refine DR.one (i := 4) rfl rfl (by kernel_rfl) (.free rfl) rfl (ltb rfl) (vs := [.func (.func 50) #[] #[], .agg #[vS bTr'8 0 nTr nTr, vI Tj, vS bBr'8 0 nBr nBr, vI Bj, vI Lk, vF Lc0, vF Lc1, vF Lc2, vF Ls0, vF Ls1, vI Dk, vF Dc0, vF Dc1, vF Dc2, vF Ds0, vF Ds1, vF ne, vF fa], .agg (fl bs).toArray]) rfl ?_
              intro w193 m189
              refine ⟨oc_call (vs := [.agg #[vS bTr'8 0 nTr nTr, vI Tj, vS bBr'8 0 nBr nBr, vI Bj, vI Lk, vF Lc0, vF Lc1, vF Lc2, vF Ls0, vF Ls1, vI Dk, vF Dc0, vF Dc1, vF Dc2, vF Ds0, vF Ds1, vF ne, vF fa], .agg (fl bs).toArray]) (cap := []) rfl rfl rfl Try.call50 (c_iBlockJet_bad nTr nTr bTr'8 xTr nBr nBr bBr'8 xBr Tj Bj Lk Lc0 Lc1 Lc2 Ls0 Ls1 Dk Dc0 Dc1 Dc2 Ds0 Ds1 ne fa bs lnTr lnBr (by omega) (by omega) (by first | assumption | exact W32.get (by assumption) _ | decide +kernel) (by first | assumption | exact W32.get (by assumption) _ | decide +kernel) (by first | assumption | exact W32.get (by assumption) _ | decide +kernel) (by first | assumption | exact W32.get (by assumption) _ | decide +kernel) lb (by first | assumption | exact W32.set (by assumption) (by first | assumption | exact wid_lt (by assumption)) | exact W32.zeros _ | exact W32.nil) (by assumption) w193 (((((r94.ext m176).ext m177).ext m187).ext m188).ext m189).rng (((((r95.ext m176).ext m177).ext m187).ext m188).ext m189).rng), ?_⟩
              rintro _ w194 ⟨rfl, m190⟩
              refine ⟨(((((((((Mod.refl [] w157).nt m154).nt m155).nt m176).nt m177).nt m187).nt m188).nt m189).nt m190), ?_⟩
              refine DR.det (i := 5) rfl rfl (by kernel_rfl) (.free rfl) rfl rfl (fun wD mD => op_move rfl) ?_
              refine DR.det (i := 6) rfl rfl (by kernel_rfl) (.free rfl) rfl rfl (fun wD mD => op_extract rfl rfl) ?_
              refine DR.det (i := 7) rfl rfl (by kernel_rfl) (.free rfl) rfl rfl (fun wD mD => op_extract rfl rfl) ?_
              refine DR.det (i := 8) rfl rfl (by kernel_rfl) (.free rfl) rfl rfl (fun wD mD => op_extract rfl rfl) ?_
              refine DR.st1 (i := 11) rfl rfl (by kernel_rfl) (.free rfl) rfl ?_
              intro w195 m191
              refine Op1.mono (op_store (i := 0) (cs := [.slice none 0 0, vI 0, .slice none 0 0, vI 0, vI 0, vF 0, vF 0, vF 0, vF 0, vF 0, vI 0, vF 0, vF 0, vF 0, vF 0, vF 0, vF 0, vF 0]) rfl rfl rfl Try.sizeOf61 rfl (((((r108.ext m187).ext m188).ext m189).ext m190).ext m191) rfl (lB rfl) rfl) ?_
              rintro _ w196 ⟨r115, m192, z62⟩
              have r116 : Row w196 w180.heap.size 0 [.slice none 0 0, vI 0, .slice none 0 0, vI 0, vI 0, vF 0, vF 0, vF 0, vF 0, vF 0, vI 0, vF 0, vF 0, vF 0, vF 0, vF 0, vF 0, vF 0] := Row.congr r115 rfl
              refine ⟨(((((((((((Mod.refl [] w157).nt m154).nt m155).nt m176).nt m177).nt m187).nt m188).nt m189).nt m190).nt m191).then m192 ((aC (.inr (lT (lT (lT m154.size m155.size) m176.size) lR)) aN))), ?_⟩
              refine DR.st1 (i := 12) rfl rfl (by kernel_rfl) (.free rfl) rfl ?_
              intro w197 m193
              refine Op1.mono (op_store (i := 0) (cs := fl (List.replicate 16 0)) rfl rfl rfl Try.sizeOf82 (fl_len List.length_replicate) (((((r114.ext m189).ext m190).ext m191).mod m192 (nC (lG (lL (lL r108.lt m187.size) lR)) nN)).ext m193) rfl (by rw [fl_length, List.length_replicate]; decide) (fl_one _)) ?_
              rintro _ w198 ⟨r117, m194, z63⟩
              have r118 : Row w198 w191.heap.size 0 (fl (List.replicate 16 0)) := Row.congr r117 (splice_all ((fl_len (List.length_replicate)).trans (fl_len (List.length_replicate)).symm))
              refine ⟨(((((((((((((Mod.refl [] w157).nt m154).nt m155).nt m176).nt m177).nt m187).nt m188).nt m189).nt m190).nt m191).then m192 ((aC (.inr (lT (lT (lT m154.size m155.size) m176.size) lR)) aN))).nt m193).then m194 ((aC (.inr (lT (lT (lT (lT (lT m154.size m155.size) m176.size) m177.size) m187.size) lR)) aN))), ?_⟩
              refine DR.sub [(4, .bool false), (6, vP e1_9_0 0), (7, vP e1_10_0 0), (8, vI 1), (10, vP b1 0), (14, vI 1), (15, vI 1), (16, vP w180.heap.size 0), (17, vP w191.heap.size 0), (104, vI 1)] ⟨rfl, rfl, rfl, rfl, rfl, rfl, rfl, rfl, rfl, rfl, trivial⟩ ?_
              refine DR.meet rfl ?_
              intro w199 m195
              exact ⟨bTr'8, bBr'8, w180.heap.size, w191.heap.size, rfl, (((((((((((r94.ext m176).ext m177).ext m187).ext m188).ext m189).ext m190).ext m191).mod m192 (nC (lE (lL (lL r94.lt m176.size) lR)) nN)).ext m193).mod m194 (nC (lE (lL (lL r94.lt (lT (lT m176.size m177.size) m187.size)) lR)) nN)).ext m195), (((((((((((r95.ext m176).ext m177).ext m187).ext m188).ext m189).ext m190).ext m191).mod m192 (nC (lE (lL (lL r95.lt m176.size) lR)) nN)).ext m193).mod m194 (nC (lE (lL (lL r95.lt (lT (lT m176.size m177.size) m187.size)) lR)) nN)).ext m195), (((r116.ext m193).mod m194 (nC (lE (lL (lL r108.lt m187.size) lR)) nN)).ext m195), (r118.ext m195), (lT (lT md4.size m154.size) ge21), (lT (lT md4.size m154.size) ge22), (lT (lT (lT (lT md4.size m154.size) m155.size) m176.size) lR), (lT (lT (lT (lT (lT (lT md4.size m154.size) m155.size) m176.size) m177.size) m187.size) lR), ne15, (lE (lL (lL r94.lt m176.size) lR)), (lE (lL (lL r94.lt (lT (lT m176.size m177.size) m187.size)) lR)), (lE (lL (lL r95.lt m176.size) lR)), (lE (lL (lL r95.lt (lT (lT m176.size m177.size) m187.size)) lR)), (lE (lL (lL r108.lt m187.size) lR)), (((((((((((((((Mod.refl [] w156).nt md4).nt m154).nt m155).nt m176).nt m177).nt m187).nt m188).nt m189).nt m190).nt m191).then m192 ((aC (.inr (lT (lT (lT (lT md4.size m154.size) m155.size) m176.size) lR)) aN))).nt m193).then m194 ((aC (.inr (lT (lT (lT (lT (lT (lT md4.size m154.size) m155.size) m176.size) m177.size) m187.size) lR)) aN))).nt m195)⟩
          · refine DP.op (i := 10) rfl rfl (.free rfl) rfl (ltb rfl) ?_
            intro w200 m196
            refine Op1.mono (op_alloc (cs := fl (List.replicate 16 0)) Try.zeroValue82 rfl) ?_
            rintro _ w201 ⟨rfl, r119, m197, z64⟩
            refine ⟨(((((Mod.refl [] w157).nt m154).nt m155).nt m196).nt m197), ?_⟩
            refine DR.fork (is := [4, 9]) (by kernel_rfl) (by decide) (all2 ?_ ?_)
            · refine DP.call (i := 4) rfl rfl (.free rfl) rfl (ltb rfl) (vs := [.func (.func 50) #[] #[], .agg #[vS bTr'8 0 nTr nTr, vI Tj, vS bBr'8 0 nBr nBr, vI Bj, vI Lk, vF Lc0, vF Lc1, vF Lc2, vF Ls0, vF Ls1, vI Dk, vF Dc0, vF Dc1, vF Dc2, vF Ds0, vF Ds1, vF ne, vF fa], .agg (fl bs).toArray]) rfl ?_
              intro w202 m198
              refine ⟨oc_call (vs := [.agg #[vS bTr'8 0 nTr nTr, vI Tj, vS bBr'8 0 nBr nBr, vI Bj, vI Lk, vF Lc0, vF Lc1, vF Lc2, vF Ls0, vF Ls1, vI Dk, vF Dc0, vF Dc1, vF Dc2, vF Ds0, vF Ds1, vF ne, vF fa], .agg (fl bs).toArray]) (cap := []) rfl rfl rfl Try.call50 (c_iBlockJet_bad nTr nTr bTr'8 xTr nBr nBr bBr'8 xBr Tj Bj Lk Lc0 Lc1 Lc2 Ls0 Ls1 Dk Dc0 Dc1 Dc2 Ds0 Ds1 ne fa bs lnTr lnBr (by omega) (by omega) (by first | assumption | exact W32.get (by assumption) _ | decide +kernel) (by first | assumption | exact W32.get (by assumption) _ | decide +kernel) (by first | assumption | exact W32.get (by assumption) _ | decide +kernel) (by first | assumption | exact W32.get (by assumption) _ | decide +kernel) lb (by first | assumption | exact W32.set (by assumption) (by first | assumption | exact wid_lt (by assumption)) | exact W32.zeros _ | exact W32.nil) (by assumption) w202 (((r94.ext m196).ext m197).ext m198).rng (((r95.ext m196).ext m197).ext m198).rng), ?_⟩
              rintro _ w203 ⟨rfl, m199⟩
              refine ⟨(((((((Mod.refl [] w157).nt m154).nt m155).nt m196).nt m197).nt m198).nt m199), ?_⟩
              refine DR.det (i := 5) rfl rfl (by kernel_rfl) (.free rfl) rfl rfl (fun wD mD => op_move rfl) ?_
              refine DR.det (i := 6) rfl rfl (by kernel_rfl) (.free rfl) rfl rfl (fun wD mD => op_extract rfl rfl) ?_
              refine DR.det (i := 7) rfl rfl (by kernel_rfl) (.free rfl) rfl rfl (fun wD mD => op_extract rfl rfl) ?_
              refine DR.det (i := 8) rfl rfl (by kernel_rfl) (.free rfl) rfl rfl (fun wD mD => op_extract rfl rfl) ?_
              refine DR.one1 (i := 9) rfl rfl (by kernel_rfl) (.free rfl) rfl (ltb rfl) ?_
              intro w204 m200
              refine Op1.mono (op_alloc (cs := [.slice none 0 0, vI 0, .slice none 0 0, vI 0, vI 0, vF 0, vF 0, vF 0, vF 0, vF 0, vI 0, vF 0, vF 0, vF 0, vF 0, vF 0, vF 0, vF 0]) Try.zeroValue61 rfl) ?_
              rintro _ w205 ⟨rfl, r120, m201, z65⟩
              refine ⟨(((((((((Mod.refl [] w157).nt m154).nt m155).nt m196).nt m197).nt m198).nt m199).nt m200).nt m201), ?_⟩
              refine DR.st1 (i := 11) rfl rfl (by kernel_rfl) (.free rfl) rfl ?_
              intro w206 m202
              refine Op1.mono (op_store (i := 0) (cs := [.slice none 0 0, vI 0, .slice none 0 0, vI 0, vI 0, vF 0, vF 0, vF 0, vF 0, vF 0, vI 0, vF 0, vF 0, vF 0, vF 0, vF 0, vF 0, vF 0]) rfl rfl rfl Try.sizeOf61 rfl (r120.ext m202) rfl (lB rfl) rfl) ?_
              rintro _ w207 ⟨r121, m203, z66⟩
              have r122 : Row w207 w204.heap.size 0 [.slice none 0 0, vI 0, .slice none 0 0, vI 0, vI 0, vF 0, vF 0, vF 0, vF 0, vF 0, vI 0, vF 0, vF 0, vF 0, vF 0, vF 0, vF 0, vF 0] := Row.congr r121 rfl
              refine ⟨(((((((((((Mod.refl [] w157).nt m154).nt m155).nt m196).nt m197).nt m198).nt m199).nt m200).nt m201).nt m202).then m203 ((aC (.inr (lT (lT (lT (lT (lT (lT (lT m154.size m155.size) m196.size) m197.size) m198.size) m199.size) m200.size) lR)) aN))), ?_⟩
              refine DR.st1 (i := 12) rfl rfl (by kernel_rfl) (.free rfl) rfl ?_
              intro w208 m204
              refine Op1.mono (op_store (i := 0) (cs := fl (List.replicate 16 0)) rfl rfl rfl Try.sizeOf82 (fl_len List.length_replicate) (((((((r119.ext m198).ext m199).ext m200).ext m201).ext m202).mod m203 (nC (lE (lL (lL r119.lt (lT (lT m198.size m199.size) m200.size)) lR)) nN)).ext m204) rfl (by rw [fl_length, List.length_replicate]; decide) (fl_one _)) ?_
              rintro _ w209 ⟨r123, m205, z67⟩
              have r124 : Row w209 w200.heap.size 0 (fl (List.replicate 16 0)) := Row.congr r123 (splice_all ((fl_len (List.length_replicate)).trans (fl_len (List.length_replicate)).symm))
              refine ⟨(((((((((((((Mod.refl [] w157).nt m154).nt m155).nt m196).nt m197).nt m198).nt m199).nt m200).nt m201).nt m202).then m203 ((aC (.inr (lT (lT (lT (lT (lT (lT (lT m154.size m155.size) m196.size) m197.size) m198.size) m199.size) m200.size) lR)) aN))).nt m204).then m205 ((aC (.inr (lT (lT (lT m154.size m155.size) m196.size) lR)) aN))), ?_⟩
              refine DR.sub [(4, .bool false), (6, vP e1_9_0 0), (7, vP e1_10_0 0), (8, vI 1), (10, vP b1 0), (14, vI 1), (15, vI 1), (16, vP w204.heap.size 0), (17, vP w200.heap.size 0), (104, vI 1)] ⟨rfl, rfl, rfl, rfl, rfl, rfl, rfl, rfl, rfl, rfl, trivial⟩ ?_
              refine DR.meet rfl ?_
              intro w210 m206
              exact ⟨bTr'8, bBr'8, w204.heap.size, w200.heap.size, rfl, (((((((((((r94.ext m196).ext m197).ext m198).ext m199).ext m200).ext m201).ext m202).mod m203 (nC (lE (lL (lL r94.lt (lT (lT (lT (lT m196.size m197.size) m198.size) m199.size) m200.size)) lR)) nN)).ext m204).mod m205 (nC (lE (lL (lL r94.lt m196.size) lR)) nN)).ext m206), (((((((((((r95.ext m196).ext m197).ext m198).ext m199).ext m200).ext m201).ext m202).mod m203 (nC (lE (lL (lL r95.lt (lT (lT (lT (lT m196.size m197.size) m198.size) m199.size) m200.size)) lR)) nN)).ext m204).mod m205 (nC (lE (lL (lL r95.lt m196.size) lR)) nN)).ext m206), (((r122.ext m204).mod m205 (nC (lG (lL (lL r119.lt (lT (lT m198.size m199.size) m200.size)) lR)) nN)).ext m206), (r124.ext m206), (lT (lT md4.size m154.size) ge21), (lT (lT md4.size m154.size) ge22), (lT (lT (lT (lT (lT (lT (lT (lT md4.size m154.size) m155.size) m196.size) m197.size) m198.size) m199.size) m200.size) lR), (lT (lT (lT (lT md4.size m154.size) m155.size) m196.size) lR), ne15, (lE (lL (lL r94.lt (lT (lT (lT (lT m196.size m197.size) m198.size) m199.size) m200.size)) lR)), (lE (lL (lL r94.lt m196.size) lR)), (lE (lL (lL r95.lt (lT (lT (lT (lT m196.size m197.size) m198.size) m199.size) m200.size)) lR)), (lE (lL (lL r95.lt m196.size) lR)), (lG (lL (lL r119.lt (lT (lT m198.size m199.size) m200.size)) lR)), (((((((((((((((Mod.refl [] w156).nt md4).nt m154).nt m155).nt m196).nt m197).nt m198).nt m199).nt m200).nt m201).nt m202).then m203 ((aC (.inr (lT (lT (lT (lT (lT (lT (lT (lT md4.size m154.size) m155.size) m196.size) m197.size) m198.size) m199.size) m200.size) lR)) aN))).nt m204).then m205 ((aC (.inr (lT (lT (lT (lT md4.size m154.size) m155.size) m196.size) lR)) aN))).nt m206)⟩
            · refine DP.op (i := 9) rfl rfl (.free rfl) rfl (ltb rfl) ?_
              intro w211 m207
              refine Op1.mono (op_alloc (cs := [.slice none 0 0, vI 0, .slice none 0 0, vI 0, vI 0, vF 0, vF 0, vF 0, vF 0, vF 0, vI 0, vF 0, vF 0, vF 0, vF 0, vF 0, vF 0, vF 0]) Try.zeroValue61 rfl) ?_
              rintro _ w212 ⟨rfl, r125, m208, z68⟩
              refine ⟨(((((((Mod.refl [] w157).nt m154).nt m155).nt m196).nt m197).nt m207).nt m208), ?_⟩
              refine DR.one (i := 4) rfl rfl (by kernel_rfl) (.free rfl) rfl (ltb rfl) (vs := [.func (.func 50) #[] #[], .agg #[vS bTr'8 0 nTr nTr, vI Tj, vS bBr'8 0 nBr nBr, vI Bj, vI Lk, vF Lc0, vF Lc1, vF Lc2, vF Ls0, vF Ls1, vI Dk, vF Dc0, vF Dc1, vF Dc2, vF Ds0, vF Ds1, vF ne, vF fa], .agg (fl bs).toArray]) rfl ?_
              intro w213 m209
              refine ⟨oc_call (vs := [.agg #[vS bTr'8 0 nTr nTr, vI Tj, vS bBr'8 0 nBr nBr, vI Bj, vI Lk, vF Lc0, vF Lc1, vF Lc2, vF Ls0, vF Ls1, vI Dk, vF Dc0, vF Dc1, vF Dc2, vF Ds0, vF Ds1, vF ne, vF fa], .agg (fl bs).toArray]) (cap := []) rfl rfl rfl Try.call50 (c_iBlockJet_bad nTr nTr bTr'8 xTr nBr nBr bBr'8 xBr Tj Bj Lk Lc0 Lc1 Lc2 Ls0 Ls1 Dk Dc0 Dc1 Dc2 Ds0 Ds1 ne fa bs lnTr lnBr (by omega) (by omega) (by first | assumption | exact W32.get (by assumption) _ | decide +kernel) (by first | assumption | exact W32.get (by assumption) _ | decide +kernel) (by first | assumption | exact W32.get (by assumption) _ | decide +kernel) (by first | assumption | exact W32.get (by assumption) _ | decide +kernel) lb (by first | assumption | exact W32.set (by assumption) (by first | assumption | exact wid_lt (by assumption)) | exact W32.zeros _ | exact W32.nil) (by assumption) w213 (((((r94.ext m196).ext m197).ext m207).ext m208).ext m209).rng (((((r95.ext m196).ext m197).ext m207).ext m208).ext m209).rng), ?_⟩
              rintro _ w214 ⟨rfl, m210⟩
              refine ⟨(((((((((Mod.refl [] w157).nt m154).nt m155).nt m196).nt m197).nt m207).nt m208).nt m209).nt m210), ?_⟩
              refine DR.det (i := 5) rfl rfl (by kernel_rfl) (.free rfl) rfl rfl (fun wD mD => op_move rfl) ?_
              refine DR.det (i := 6) rfl rfl (by kernel_rfl) (.free rfl) rfl rfl (fun wD mD => op_extract rfl rfl) ?_
              refine DR.det (i := 7) rfl rfl (by kernel_rfl) (.free rfl) rfl rfl (fun wD mD => op_extract rfl rfl) ?_
              refine DR.det (i := 8) rfl rfl (by kernel_rfl) (.free rfl) rfl rfl (fun wD mD => op_extract rfl rfl) ?_
              refine DR.st1 (i := 11) rfl rfl (by kernel_rfl) (.free rfl) rfl ?_
              intro w215 m211
              refine Op1.mono (op_store (i := 0) (cs := [.slice none 0 0, vI 0, .slice none 0 0, vI 0, vI 0, vF 0, vF 0, vF 0, vF 0, vF 0, vI 0, vF 0, vF 0, vF 0, vF 0, vF 0, vF 0, vF 0]) rfl rfl rfl Try.sizeOf61 rfl (((r125.ext m209).ext m210).ext m211) rfl (lB rfl) rfl) ?_
              rintro _ w216 ⟨r126, m212, z69⟩
              have r127 : Row w216 w211.heap.size 0 [.slice none 0 0, vI 0, .slice none 0 0, vI 0, vI 0, vF 0, vF 0, vF 0, vF 0, vF 0, vI 0, vF 0, vF 0, vF 0, vF 0, vF 0, vF 0, vF 0] := Row.congr r126 rfl
              refine ⟨(((((((((((Mod.refl [] w157).nt m154).nt m155).nt m196).nt m197).nt m207).nt m208).nt m209).nt m210).nt m211).then m212 ((aC (.inr (lT (lT (lT (lT (lT m154.size m155.size) m196.size) m197.size) m207.size) lR)) aN))), ?_⟩
              refine DR.st1 (i := 12) rfl rfl (by kernel_rfl) (.free rfl) rfl ?_
              intro w217 m213
              refine Op1.mono (op_store (i := 0) (cs := fl (List.replicate 16 0)) rfl rfl rfl Try.sizeOf82 (fl_len List.length_replicate) (((((((r119.ext m207).ext m208).ext m209).ext m210).ext m211).mod m212 (nC (lE (lL (lL r119.lt m207.size) lR)) nN)).ext m213) rfl (by rw [fl_length, List.length_replicate]; decide) (fl_one _)) ?_
              rintro _ w218 ⟨r128, m214, z70⟩
              have r129 : Row w218 w200.heap.size 0 (fl (List.replicate 16 0)) := Row.congr r128 (splice_all ((fl_len (List.length_replicate)).trans (fl_len (List.length_replicate)).symm))
              refine ⟨(((((((((((((Mod.refl [] w157).nt m154).nt m155).nt m196).nt m197).nt m207).nt m208).nt m209).nt m210).nt m211).then m212 ((aC (.inr (lT (lT (lT (lT (lT m154.size m155.size) m196.size) m197.size) m207.size) lR)) aN))).nt m213).then m214 ((aC (.inr (lT (lT (lT m154.size m155.size) m196.size) lR)) aN))), ?_⟩
              refine DR.sub [(4, .bool false), (6, vP e1_9_0 0), (7, vP e1_10_0 0), (8, vI 1), (10, vP b1 0), (14, vI 1), (15, vI 1), (16, vP w211.heap.size 0), (17, vP w200.heap.size 0), (104, vI 1)] ⟨rfl, rfl, rfl, rfl, rfl, rfl, rfl, rfl, rfl, rfl, trivial⟩ ?_
              refine DR.meet rfl ?_
              intro w219 m215
              exact ⟨bTr'8, bBr'8, w211.heap.size, w200.heap.size, rfl, (((((((((((r94.ext m196).ext m197).ext m207).ext m208).ext m209).ext m210).ext m211).mod m212 (nC (lE (lL (lL r94.lt (lT (lT m196.size m197.size) m207.size)) lR)) nN)).ext m213).mod m214 (nC (lE (lL (lL r94.lt m196.size) lR)) nN)).ext m215), (((((((((((r95.ext m196).ext m197).ext m207).ext m208).ext m209).ext m210).ext m211).mod m212 (nC (lE (lL (lL r95.lt (lT (lT m196.size m197.size) m207.size)) lR)) nN)).ext m213).mod m214 (nC (lE (lL (lL r95.lt m196.size) lR)) nN)).ext m215), (((r127.ext m213).mod m214 (nC (lG (lL (lL r119.lt m207.size) lR)) nN)).ext m215), (r129.ext m215), (lT (lT md4.size m154.size) ge21), (lT (lT md4.size m154.size) ge22), (lT (lT (lT (lT (lT (lT md4.size m154.size) m155.size) m196.size) m197.size) m207.size) lR), (lT (lT (lT (lT md4.size m154.size) m155.size) m196.size) lR), ne15, (lE (lL (lL r94.lt (lT (lT m196.size m197.size) m207.size)) lR)), (lE (lL (lL r94.lt m196.size) lR)), (lE (lL (lL r95.lt (lT (lT m196.size m197.size) m207.size)) lR)), (lE (lL (lL r95.lt m196.size) lR)), (lG (lL (lL r119.lt m207.size) lR)), (((((((((((((((Mod.refl [] w156).nt md4).nt m154).nt m155).nt m196).nt m197).nt m207).nt m208).nt m209).nt m210).nt m211).then m212 ((aC (.inr (lT (lT (lT (lT (lT (lT md4.size m154.size) m155.size) m196.size) m197.size) m207.size) lR)) aN))).nt m213).then m214 ((aC (.inr (lT (lT (lT (lT md4.size m154.size) m155.size) m196.size) lR)) aN))).nt m215)⟩
        · refine DP.op (i := 9) rfl rfl (.free rfl) rfl (ltb rfl) ?_
          intro w220 m216
          refine Op1.mono (op_alloc (cs := [.slice none 0 0, vI 0, .slice none 0 0, vI 0, vI 0, vF 0, vF 0, vF 0, vF 0, vF 0, vI 0, vF 0, vF 0, vF 0, vF 0, vF 0, vF 0, vF 0]) Try.zeroValue61 rfl) ?_
          rintro _ w221 ⟨rfl, r130, m217, z71⟩
          refine ⟨(((Mod.refl [] w157).nt m216).nt m217), ?_⟩
          refine DR.fork (is := [1, 10]) (by kernel_rfl) (by decide) (all2 ?_ ?_)
          · refine DP.call (i := 1) rfl rfl (.free rfl) rfl (ltb rfl) (vs := [.func (.func 32) #[] #[], .agg #[.slice ATr nTr cTr, vI Tj, .slice ABr nBr cBr, vI Bj, vI Lk, vF Lc0, vF Lc1, vF Lc2, vF Ls0, vF Ls1, vI Dk, vF Dc0, vF Dc1, vF Dc2, vF Ds0, vF Ds1, vF ne, vF fa]]) rfl ?_
            intro w222 m218
            refine ⟨oc_call (vs := [.agg #[.slice ATr nTr cTr, vI Tj, .slice ABr nBr cBr, vI Bj, vI Lk, vF Lc0, vF Lc1, vF Lc2, vF Ls0, vF Ls1, vI Dk, vF Dc0, vF Dc1, vF Dc2, vF Ds0, vF Ds1, vF ne, vF fa]]) (cap := []) rfl rfl rfl Try.call32 (c_toJet nTr cTr ATr bTr oTr xTr Tj nBr cBr ABr bBr oBr xBr Bj Lk Lc0 Lc1 Lc2 Ls0 Ls1 Dk Dc0 Dc1 Dc2 Ds0 Ds1 ne fa lnTr hATr lnBr hABr (by omega) (by omega) w222 (((((((((Rng.youngS rTr (((((((((Rng.youngS rTr ((Rng.youngS rTr ((((Rng.youngS rTr ((((((rTr.ext m1).ext m2).ext m4).ext m133).ext m134).ext m135) m136 (allge_cons (lT (lT (lT (lT (lT m1.size m2.size) m4.size) m133.size) m134.size) lR) allge_nil)).ext md2).ext m137).ext m138) m139 (allge_cons (lT (lT (lT (lT (lT (lT (lT (lT m1.size m2.size) m4.size) m133.size) m134.size) m135.size) m136.size) md2.size) ge17) allge_nil)).ext m140) m141 (allge_cons (lT (lT (lT (lT (lT (lT (lT (lT m1.size m2.size) m4.size) m133.size) m134.size) m135.size) m136.size) md2.size) ge18) allge_nil)).ext m142).ext m143).ext m144).ext md3).ext m145).ext m146).ext m147).ext m148) m149 (allge_cons (lT (lT (lT (lT m1.size m2.size) m4.size) m133.size) ge15) (allge_cons (lT (lT (lT (lT m1.size m2.size) m4.size) m133.size) ge16) allge_nil))).ext m150).ext m151).ext m152).ext m153).ext md4).ext m216).ext m217).ext m218) (((((((((Rng.youngS rBr (((((((((Rng.youngS rBr ((Rng.youngS rBr ((((Rng.youngS rBr ((((((rBr.ext m1).ext m2).ext m4).ext m133).ext m134).ext m135) m136 (allge_cons (lT (lT (lT (lT (lT m1.size m2.size) m4.size) m133.size) m134.size) lR) allge_nil)).ext md2).ext m137).ext m138) m139 (allge_cons (lT (lT (lT (lT (lT (lT (lT (lT m1.size m2.size) m4.size) m133.size) m134.size) m135.size) m136.size) md2.size) ge17) allge_nil)).ext m140) m141 (allge_cons (lT (lT (lT (lT (lT (lT (lT (lT m1.size m2.size) m4.size) m133.size) m134.size) m135.size) m136.size) md2.size) ge18) allge_nil)).ext m142).ext m143).ext m144).ext md3).ext m145).ext m146).ext m147).ext m148) m149 (allge_cons (lT (lT (lT (lT m1.size m2.size) m4.size) m133.size) ge15) (allge_cons (lT (lT (lT (lT m1.size m2.size) m4.size) m133.size) ge16) allge_nil))).ext m150).ext m151).ext m152).ext m153).ext md4).ext m216).ext m217).ext m218)), ?_⟩
            rintro _ w223 ⟨bTr'9, bBr'9, rfl, r131, r132, ge23, ge24, ne16, m219⟩
            refine ⟨(((((Mod.refl [] w157).nt m216).nt m217).nt m218).nt m219), ?_⟩
            refine DR.call (i := 3) (fun uA => uA = .agg (fl bs).toArray) rfl rfl (by kernel_rfl) (.free rfl) rfl (ltb rfl) ⟨_, rfl⟩ (vs := [.func (.func 49) #[] #[], .agg (fl bs).toArray]) rfl (fun wD mD => oc_call (vs := [.agg (fl bs).toArray]) (cap := []) rfl rfl rfl Try.call49 (c_toBlock bs lb wD)) ?_ ?_
            · rintro w1 _ w2 m1 ⟨rfl, m2⟩; exact ⟨rfl, m2⟩
            rintro _ rfl
            refine DR.fork (is := [4, 10]) (by kernel_rfl) (by decide) (all2 ?_ ?_)
            · refine DP.call (i := 4) rfl rfl (.free rfl) rfl (ltb rfl) (vs := [.func (.func 50) #[] #[], .agg #[vS bTr'9 0 nTr nTr, vI Tj, vS bBr'9 0 nBr nBr, vI Bj, vI Lk, vF Lc0, vF Lc1, vF Lc2, vF Ls0, vF Ls1, vI Dk, vF Dc0, vF Dc1, vF Dc2, vF Ds0, vF Ds1, vF ne, vF fa], .agg (fl bs).toArray]) rfl ?_
              intro w224 m220
              refine ⟨oc_call (vs := [.agg #[vS bTr'9 0 nTr nTr, vI Tj, vS bBr'9 0 nBr nBr, vI Bj, vI Lk, vF Lc0, vF Lc1, vF Lc2, vF Ls0, vF Ls1, vI Dk, vF Dc0, vF Dc1, vF Dc2, vF Ds0, vF Ds1, vF ne, vF fa], .agg (fl bs).toArray]) (cap := []) rfl rfl rfl Try.call50 (c_iBlockJet_bad nTr nTr bTr'9 xTr nBr nBr bBr'9 xBr Tj Bj Lk Lc0 Lc1 Lc2 Ls0 Ls1 Dk Dc0 Dc1 Dc2 Ds0 Ds1 ne fa bs lnTr lnBr (by omega) (by omega) (by first | assumption | exact W32.get (by assumption) _ | decide +kernel) (by first | assumption | exact W32.get (by assumption) _ | decide +kernel) (by first | assumption | exact W32.get (by assumption) _ | decide +kernel) (by first | assumption | exact W32.get (by assumption) _ | decide +kernel) lb (by first | assumption | exact W32.set (by assumption) (by first | assumption | exact wid_lt (by assumption)) | exact W32.zeros _ | exact W32.nil) (by assumption) w224 (r131.ext m220).rng (r132.ext m220).rng), ?_⟩
              rintro _ w225 ⟨rfl, m221⟩
              refine ⟨(((((((Mod.refl [] w157).nt m216).nt m217).nt m218).nt m219).nt m220).nt m221), ?_⟩
              refine DR.det (i := 5) rfl rfl (by kernel_rfl) (.free rfl) rfl rfl (fun wD mD => op_move rfl) ?_
              refine DR.det (i := 6) rfl rfl (by kernel_rfl) (.free rfl) rfl rfl (fun wD mD => op_extract rfl rfl) ?_
              refine DR.det (i := 7) rfl rfl (by kernel_rfl) (.free rfl) rfl rfl (fun wD mD => op_extract rfl rfl) ?_
              refine DR.det (i := 8) rfl rfl (by kernel_rfl) (.free rfl) rfl rfl (fun wD mD => op_extract rfl rfl) ?_
              refine DR.one1 (i := 10) rfl rfl (by kernel_rfl) (.free rfl) rfl (ltb rfl) ?_
              intro w226 m222
              refine Op1.mono (op_alloc (cs := fl (List.replicate 16 0)) Try.zeroValue82 rfl) ?_
              rintro _ w227 ⟨rfl, r133, m223, z72⟩
              refine ⟨(((((((((Mod.refl [] w157).nt m216).nt m217).nt m218).nt m219).nt m220).nt m221).nt m222).nt m223), ?_⟩
              refine DR.st1 (i := 11) rfl rfl (by kernel_rfl) (.free rfl) rfl ?_
              intro w228 m224
              refine Op1.mono (op_store (i := 0) (cs := [.slice none 0 0, vI 0, .slice none 0 0, vI 0, vI 0, vF 0, vF 0, vF 0, vF 0, vF 0, vI 0, vF 0, vF 0, vF 0, vF 0, vF 0, vF 0, vF 0]) rfl rfl rfl Try.sizeOf61 rfl (((((((r130.ext m218).ext m219).ext m220).ext m221).ext m222).ext m223).ext m224) rfl (lB rfl) rfl) ?_
              rintro _ w229 ⟨r134, m225, z73⟩
              have r135 : Row w229 w220.heap.size 0 [.slice none 0 0, vI 0, .slice none 0 0, vI 0, vI 0, vF 0, vF 0, vF 0, vF 0, vF 0, vI 0, vF 0, vF 0, vF 0, vF 0, vF 0, vF 0, vF 0] := Row.congr r134 rfl
              refine ⟨(((((((((((Mod.refl [] w157).nt m216).nt m217).nt m218).nt m219).nt m220).nt m221).nt m222).nt m223).nt m224).then m225 ((aC (.inr (lT m216.size lR)) aN))), ?_⟩
              refine DR.st1 (i := 12) rfl rfl (by kernel_rfl) (.free rfl) rfl ?_
              intro w230 m226
              refine Op1.mono (op_store (i := 0) (cs := fl (List.replicate 16 0)) rfl rfl rfl Try.sizeOf82 (fl_len List.length_replicate) (((r133.ext m224).mod m225 (nC (lG (lL (lL r130.lt (lT (lT (lT (lT m218.size m219.size) m220.size) m221.size) m222.size)) lR)) nN)).ext m226) rfl (by rw [fl_length, List.length_replicate]; decide) (fl_one _)) ?_
              rintro _ w231 ⟨r136, m227, z74⟩
              have r137 : Row w231 w226.heap.size 0 (fl (List.replicate 16 0)) := Row.congr r136 (splice_all ((fl_len (List.length_replicate)).trans (fl_len (List.length_replicate)).symm))
              refine ⟨(((((((((((((Mod.refl [] w157).nt m216).nt m217).nt m218).nt m219).nt m220).nt m221).nt m222).nt m223).nt m224).then m225 ((aC (.inr (lT m216.size lR)) aN))).nt m226).then m227 ((aC (.inr (lT (lT (lT (lT (lT (lT (lT m216.size m217.size) m218.size) m219.size) m220.size) m221.size) m222.size) lR)) aN))), ?_⟩
              refine DR.sub [(4, .bool false), (6, vP e1_9_0 0), (7, vP e1_10_0 0), (8, vI 1), (10, vP b1 0), (14, vI 1), (15, vI 1), (16, vP w220.heap.size 0), (17, vP w226.heap.size 0), (104, vI 1)] ⟨rfl, rfl, rfl, rfl, rfl, rfl, rfl, rfl, rfl, rfl, trivial⟩ ?_
              refine DR.meet rfl ?_
              intro w232 m228
              exact ⟨bTr'9, bBr'9, w220.heap.size, w226.heap.size, rfl, (((((((((r131.ext m220).ext m221).ext m222).ext m223).ext m224).mod m225 (nC (lG (lL (lL r130.lt m218.size) ge23)) nN)).ext m226).mod m227 (nC (lE (lL (lL r131.lt (lT (lT m220.size m221.size) m222.size)) lR)) nN)).ext m228), (((((((((r132.ext m220).ext m221).ext m222).ext m223).ext m224).mod m225 (nC (lG (lL (lL r130.lt m218.size) ge24)) nN)).ext m226).mod m227 (nC (lE (lL (lL r132.lt (lT (lT m220.size m221.size) m222.size)) lR)) nN)).ext m228), (((r135.ext m226).mod m227 (nC (lE (lL (lL r130.lt (lT (lT (lT (lT m218.size m219.size) m220.size) m221.size) m222.size)) lR)) nN)).ext m228), (r137.ext m228), (lT (lT (lT (lT md4.size m216.size) m217.size) m218.size) ge23), (lT (lT (lT (lT md4.size m216.size) m217.size) m218.size) ge24), (lT (lT md4.size m216.size) lR), (lT (lT (lT (lT (lT (lT (lT (lT md4.size m216.size) m217.size) m218.size) m219.size) m220.size) m221.size) m222.size) lR), ne16, (lG (lL (lL r130.lt m218.size) ge23)), (lE (lL (lL r131.lt (lT (lT m220.size m221.size) m222.size)) lR)), (lG (lL (lL r130.lt m218.size) ge24)), (lE (lL (lL r132.lt (lT (lT m220.size m221.size) m222.size)) lR)), (lE (lL (lL r130.lt (lT (lT (lT (lT m218.size m219.size) m220.size) m221.size) m222.size)) lR)), (((((((((((((((Mod.refl [] w156).nt md4).nt m216).nt m217).nt m218).nt m219).nt m220).nt m221).nt m222).nt m223).nt m224).then m225 ((aC (.inr (lT (lT md4.size m216.size) lR)) aN))).nt m226).then m227 ((aC (.inr (lT (lT (lT (lT (lT (lT (lT (lT md4.size m216.size) m217.size) m218.size) m219.size) m220.size) m221.size) m222.size) lR)) aN))).nt m228)⟩
            · refine DP.op (i := 10) rfl rfl (.free rfl) rfl (ltb rfl) ?_
              intro w233 m229
              refine Op1.mono (op_alloc (cs := fl (List.replicate 16 0)) Try.zeroValue82 rfl) ?_
              rintro _ w234 ⟨rfl, r138, m230, z75⟩
              refine ⟨(((((((Mod.refl [] w157).nt m216).nt m217).nt m218).nt m219).nt m229).nt m230), ?_⟩
              refine DR.one (i := 4) rfl rfl (by kernel_rfl) (.free rfl) rfl (ltb rfl) (vs := [.func (.func 50) #[] #[], .agg #[vS bTr'9 0 nTr nTr, vI Tj, vS bBr'9 0 nBr nBr, vI Bj, vI Lk, vF Lc0, vF Lc1, vF Lc2, vF Ls0, vF Ls1, vI Dk, vF Dc0, vF Dc1, vF Dc2, vF Ds0, vF Ds1, vF ne, vF fa], .agg (fl bs).toArray]) rfl ?_
              intro w235 m231
              refine ⟨oc_call (vs := [.agg #[vS bTr'9 0 nTr nTr, vI Tj, vS bBr'9 0 nBr nBr, vI Bj, vI Lk, vF Lc0, vF Lc1, vF Lc2, vF Ls0, vF Ls1, vI Dk, vF Dc0, vF Dc1, vF Dc2, vF Ds0, vF Ds1, vF ne, vF fa], .agg (fl bs).toArray]) (cap := []) rfl rfl rfl Try.call50 (c_iBlockJet_bad nTr nTr bTr'9 xTr nBr nBr bBr'9 xBr Tj Bj Lk Lc0 Lc1 Lc2 Ls0 Ls1 Dk Dc0 Dc1 Dc2 Ds0 Ds1 ne fa bs lnTr lnBr (by omega) (by omega) (by first | assumption | exact W32.get (by assumption) _ | decide +kernel) (by first | assumption | exact W32.get (by assumption) _ | decide +kernel) (by first | assumption | exact W32.get (by assumption) _ | decide +kernel) (by first | assumption | exact W32.get (by assumption) _ | decide +kernel) lb (by first | assumption | exact W32.set (by assumption) (by first | assumption | exact wid_lt (by assumption)) | exact W32.zeros _ | exact W32.nil) (by assumption) w235 (((r131.ext m229).ext m230).ext m231).rng (((r132.ext m229).ext m230).ext m231).rng), ?_⟩
              rintro _ w236 ⟨rfl, m232⟩
              refine ⟨(((((((((Mod.refl [] w157).nt m216).nt m217).nt m218).nt m219).nt m229).nt m230).nt m231).nt m232), ?_⟩
              refine DR.det (i := 5) rfl rfl (by kernel_rfl) (.free rfl) rfl rfl (fun wD mD => op_move rfl) ?_
              refine DR.det (i := 6) rfl rfl (by kernel_rfl) (.free rfl) rfl rfl (fun wD mD => op_extract rfl rfl) ?_
              refine DR.det (i := 7) rfl rfl (by kernel_rfl) (.free rfl) rfl rfl (fun wD mD => op_extract rfl rfl) ?_
              refine DR.det (i := 8) rfl rfl (by kernel_rfl) (.free rfl) rfl rfl (fun wD mD => op_extract rfl rfl) ?_
              refine DR.st1 (i := 11) rfl rfl (by kernel_rfl) (.free rfl) rfl ?_
              intro w237 m233
              refine Op1.mono (op_store (i := 0) (cs := [.slice none 0 0, vI 0, .slice none 0 0, vI 0, vI 0, vF 0, vF 0, vF 0, vF 0, vF 0, vI 0, vF 0, vF 0, vF 0, vF 0, vF 0, vF 0, vF 0]) rfl rfl rfl Try.sizeOf61 rfl (((((((r130.ext m218).ext m219).ext m229).ext m230).ext m231).ext m232).ext m233) rfl (lB rfl) rfl) ?_
              rintro _ w238 ⟨r139, m234, z76⟩
              have r140 : Row w238 w220.heap.size 0 [.slice none 0 0, vI 0, .slice none 0 0, vI 0, vI 0, vF 0, vF 0, vF 0, vF 0, vF 0, vI 0, vF 0, vF 0, vF 0, vF 0, vF 0, vF 0, vF 0] := Row.congr r139 rfl
              refine ⟨(((((((((((Mod.refl [] w157).nt m216).nt m217).nt m218).nt m219).nt m229).nt m230).nt m231).nt m232).nt m233).then m234 ((aC (.inr (lT m216.size lR)) aN))), ?_⟩
              refine DR.st1 (i := 12) rfl rfl (by kernel_rfl) (.free rfl) rfl ?_
              intro w239 m235
              refine Op1.mono (op_store (i := 0) (cs := fl (List.replicate 16 0)) rfl rfl rfl Try.sizeOf82 (fl_len List.length_replicate) (((((r138.ext m231).ext m232).ext m233).mod m234 (nC (lG (lL (lL r130.lt (lT (lT m218.size m219.size) m229.size)) lR)) nN)).ext m235) rfl (by rw [fl_length, List.length_replicate]; decide) (fl_one _)) ?_
              rintro _ w240 ⟨r141, m236, z77⟩
              have r142 : Row w240 w233.heap.size 0 (fl (List.replicate 16 0)) := Row.congr r141 (splice_all ((fl_len (List.length_replicate)).trans (fl_len (List.length_replicate)).symm))
              refine ⟨(((((((((((((Mod.refl [] w157).nt m216).nt m217).nt m218).nt m219).nt m229).nt m230).nt m231).nt m232).nt m233).then m234 ((aC (.inr (lT m216.size lR)) aN))).nt m235).then m236 ((aC (.inr (lT (lT (lT (lT (lT m216.size m217.size) m218.size) m219.size) m229.size) lR)) aN))), ?_⟩
              refine DR.sub [(4, .bool false), (6, vP e1_9_0 0), (7, vP e1_10_0 0), (8, vI 1), (10, vP b1 0), (14, vI 1), (15, vI 1), (16, vP w220.heap.size 0), (17, vP w233.heap.size 0), (104, vI 1)] ⟨rfl, rfl, rfl, rfl, rfl, rfl, rfl, rfl, rfl, rfl, trivial⟩ ?_
              refine DR.meet rfl ?_
              intro w241 m237
              exact ⟨bTr'9, bBr'9, w220.heap.size, w233.heap.size, rfl, (((((((((r131.ext m229).ext m230).ext m231).ext m232).ext m233).mod m234 (nC (lG (lL (lL r130.lt m218.size) ge23)) nN)).ext m235).mod m236 (nC (lE (lL (lL r131.lt m229.size) lR)) nN)).ext m237), (((((((((r132.ext m229).ext m230).ext m231).ext m232).ext m233).mod m234 (nC (lG (lL (lL r130.lt m218.size) ge24)) nN)).ext m235).mod m236 (nC (lE (lL (lL r132.lt m229.size) lR)) nN)).ext m237), (((r140.ext m235).mod m236 (nC (lE (lL (lL r130.lt (lT (lT m218.size m219.size) m229.size)) lR)) nN)).ext m237), (r142.ext m237), (lT (lT (lT (lT md4.size m216.size) m217.size) m218.size) ge23), (lT (lT (lT (lT md4.size m216.size) m217.size) m218.size) ge24), (lT (lT md4.size m216.size) lR), (lT (lT (lT (lT (lT (lT md4.size m216.size) m217.size) m218.size) m219.size) m229.size) lR), ne16, (lG (lL (lL r130.lt m218.size) ge23)), (lE (lL (lL r131.lt m229.size) lR)), (lG (lL (lL r130.lt m218.size) ge24)), (lE (lL (lL r132.lt m229.size) lR)), (lE (lL (lL r130.lt (lT (lT m218.size m219.size) m229.size)) lR)), (((((((((((((((Mod.refl [] w156).nt md4).nt m216).nt m217).nt m218).nt m219).nt m229).nt m230).nt m231).nt m232).nt m233).then m234 ((aC (.inr (lT (lT md4.size m216.size) lR)) aN))).nt m235).then m236 ((aC (.inr (lT (lT (lT (lT (lT (lT md4.size m216.size) m217.size) m218.size) m219.size) m229.size) lR)) aN))).nt m237)⟩
          · refine DP.op (i := 10) rfl rfl (.free rfl) rfl (ltb rfl) ?_
            intro w242 m238
            refine Op1.mono (op_alloc (cs := fl (List.replicate 16 0)) Try.zeroValue82 rfl) ?_
            rintro _ w243 ⟨rfl, r143, m239, z78⟩
            refine ⟨(((((Mod.refl [] w157).nt m216).nt m217).nt m238).nt m239), ?_⟩
            refine DR.one (i := 1) rfl rfl (by kernel_rfl) (.free rfl) rfl (ltb rfl) (vs := [.func (.func 32) #[] #[], .agg #[.slice ATr nTr cTr, vI Tj, .slice ABr nBr cBr, vI Bj, vI Lk, vF Lc0, vF Lc1, vF Lc2, vF Ls0, vF Ls1, vI Dk, vF Dc0, vF Dc1, vF Dc2, vF Ds0, vF Ds1, vF ne, vF fa]]) rfl ?_
            intro w244 m240
            refine ⟨oc_call (vs := [.agg #[.slice ATr nTr cTr, vI Tj, .slice ABr nBr cBr, vI Bj, vI Lk, vF Lc0, vF Lc1, vF Lc2, vF Ls0, vF Ls1, vI Dk, vF Dc0, vF Dc1, vF Dc2, vF Ds0, vF Ds1, vF ne, vF fa]]) (cap := []) rfl rfl rfl Try.call32 (c_toJet nTr cTr ATr bTr oTr xTr Tj nBr cBr ABr bBr oBr xBr Bj Lk Lc0 Lc1 Lc2 Ls0 Ls1 Dk Dc0 Dc1 Dc2 Ds0 Ds1 ne fa lnTr hATr lnBr hABr (by omega) (by omega) w244 (((((((((((Rng.youngS rTr (((((((((Rng.youngS rTr ((Rng.youngS rTr ((((Rng.youngS rTr ((((((rTr.ext m1).ext m2).ext m4).ext m133).ext m134).ext m135) m136 (allge_cons (lT (lT (lT (lT (lT m1.size m2.size) m4.size) m133.size) m134.size) lR) allge_nil)).ext md2).ext m137).ext m138) m139 (allge_cons (lT (lT (lT (lT (lT (lT (lT (lT m1.size m2.size) m4.size) m133.size) m134.size) m135.size) m136.size) md2.size) ge17) allge_nil)).ext m140) m141 (allge_cons (lT (lT (lT (lT (lT (lT (lT (lT m1.size m2.size) m4.size) m133.size) m134.size) m135.size) m136.size) md2.size) ge18) allge_nil)).ext m142).ext m143).ext m144).ext md3).ext m145).ext m146).ext m147).ext m148) m149 (allge_cons (lT (lT (lT (lT m1.size m2.size) m4.size) m133.size) ge15) (allge_cons (lT (lT (lT (lT m1.size m2.size) m4.size) m133.size) ge16) allge_nil))).ext m150).ext m151).ext m152).ext m153).ext md4).ext m216).ext m217).ext m238).ext m239).ext m240) (((((((((((Rng.youngS rBr (((((((((Rng.youngS rBr ((Rng.youngS rBr ((((Rng.youngS rBr ((((((rBr.ext m1).ext m2).ext m4).ext m133).ext m134).ext m135) m136 (allge_cons (lT (lT (lT (lT (lT m1.size m2.size) m4.size) m133.size) m134.size) lR) allge_nil)).ext md2).ext m137).ext m138) m139 (allge_cons (lT (lT (lT (lT (lT (lT (lT (lT m1.size m2.size) m4.size) m133.size) m134.size) m135.size) m136.size) md2.size) ge17) allge_nil)).ext m140) m141 (allge_cons (lT (lT (lT (lT (lT (lT (lT (lT m1.size m2.size) m4.size) m133.size) m134.size) m135.size) m136.size) md2.size) ge18) allge_nil)).ext m142).ext m143).ext m144).ext md3).ext m145).ext m146).ext m147).ext m148) m149 (allge_cons (lT (lT (lT (lT m1.size m2.size) m4.size) m133.size) ge15) (allge_cons (lT (lT (lT (lT m1.size m2.size) m4.size) m133.size) ge16) allge_nil))).ext m150).ext m151).ext m152).ext m153).ext md4).ext m216).ext m217).ext m238).ext m239).ext m240)), ?_⟩
            rintro _ w245 ⟨bTr'10, bBr'10, rfl, r144, r145, ge25, ge26, ne17, m241⟩
            refine ⟨(((((((Mod.refl [] w157).nt m216).nt m217).nt m238).nt m239).nt m240).nt m241), ?_⟩
            refine DR.call (i := 3) (fun uA => uA = .agg (fl bs).toArray) rfl rfl (by kernel_rfl) (.free rfl) rfl (ltb rfl) ⟨_, rfl⟩ (vs := [.func (.func 49) #[] #[], .agg (fl bs).toArray]) rfl (fun wD mD => oc_call (vs := [.agg (fl bs).toArray]) (cap := []) rfl rfl rfl Try.call49 (c_toBlock bs lb wD)) ?_ ?_
            · rintro w1 _ w2 m1 ⟨rfl, m2⟩; exact ⟨rfl, m2⟩
            rintro _ rfl
            refine DR.one (i := 4) rfl rfl (by kernel_rfl) (.free rfl) rfl (ltb rfl) (vs := [.func (.func 50) #[] #[], .agg #[vS bTr'10 0 nTr nTr, vI Tj, vS bBr'10 0 nBr nBr, vI Bj, vI Lk, vF Lc0, vF Lc1, vF Lc2, vF Ls0, vF Ls1, vI Dk, vF Dc0, vF Dc1, vF Dc2, vF Ds0, vF Ds1, vF ne, vF fa], .agg (fl bs).toArray]) rfl ?_
            intro w246 m242
            refine ⟨oc_call (vs := [.agg #[vS bTr'10 0 nTr nTr, vI Tj, vS bBr'10 0 nBr nBr, vI Bj, vI Lk, vF Lc0, vF Lc1, vF Lc2, vF Ls0, vF Ls1, vI Dk, vF Dc0, vF Dc1, vF Dc2, vF Ds0, vF Ds1, vF ne, vF fa], .agg (fl bs).toArray]) (cap := []) rfl rfl rfl Try.call50 (c_iBlockJet_bad nTr nTr bTr'10 xTr nBr nBr bBr'10 xBr Tj Bj Lk Lc0 Lc1 Lc2 Ls0 Ls1 Dk Dc0 Dc1 Dc2 Ds0 Ds1 ne fa bs lnTr lnBr (by omega) (by omega) (by first | assumption | exact W32.get (by assumption) _ | decide +kernel) (by first | assumption | exact W32.get (by assumption) _ | decide +kernel) (by first | assumption | exact W32.get (by assumption) _ | decide +kernel) (by first | assumption | exact W32.get (by assumption) _ | decide +kernel) lb (by first | assumption | exact W32.set (by assumption) (by first | assumption | exact wid_lt (by assumption)) | exact W32.zeros _ | exact W32.nil) (by assumption) w246 (r144.ext m242).rng (r145.ext m242).rng), ?_⟩
            rintro _ w247 ⟨rfl, m243⟩
            refine ⟨(((((((((Mod.refl [] w157).nt m216).nt m217).nt m238).nt m239).nt m240).nt m241).nt m242).nt m243), ?_⟩
            refine DR.det (i := 5) rfl rfl (by kernel_rfl) (.free rfl) rfl rfl (fun wD mD => op_move rfl) ?_
            refine DR.det (i := 6) rfl rfl (by kernel_rfl) (.free rfl) rfl rfl (fun wD mD => op_extract rfl rfl) ?_
            refine DR.det (i := 7) rfl rfl (by kernel_rfl) (.free rfl) rfl rfl (fun wD mD => op_extract rfl rfl) ?_
            refine DR.det (i := 8) rfl rfl (by kernel_rfl) (.free rfl) rfl rfl (fun wD mD => op_extract rfl rfl) ?_
            refine DR.st1 (i := 11) rfl rfl (by kernel_rfl) (.free rfl) rfl ?_
            intro w248 m244
            refine Op1.mono (op_store (i := 0) (cs := [.slice none 0 0, vI 0, .slice none 0 0, vI 0, vI 0, vF 0, vF 0, vF 0, vF 0, vF 0, vI 0, vF 0, vF 0, vF 0, vF 0, vF 0, vF 0, vF 0]) rfl rfl rfl Try.sizeOf61 rfl (((((((r130.ext m238).ext m239).ext m240).ext m241).ext m242).ext m243).ext m244) rfl (lB rfl) rfl) ?_
            rintro _ w249 ⟨r146, m245, z79⟩
            have r147 : Row w249 w220.heap.size 0 [.slice none 0 0, vI 0, .slice none 0 0, vI 0, vI 0, vF 0, vF 0, vF 0, vF 0, vF 0, vI 0, vF 0, vF 0, vF 0, vF 0, vF 0, vF 0, vF 0] := Row.congr r146 rfl
            refine ⟨(((((((((((Mod.refl [] w157).nt m216).nt m217).nt m238).nt m239).nt m240).nt m241).nt m242).nt m243).nt m244).then m245 ((aC (.inr (lT m216.size lR)) aN))), ?_⟩
            refine DR.st1 (i := 12) rfl rfl (by kernel_rfl) (.free rfl) rfl ?_
            intro w250 m246
            refine Op1.mono (op_store (i := 0) (cs := fl (List.replicate 16 0)) rfl rfl rfl Try.sizeOf82 (fl_len List.length_replicate) (((((((r143.ext m240).ext m241).ext m242).ext m243).ext m244).mod m245 (nC (lG (lL (lL r130.lt m238.size) lR)) nN)).ext m246) rfl (by rw [fl_length, List.length_replicate]; decide) (fl_one _)) ?_
            rintro _ w251 ⟨r148, m247, z80⟩
            have r149 : Row w251 w242.heap.size 0 (fl (List.replicate 16 0)) := Row.congr r148 (splice_all ((fl_len (List.length_replicate)).trans (fl_len (List.length_replicate)).symm))
            refine ⟨(((((((((((((Mod.refl [] w157).nt m216).nt m217).nt m238).nt m239).nt m240).nt m241).nt m242).nt m243).nt m244).then m245 ((aC (.inr (lT m216.size lR)) aN))).nt m246).then m247 ((aC (.inr (lT (lT (lT m216.size m217.size) m238.size) lR)) aN))), ?_⟩
            refine DR.sub [(4, .bool false), (6, vP e1_9_0 0), (7, vP e1_10_0 0), (8, vI 1), (10, vP b1 0), (14, vI 1), (15, vI 1), (16, vP w220.heap.size 0), (17, vP w242.heap.size 0), (104, vI 1)] ⟨rfl, rfl, rfl, rfl, rfl, rfl, rfl, rfl, rfl, rfl, trivial⟩ ?_
            refine DR.meet rfl ?_
            intro w252 m248
            exact ⟨bTr'10, bBr'10, w220.heap.size, w242.heap.size, rfl, (((((((r144.ext m242).ext m243).ext m244).mod m245 (nC (lG (lL (lL r130.lt (lT (lT m238.size m239.size) m240.size)) ge25)) nN)).ext m246).mod m247 (nC (lG (lL (lL r143.lt m240.size) ge25)) nN)).ext m248), (((((((r145.ext m242).ext m243).ext m244).mod m245 (nC (lG (lL (lL r130.lt (lT (lT m238.size m239.size) m240.size)) ge26)) nN)).ext m246).mod m247 (nC (lG (lL (lL r143.lt m240.size) ge26)) nN)).ext m248), (((r147.ext m246).mod m247 (nC (lE (lL (lL r130.lt m238.size) lR)) nN)).ext m248), (r149.ext m248), (lT (lT (lT (lT (lT (lT md4.size m216.size) m217.size) m238.size) m239.size) m240.size) ge25), (lT (lT (lT (lT (lT (lT md4.size m216.size) m217.size) m238.size) m239.size) m240.size) ge26), (lT (lT md4.size m216.size) lR), (lT (lT (lT (lT md4.size m216.size) m217.size) m238.size) lR), ne17, (lG (lL (lL r130.lt (lT (lT m238.size m239.size) m240.size)) ge25)), (lG (lL (lL r143.lt m240.size) ge25)), (lG (lL (lL r130.lt (lT (lT m238.size m239.size) m240.size)) ge26)), (lG (lL (lL r143.lt m240.size) ge26)), (lE (lL (lL r130.lt m238.size) lR)), (((((((((((((((Mod.refl [] w156).nt md4).nt m216).nt m217).nt m238).nt m239).nt m240).nt m241).nt m242).nt m243).nt m244).then m245 ((aC (.inr (lT (lT md4.size m216.size) lR)) aN))).nt m246).then m247 ((aC (.inr (lT (lT (lT (lT md4.size m216.size) m217.size) m238.size) lR)) aN))).nt m248)⟩
        · refine DP.op (i := 10) rfl rfl (.free rfl) rfl (ltb rfl) ?_
          intro w253 m249
          refine Op1.mono (op_alloc (cs := fl (List.replicate 16 0)) Try.zeroValue82 rfl) ?_
          rintro _ w254 ⟨rfl, r150, m250, z81⟩
          refine ⟨(((Mod.refl [] w157).nt m249).nt m250), ?_⟩
          refine DR.fork (is := [1, 9]) (by kernel_rfl) (by decide) (all2 ?_ ?_)
          · refine DP.call (i := 1) rfl rfl (.free rfl) rfl (ltb rfl) (vs := [.func (.func 32) #[] #[], .agg #[.slice ATr nTr cTr, vI Tj, .slice ABr nBr cBr, vI Bj, vI Lk, vF Lc0, vF Lc1, vF Lc2, vF Ls0, vF Ls1, vI Dk, vF Dc0, vF Dc1, vF Dc2, vF Ds0, vF Ds1, vF ne, vF fa]]) rfl ?_
            intro w255 m251
            refine ⟨oc_call (vs := [.agg #[.slice ATr nTr cTr, vI Tj, .slice ABr nBr cBr, vI Bj, vI Lk, vF Lc0, vF Lc1, vF Lc2, vF Ls0, vF Ls1, vI Dk, vF Dc0, vF Dc1, vF Dc2, vF Ds0, vF Ds1, vF ne, vF fa]]) (cap := []) rfl rfl rfl Try.call32 (c_toJet nTr cTr ATr bTr oTr xTr Tj nBr cBr ABr bBr oBr xBr Bj Lk Lc0 Lc1 Lc2 Ls0 Ls1 Dk Dc0 Dc1 Dc2 Ds0 Ds1 ne fa lnTr hATr lnBr hABr (by omega) (by omega) w255 (((((((((Rng.youngS rTr (((((((((Rng.youngS rTr ((Rng.youngS rTr ((((Rng.youngS rTr ((((((rTr.ext m1).ext m2).ext m4).ext m133).ext m134).ext m135) m136 (allge_cons (lT (lT (lT (lT (lT m1.size m2.size) m4.size) m133.size) m134.size) lR) allge_nil)).ext md2).ext m137).ext m138) m139 (allge_cons (lT (lT (lT (lT (lT (lT (lT (lT m1.size m2.size) m4.size) m133.size) m134.size) m135.size) m136.size) md2.size) ge17) allge_nil)).ext m140) m141 (allge_cons (lT (lT (lT (lT (lT (lT (lT (lT m1.size m2.size) m4.size) m133.size) m134.size) m135.size) m136.size) md2.size) ge18) allge_nil)).ext m142).ext m143).ext m144).ext md3).ext m145).ext m146).ext m147).ext m148) m149 (allge_cons (lT (lT (lT (lT m1.size m2.size) m4.size) m133.size) ge15) (allge_cons (lT (lT (lT (lT m1.size m2.size) m4.size) m133.size) ge16) allge_nil))).ext m150).ext m151).ext m152).ext m153).ext md4).ext m249).ext m250).ext m251) (((((((((Rng.youngS rBr (((((((((Rng.youngS rBr ((Rng.youngS rBr ((((Rng.youngS rBr ((((((rBr.ext m1).ext m2).ext m4).ext m133).ext m134).ext m135) m136 (allge_cons (lT (lT (lT (lT (lT m1.size m2.size) m4.size) m133.size) m134.size) lR) allge_nil)).ext md2).ext m137).ext m138) m139 (allge_cons (lT (lT (lT (lT (lT (lT (lT (lT m1.size m2.size) m4.size) m133.size) m134.size) m135.size) m136.size) md2.size) ge17) allge_nil)).ext m140) m141 (allge_cons (lT (lT (lT (lT (lT (lT (lT (lT m1.size m2.size) m4.size) m133.size) m134.size) m135.size) m136.size) md2.size) ge18) allge_nil)).ext m142).ext m143).ext m144).ext md3).ext m145).ext m146).ext m147).ext m148) m149 (allge_cons (lT (lT (lT (lT m1.size m2.size) m4.size) m133.size) ge15) (allge_cons (lT (lT (lT (lT m1.size m2.size) m4.size) m133.size) ge16) allge_nil))).ext m150).ext m151).ext m152).ext m153).ext md4).ext m249).ext m250).ext m251)), ?_⟩
            rintro _ w256 ⟨bTr'11, bBr'11, rfl, r151, r152, ge27, ge28, ne18, m252⟩
            refine ⟨(((((Mod.refl [] w157).nt m249).nt m250).nt m251).nt m252), ?_⟩
            refine DR.call (i := 3) (fun uA => uA = .agg (fl bs).toArray) rfl rfl (by kernel_rfl) (.free rfl) rfl (ltb rfl) ⟨_, rfl⟩ (vs := [.func (.func 49) #[] #[], .agg (fl bs).toArray]) rfl (fun wD mD => oc_call (vs := [.agg (fl bs).toArray]) (cap := []) rfl rfl rfl Try.call49 (c_toBlock bs lb wD)) ?_ ?_
            · rintro w1 _ w2 m1 ⟨rfl, m2⟩; exact ⟨rfl, m2⟩
            rintro _ rfl
            refine DR.fork (is := [4, 9]) (by kernel_rfl) (by decide) (all2 ?_ ?_)
            · refine DP.call (i := 4) rfl rfl (.free rfl) rfl (ltb rfl) (vs := [.func (.func 50) #[] #[], .agg #[vS bTr'11 0 nTr nTr, vI Tj, vS bBr'11 0 nBr nBr, vI Bj, vI Lk, vF Lc0, vF Lc1, vF Lc2, vF Ls0, vF Ls1, vI Dk, vF Dc0, vF Dc1, vF Dc2, vF Ds0, vF Ds1, vF ne, vF fa], .agg (fl bs).toArray]) rfl ?_
              intro w257 m253
              refine ⟨oc_call (vs := [.agg #[vS bTr'11 0 nTr nTr, vI Tj, vS bBr'11 0 nBr nBr, vI Bj, vI Lk, vF Lc0, vF Lc1, vF Lc2, vF Ls0, vF Ls1, vI Dk, vF Dc0, vF Dc1, vF Dc2, vF Ds0, vF Ds1, vF ne, vF fa], .agg (fl bs).toArray]) (cap := []) rfl rfl rfl Try.call50 (c_iBlockJet_bad nTr nTr bTr'11 xTr nBr nBr bBr'11 xBr Tj Bj Lk Lc0 Lc1 Lc2 Ls0 Ls1 Dk Dc0 Dc1 Dc2 Ds0 Ds1 ne fa bs lnTr lnBr (by omega) (by omega) (by first | assumption | exact W32.get (by assumption) _ | decide +kernel) (by first | assumption | exact W32.get (by assumption) _ | decide +kernel) (by first | assumption | exact W32.get (by assumption) _ | decide +kernel) (by first | assumption | exact W32.get (by assumption) _ | decide +kernel) lb (by first | assumption | exact W32.set (by assumption) (by first | assumption | exact wid_lt (by assumption)) | exact W32.zeros _ | exact W32.nil) (by assumption) w257 (r151.ext m253).rng (r152.ext m253).rng), ?_⟩
              rintro _ w258 ⟨rfl, m254⟩
              refine ⟨(((((((Mod.refl [] w157).nt m249).nt m250).nt m251).nt m252).nt m253).nt m254), ?_⟩
              refine DR.det (i := 5) rfl rfl (by kernel_rfl) (.free rfl) rfl rfl (fun wD mD => op_move rfl) ?_
              refine DR.det (i := 6) rfl rfl (by kernel_rfl) (.free rfl) rfl rfl (fun wD mD => op_extract rfl rfl) ?_
              refine DR.det (i := 7) rfl rfl (by kernel_rfl) (.free rfl) rfl rfl (fun wD mD => op_extract rfl rfl) ?_
              refine DR.det (i := 8) rfl rfl (by kernel_rfl) (.free rfl) rfl rfl (fun wD mD => op_extract rfl rfl) ?_
              refine DR.one1 (i := 9) rfl rfl (by kernel_rfl) (.free rfl) rfl (ltb rfl) ?_
              intro w259 m255
              refine Op1.mono (op_alloc (cs := [.slice none 0 0, vI 0, .slice none 0 0, vI 0, vI 0, vF 0, vF 0, vF 0, vF 0, vF 0, vI 0, vF 0, vF 0, vF 0, vF 0, vF 0, vF 0, vF 0]) Try.zeroValue61 rfl) ?_
              rintro _ w260 ⟨rfl, r153, m256, z82⟩
              refine ⟨(((((((((Mod.refl [] w157).nt m249).nt m250).nt m251).nt m252).nt m253).nt m254).nt m255).nt m256), ?_⟩
              refine DR.st1 (i := 11) rfl rfl (by kernel_rfl) (.free rfl) rfl ?_
              intro w261 m257
              refine Op1.mono (op_store (i := 0) (cs := [.slice none 0 0, vI 0, .slice none 0 0, vI 0, vI 0, vF 0, vF 0, vF 0, vF 0, vF 0, vI 0, vF 0, vF 0, vF 0, vF 0, vF 0, vF 0, vF 0]) rfl rfl rfl Try.sizeOf61 rfl (r153.ext m257) rfl (lB rfl) rfl) ?_
              rintro _ w262 ⟨r154, m258, z83⟩
              have r155 : Row w262 w259.heap.size 0 [.slice none 0 0, vI 0, .slice none 0 0, vI 0, vI 0, vF 0, vF 0, vF 0, vF 0, vF 0, vI 0, vF 0, vF 0, vF 0, vF 0, vF 0, vF 0, vF 0] := Row.congr r154 rfl
              refine ⟨(((((((((((Mod.refl [] w157).nt m249).nt m250).nt m251).nt m252).nt m253).nt m254).nt m255).nt m256).nt m257).then m258 ((aC (.inr (lT (lT (lT (lT (lT (lT (lT m249.size m250.size) m251.size) m252.size) m253.size) m254.size) m255.size) lR)) aN))), ?_⟩
              refine DR.st1 (i := 12) rfl rfl (by kernel_rfl) (.free rfl) rfl ?_
              intro w263 m259
              refine Op1.mono (op_store (i := 0) (cs := fl (List.replicate 16 0)) rfl rfl rfl Try.sizeOf82 (fl_len List.length_replicate) (((((((((r150.ext m251).ext m252).ext m253).ext m254).ext m255).ext m256).ext m257).mod m258 (nC (lE (lL (lL r150.lt (lT (lT (lT (lT m251.size m252.size) m253.size) m254.size) m255.size)) lR)) nN)).ext m259) rfl (by rw [fl_length, List.length_replicate]; decide) (fl_one _)) ?_
              rintro _ w264 ⟨r156, m260, z84⟩
              have r157 : Row w264 w253.heap.size 0 (fl (List.replicate 16 0)) := Row.congr r156 (splice_all ((fl_len (List.length_replicate)).trans (fl_len (List.length_replicate)).symm))
              refine ⟨(((((((((((((Mod.refl [] w157).nt m249).nt m250).nt m251).nt m252).nt m253).nt m254).nt m255).nt m256).nt m257).then m258 ((aC (.inr (lT (lT (lT (lT (lT (lT (lT m249.size m250.size) m251.size) m252.size) m253.size) m254.size) m255.size) lR)) aN))).nt m259).then m260 ((aC (.inr (lT m249.size lR)) aN))), ?_⟩
              refine DR.sub [(4, .bool false), (6, vP e1_9_0 0), (7, vP e1_10_0 0), (8, vI 1), (10, vP b1 0), (14, vI 1), (15, vI 1), (16, vP w259.heap.size 0), (17, vP w253.heap.size 0), (104, vI 1)] ⟨rfl, rfl, rfl, rfl, rfl, rfl, rfl, rfl, rfl, rfl, trivial⟩ ?_
              refine DR.meet rfl ?_
              intro w265 m261
              exact ⟨bTr'11, bBr'11, w259.heap.size, w253.heap.size, rfl, (((((((((r151.ext m253).ext m254).ext m255).ext m256).ext m257).mod m258 (nC (lE (lL (lL r151.lt (lT (lT m253.size m254.size) m255.size)) lR)) nN)).ext m259).mod m260 (nC (lG (lL (lL r150.lt m251.size) ge27)) nN)).ext m261), (((((((((r152.ext m253).ext m254).ext m255).ext m256).ext m257).mod m258 (nC (lE (lL (lL r152.lt (lT (lT m253.size m254.size) m255.size)) lR)) nN)).ext m259).mod m260 (nC (lG (lL (lL r150.lt m251.size) ge28)) nN)).ext m261), (((r155.ext m259).mod m260 (nC (lG (lL (lL r150.lt (lT (lT (lT (lT m251.size m252.size) m253.size) m254.size) m255.size)) lR)) nN)).ext m261), (r157.ext m261), (lT (lT (lT (lT md4.size m249.size) m250.size) m251.size) ge27), (lT (lT (lT (lT md4.size m249.size) m250.size) m251.size) ge28), (lT (lT (lT (lT (lT (lT (lT (lT md4.size m249.size) m250.size) m251.size) m252.size) m253.size) m254.size) m255.size) lR), (lT (lT md4.size m249.size) lR), ne18, (lE (lL (lL r151.lt (lT (lT m253.size m254.size) m255.size)) lR)), (lG (lL (lL r150.lt m251.size) ge27)), (lE (lL (lL r152.lt (lT (lT m253.size m254.size) m255.size)) lR)), (lG (lL (lL r150.lt m251.size) ge28)), (lG (lL (lL r150.lt (lT (lT (lT (lT m251.size m252.size) m253.size) m254.size) m255.size)) lR)), (((((((((((((((Mod.refl [] w156).nt md4).nt m249).nt m250).nt m251).nt m252).nt m253).nt m254).nt m255).nt m256).nt m257).then m258 ((aC (.inr (lT (lT (lT (lT (lT (lT (lT (lT md4.size m249.size) m250.size) m251.size) m252.size) m253.size) m254.size) m255.size) lR)) aN))).nt m259).then m260 ((aC (.inr (lT (lT md4.size m249.size) lR)) aN))).nt m261)⟩
            · refine DP.op (i := 9) rfl rfl (.free rfl) rfl (ltb rfl) ?_
              intro w266 m262
              refine Op1.mono (op_alloc (cs := [.slice none 0 0, vI 0, .slice none 0 0, vI 0, vI 0, vF 0, vF 0, vF 0, vF 0, vF 0, vI 0, vF 0, vF 0, vF 0, vF 0, vF 0, vF 0, vF 0]) Try.zeroValue61 rfl) ?_
              rintro _ w267 ⟨rfl, r158, m263, z85⟩
              refine ⟨(((((((Mod.refl [] w157).nt m249).nt m250).nt m251).nt m252).nt m262).nt m263), ?_⟩
              refine DR.one (i := 4) rfl rfl (by kernel_rfl) (.free rfl) rfl (ltb rfl) (vs := [.func (.func 50) #[] #[], .agg #[vS bTr'11 0 nTr nTr, vI Tj, vS bBr'11 0 nBr nBr, vI Bj, vI Lk, vF Lc0, vF Lc1, vF Lc2, vF Ls0, vF Ls1, vI Dk, vF Dc0, vF Dc1, vF Dc2, vF Ds0, vF Ds1, vF ne, vF fa], .agg (fl bs).toArray]) rfl ?_
              intro w268 m264
              refine ⟨oc_call (vs := [.agg #[vS bTr'11 0 nTr nTr, vI Tj, vS bBr'11 0 nBr nBr, vI Bj, vI Lk, vF Lc0, vF Lc1, vF Lc2, vF Ls0, vF Ls1, vI Dk, vF Dc0, vF Dc1, vF Dc2, vF Ds0, vF Ds1, vF ne, vF fa], .agg (fl bs).toArray]) (cap := []) rfl rfl rfl Try.call50 (c_iBlockJet_bad nTr nTr bTr'11 xTr nBr nBr bBr'11 xBr Tj Bj Lk Lc0 Lc1 Lc2 Ls0 Ls1 Dk Dc0 Dc1 Dc2 Ds0 Ds1 ne fa bs lnTr lnBr (by omega) (by omega) (by first | assumption | exact W32.get (by assumption) _ | decide +kernel) (by first | assumption | exact W32.get (by assumption) _ | decide +kernel) (by first | assumption | exact W32.get (by assumption) _ | decide +kernel) (by first | assumption | exact W32.get (by assumption) _ | decide +kernel) lb (by first | assumption | exact W32.set (by assumption) (by first | assumption | exact wid_lt (by assumption)) | exact W32.zeros _ | exact W32.nil) (by assumption) w268 (((r151.ext m262).ext m263).ext m264).rng (((r152.ext m262).ext m263).ext m264).rng), ?_⟩
              rintro _ w269 ⟨rfl, m265⟩
              refine ⟨(((((((((Mod.refl [] w157).nt m249).nt m250).nt m251).nt m252).nt m262).nt m263).nt m264).nt m265), ?_⟩
              refine DR.det (i := 5) rfl rfl (by kernel_rfl) (.free rfl) rfl rfl (fun wD mD => op_move rfl) ?_
              refine DR.det (i := 6) rfl rfl (by kernel_rfl) (.free rfl) rfl rfl (fun wD mD => op_extract rfl rfl) ?_
              refine DR.det (i := 7) rfl rfl (by kernel_rfl) (.free rfl) rfl rfl (fun wD mD => op_extract rfl rfl) ?_
              refine DR.det (i := 8) rfl rfl (by kernel_rfl) (.free rfl) rfl rfl (fun wD mD => op_extract rfl rfl) ?_
              refine DR.st1 (i := 11) rfl rfl (by kernel_rfl) (.free rfl) rfl ?_
              intro w270 m266
              refine Op1.mono (op_store (i := 0) (cs := [.slice none 0 0, vI 0, .slice none 0 0, vI 0, vI 0, vF 0, vF 0, vF 0, vF 0, vF 0, vI 0, vF 0, vF 0, vF 0, vF 0, vF 0, vF 0, vF 0]) rfl rfl rfl Try.sizeOf61 rfl (((r158.ext m264).ext m265).ext m266) rfl (lB rfl) rfl) ?_
              rintro _ w271 ⟨r159, m267, z86⟩
              have r160 : Row w271 w266.heap.size 0 [.slice none 0 0, vI 0, .slice none 0 0, vI 0, vI 0, vF 0, vF 0, vF 0, vF 0, vF 0, vI 0, vF 0, vF 0, vF 0, vF 0, vF 0, vF 0, vF 0] := Row.congr r159 rfl
              refine ⟨(((((((((((Mod.refl [] w157).nt m249).nt m250).nt m251).nt m252).nt m262).nt m263).nt m264).nt m265).nt m266).then m267 ((aC (.inr (lT (lT (lT (lT (lT m249.size m250.size) m251.size) m252.size) m262.size) lR)) aN))), ?_⟩
              refine DR.st1 (i := 12) rfl rfl (by kernel_rfl) (.free rfl) rfl ?_
              intro w272 m268
              refine Op1.mono (op_store (i := 0) (cs := fl (List.replicate 16 0)) rfl rfl rfl Try.sizeOf82 (fl_len List.length_replicate) (((((((((r150.ext m251).ext m252).ext m262).ext m263).ext m264).ext m265).ext m266).mod m267 (nC (lE (lL (lL r150.lt (lT (lT m251.size m252.size) m262.size)) lR)) nN)).ext m268) rfl (by rw [fl_length, List.length_replicate]; decide) (fl_one _)) ?_
              rintro _ w273 ⟨r161, m269, z87⟩
              have r162 : Row w273 w253.heap.size 0 (fl (List.replicate 16 0)) := Row.congr r161 (splice_all ((fl_len (List.length_replicate)).trans (fl_len (List.length_replicate)).symm))
              refine ⟨(((((((((((((Mod.refl [] w157).nt m249).nt m250).nt m251).nt m252).nt m262).nt m263).nt m264).nt m265).nt m266).then m267 ((aC (.inr (lT (lT (lT (lT (lT m249.size m250.size) m251.size) m252.size) m262.size) lR)) aN))).nt m268).then m269 ((aC (.inr (lT m249.size lR)) aN))), ?_⟩
              refine DR.sub [(4, .bool false), (6, vP e1_9_0 0), (7, vP e1_10_0 0), (8, vI 1), (10, vP b1 0), (14, vI 1), (15, vI 1), (16, vP w266.heap.size 0), (17, vP w253.heap.size 0), (104, vI 1)] ⟨rfl, rfl, rfl, rfl, rfl, rfl, rfl, rfl, rfl, rfl, trivial⟩ ?_
              refine DR.meet rfl ?_
              intro w274 m270
              exact ⟨bTr'11, bBr'11, w266.heap.size, w253.heap.size, rfl, (((((((((r151.ext m262).ext m263).ext m264).ext m265).ext m266).mod m267 (nC (lE (lL (lL r151.lt m262.size) lR)) nN)).ext m268).mod m269 (nC (lG (lL (lL r150.lt m251.size) ge27)) nN)).ext m270), (((((((((r152.ext m262).ext m263).ext m264).ext m265).ext m266).mod m267 (nC (lE (lL (lL r152.lt m262.size) lR)) nN)).ext m268).mod m269 (nC (lG (lL (lL r150.lt m251.size) ge28)) nN)).ext m270), (((r160.ext m268).mod m269 (nC (lG (lL (lL r150.lt (lT (lT m251.size m252.size) m262.size)) lR)) nN)).ext m270), (r162.ext m270), (lT (lT (lT (lT md4.size m249.size) m250.size) m251.size) ge27), (lT (lT (lT (lT md4.size m249.size) m250.size) m251.size) ge28), (lT (lT (lT (lT (lT (lT md4.size m249.size) m250.size) m251.size) m252.size) m262.size) lR), (lT (lT md4.size m249.size) lR), ne18, (lE (lL (lL r151.lt m262.size) lR)), (lG (lL (lL r150.lt m251.size) ge27)), (lE (lL (lL r152.lt m262.size) lR)), (lG (lL (lL r150.lt m251.size) ge28)), (lG (lL (lL r150.lt (lT (lT m251.size m252.size) m262.size)) lR)), (((((((((((((((Mod.refl [] w156).nt md4).nt m249).nt m250).nt m251).nt m252).nt m262).nt m263).nt m264).nt m265).nt m266).then m267 ((aC (.inr (lT (lT (lT (lT (lT (lT md4.size m249.size) m250.size) m251.size) m252.size) m262.size) lR)) aN))).nt m268).then m269 ((aC (.inr (lT (lT md4.size m249.size) lR)) aN))).nt m270)⟩
          · refine DP.op (i := 9) rfl rfl (.free rfl) rfl (ltb rfl) ?_
            intro w275 m271
            refine Op1.mono (op_alloc (cs := [.slice none 0 0, vI 0, .slice none 0 0, vI 0, vI 0, vF 0, vF 0, vF 0, vF 0, vF 0, vI 0, vF 0, vF 0, vF 0, vF 0, vF 0, vF 0, vF 0]) Try.zeroValue61 rfl) ?_
            rintro _ w276 ⟨rfl, r163, m272, z88⟩
            refine ⟨(((((Mod.refl [] w157).nt m249).nt m250).nt m271).nt m272), ?_⟩
            refine DR.one (i := 1) rfl rfl (by kernel_rfl) (.free rfl) rfl (ltb rfl) (vs := [.func (.func 32) #[] #[], .agg #[.slice ATr nTr cTr, vI Tj, .slice ABr nBr cBr, vI Bj, vI Lk, vF Lc0, vF Lc1, vF Lc2, vF Ls0, vF Ls1, vI Dk, vF Dc0, vF Dc1, vF Dc2, vF Ds0, vF Ds1, vF ne, vF fa]]) rfl ?_
            intro w277 m273
            refine ⟨oc_call (vs := [.agg #[.slice ATr nTr cTr, vI Tj, .slice ABr nBr cBr, vI Bj, vI Lk, vF Lc0, vF Lc1, vF Lc2, vF Ls0, vF Ls1, vI Dk, vF Dc0, vF Dc1, vF Dc2, vF Ds0, vF Ds1, vF ne, vF fa]]) (cap := []) rfl rfl rfl Try.call32 (c_toJet nTr cTr ATr bTr oTr xTr Tj nBr cBr ABr bBr oBr xBr Bj Lk Lc0 Lc1 Lc2 Ls0 Ls1 Dk Dc0 Dc1 Dc2 Ds0 Ds1 ne fa lnTr hATr lnBr hABr (by omega) (by omega) w277 (((((((((((Rng.youngS rTr (((((((((Rng.youngS rTr ((Rng.youngS rTr ((((Rng.youngS rTr ((((((rTr.ext m1).ext m2).ext m4).ext m133).ext m134).ext m135) m136 (allge_cons (lT (lT (lT (lT (lT m1.size m2.size) m4.size) m133.size) m134.size) lR) allge_nil)).ext md2).ext m137).ext m138) m139 (allge_cons (lT (lT (lT (lT (lT (lT (lT (lT m1.size m2.size) m4.size) m133.size) m134.size) m135.size) m136.size) md2.size) ge17) allge_nil)).ext m140) m141 (allge_cons (lT (lT (lT (lT (lT (lT (lT (lT m1.size m2.size) m4.size) m133.size) m134.size) m135.size) m136.size) md2.size) ge18) allge_nil)).ext m142).ext m143).ext m144).ext md3).ext m145).ext m146).ext m147).ext m148) m149 (allge_cons (lT (lT (lT (lT m1.size m2.size) m4.size) m133.size) ge15) (allge_cons (lT (lT (lT (lT m1.size m2.size) m4.size) m133.size) ge16) allge_nil))).ext m150).ext m151).ext m152).ext m153).ext md4).ext m249).ext m250).ext m271).ext m272).ext m273) (((((((((((Rng.youngS rBr (((((((((Rng.youngS rBr ((Rng.youngS rBr ((((Rng.youngS rBr ((((((rBr.ext m1).ext m2).ext m4).ext m133).ext m134).ext m135) m136 (allge_cons (lT (lT (lT (lT (lT m1.size m2.size) m4.size) m133.size) m134.size) lR) allge_nil)).ext md2).ext m137).ext m138) m139 (allge_cons (lT (lT (lT (lT (lT (lT (lT (lT m1.size m2.size) m4.size) m133.size) m134.size) m135.size) m136.size) md2.size) ge17) allge_nil)).ext m140) m141 (allge_cons (lT (lT (lT (lT (lT (lT (lT (lT m1.size m2.size) m4.size) m133.size) m134.size) m135.size) m136.size) md2.size) ge18) allge_nil)).ext m142).ext m143).ext m144).ext md3).ext m145).ext m146).ext m147).ext m148) m149 (allge_cons (lT (lT (lT (lT m1.size m2.size) m4.size) m133.size) ge15) (allge_cons (lT (lT (lT (lT m1.size m2.size) m4.size) m133.size) ge16) allge_nil))).ext m150).ext m151).ext m152).ext m153).ext md4).ext m249).ext m250).ext m271).ext m272).ext m273)), ?_⟩
            rintro _ w278 ⟨bTr'12, bBr'12, rfl, r164, r165, ge29, ge30, ne19, m274⟩
            refine ⟨(((((((Mod.refl [] w157).nt m249).nt m250).nt m271).nt m272).nt m273).nt m274), ?_⟩
            refine DR.call (i := 3) (fun uA => uA = .agg (fl bs).toArray) rfl rfl (by kernel_rfl) (.free rfl) rfl (ltb rfl) ⟨_, rfl⟩ (vs := [.func (.func 49) #[] #[], .agg (fl bs).toArray]) rfl (fun wD mD => oc_call (vs := [.agg (fl bs).toArray]) (cap := []) rfl rfl rfl Try.call49 (c_toBlock bs lb wD)) ?_ ?_
            · rintro w1 _ w2 m1 ⟨rfl, m2⟩; exact ⟨rfl, m2⟩
            rintro _ rfl
            refine DR.one (i := 4) rfl rfl (by kernel_rfl) (.free rfl) rfl (ltb rfl) (vs := [.func (.func 50) #[] #[], .agg #[vS bTr'12 0 nTr nTr, vI Tj, vS bBr'12 0 nBr nBr, vI Bj, vI Lk, vF Lc0, vF Lc1, vF Lc2, vF Ls0, vF Ls1, vI Dk, vF Dc0, vF Dc1, vF Dc2, vF Ds0, vF Ds1, vF ne, vF fa], .agg (fl bs).toArray]) rfl ?_
            intro w279 m275
            refine ⟨oc_call (vs := [.agg #[vS bTr'12 0 nTr nTr, vI Tj, vS bBr'12 0 nBr nBr, vI Bj, vI Lk, vF Lc0, vF Lc1, vF Lc2, vF Ls0, vF Ls1, vI Dk, vF Dc0, vF Dc1, vF Dc2, vF Ds0, vF Ds1, vF ne, vF fa], .agg (fl bs).toArray]) (cap := []) rfl rfl rfl Try.call50 (c_iBlockJet_bad nTr nTr bTr'12 xTr nBr nBr bBr'12 xBr Tj Bj Lk Lc0 Lc1 Lc2 Ls0 Ls1 Dk Dc0 Dc1 Dc2 Ds0 Ds1 ne fa bs lnTr lnBr (by omega) (by omega) (by first | assumption | exact W32.get (by assumption) _ | decide +kernel) (by first | assumption | exact W32.get (by assumption) _ | decide +kernel) (by first | assumption | exact W32.get (by assumption) _ | decide +kernel) (by first | assumption | exact W32.get (by assumption) _ | decide +kernel) lb (by first | assumption | exact W32.set (by assumption) (by first | assumption | exact wid_lt (by assumption)) | exact W32.zeros _ | exact W32.nil) (by assumption) w279 (r164.ext m275).rng (r165.ext m275).rng), ?_⟩
            rintro _ w280 ⟨rfl, m276⟩
            refine ⟨(((((((((Mod.refl [] w157).nt m249).nt m250).nt m271).nt m272).nt m273).nt m274).nt m275).nt m276), ?_⟩
            refine DR.det (i := 5) rfl rfl (by kernel_rfl) (.free rfl) rfl rfl (fun wD mD => op_move rfl) ?_
            refine DR.det (i := 6) rfl rfl (by kernel_rfl) (.free rfl) rfl rfl (fun wD mD => op_extract rfl rfl) ?_
            refine DR.det (i := 7) rfl rfl (by kernel_rfl) (.free rfl) rfl rfl (fun wD mD => op_extract rfl rfl) ?_
            refine DR.det (i := 8) rfl rfl (by kernel_rfl) (.free rfl) rfl rfl (fun wD mD => op_extract rfl rfl) ?_
            refine DR.st1 (i := 11) rfl rfl (by kernel_rfl) (.free rfl) rfl ?_
            intro w281 m277
            refine Op1.mono (op_store (i := 0) (cs := [.slice none 0 0, vI 0, .slice none 0 0, vI 0, vI 0, vF 0, vF 0, vF 0, vF 0, vF 0, vI 0, vF 0, vF 0, vF 0, vF 0, vF 0, vF 0, vF 0]) rfl rfl rfl Try.sizeOf61 rfl (((((r163.ext m273).ext m274).ext m275).ext m276).ext m277) rfl (lB rfl) rfl) ?_
            rintro _ w282 ⟨r166, m278, z89⟩
            have r167 : Row w282 w275.heap.size 0 [.slice none 0 0, vI 0, .slice none 0 0, vI 0, vI 0, vF 0, vF 0, vF 0, vF 0, vF 0, vI 0, vF 0, vF 0, vF 0, vF 0, vF 0, vF 0, vF 0] := Row.congr r166 rfl
            refine ⟨(((((((((((Mod.refl [] w157).nt m249).nt m250).nt m271).nt m272).nt m273).nt m274).nt m275).nt m276).nt m277).then m278 ((aC (.inr (lT (lT (lT m249.size m250.size) m271.size) lR)) aN))), ?_⟩
            refine DR.st1 (i := 12) rfl rfl (by kernel_rfl) (.free rfl) rfl ?_
            intro w283 m279
            refine Op1.mono (op_store (i := 0) (cs := fl (List.replicate 16 0)) rfl rfl rfl Try.sizeOf82 (fl_len List.length_replicate) (((((((((r150.ext m271).ext m272).ext m273).ext m274).ext m275).ext m276).ext m277).mod m278 (nC (lE (lL (lL r150.lt m271.size) lR)) nN)).ext m279) rfl (by rw [fl_length, List.length_replicate]; decide) (fl_one _)) ?_
            rintro _ w284 ⟨r168, m280, z90⟩
            have r169 : Row w284 w253.heap.size 0 (fl (List.replicate 16 0)) := Row.congr r168 (splice_all ((fl_len (List.length_replicate)).trans (fl_len (List.length_replicate)).symm))
            refine ⟨(((((((((((((Mod.refl [] w157).nt m249).nt m250).nt m271).nt m272).nt m273).nt m274).nt m275).nt m276).nt m277).then m278 ((aC (.inr (lT (lT (lT m249.size m250.size) m271.size) lR)) aN))).nt m279).then m280 ((aC (.inr (lT m249.size lR)) aN))), ?_⟩
            refine DR.sub [(4, .bool false), (6, vP e1_9_0 0), (7, vP e1_10_0 0), (8, vI 1), (10, vP b1 0), (14, vI 1), (15, vI 1), (16, vP w275.heap.size 0), (17, vP w253.heap.size 0), (104, vI 1)] ⟨rfl, rfl, rfl, rfl, rfl, rfl, rfl, rfl, rfl, rfl, trivial⟩ ?_
            refine DR.meet rfl ?_
            intro w285 m281
            exact ⟨bTr'12, bBr'12, w275.heap.size, w253.heap.size, rfl, (((((((r164.ext m275).ext m276).ext m277).mod m278 (nC (lG (lL (lL r163.lt m273.size) ge29)) nN)).ext m279).mod m280 (nC (lG (lL (lL r150.lt (lT (lT m271.size m272.size) m273.size)) ge29)) nN)).ext m281), (((((((r165.ext m275).ext m276).ext m277).mod m278 (nC (lG (lL (lL r163.lt m273.size) ge30)) nN)).ext m279).mod m280 (nC (lG (lL (lL r150.lt (lT (lT m271.size m272.size) m273.size)) ge30)) nN)).ext m281), (((r167.ext m279).mod m280 (nC (lG (lL (lL r150.lt m271.size) lR)) nN)).ext m281), (r169.ext m281), (lT (lT (lT (lT (lT (lT md4.size m249.size) m250.size) m271.size) m272.size) m273.size) ge29), (lT (lT (lT (lT (lT (lT md4.size m249.size) m250.size) m271.size) m272.size) m273.size) ge30), (lT (lT (lT (lT md4.size m249.size) m250.size) m271.size) lR), (lT (lT md4.size m249.size) lR), ne19, (lG (lL (lL r163.lt m273.size) ge29)), (lG (lL (lL r150.lt (lT (lT m271.size m272.size) m273.size)) ge29)), (lG (lL (lL r163.lt m273.size) ge30)), (lG (lL (lL r150.lt (lT (lT m271.size m272.size) m273.size)) ge30)), (lG (lL (lL r150.lt m271.size) lR)), (((((((((((((((Mod.refl [] w156).nt md4).nt m249).nt m250).nt m271).nt m272).nt m273).nt m274).nt m275).nt m276).nt m277).then m278 ((aC (.inr (lT (lT (lT (lT md4.size m249.size) m250.size) m271.size) lR)) aN))).nt m279).then m280 ((aC (.inr (lT (lT md4.size m249.size) lR)) aN))).nt m281)⟩
      · rintro _ w286 ⟨e4_1_0, e4_1_1, e4_9_0, e4_10_0, rfl, rr4_0, rr4_1, rr4_2, rr4_3, ge31, ge32, ge33, ge34, ne20, ne21, ne22, ne23, ne24, ne25, m282⟩
        refine WO.det (op_assign rfl) rfl (.free rfl) rfl rfl ?_
        refine WO.end ?_
        refine NE.code ?_
        refine CE.seq ?_
        refine CE.seq ?_
        refine CE.region ?_
        refine WL.det (op_loadA (i := 0) (cs := [.slice none 0 0, vI 0, .slice none 0 0, vI 0, vI 0, vF 0, vF 0, vF 0, vF 0, vF 0, vI 0, vF 0, vF 0, vF 0, vF 0, vF 0, vF 0, vF 0]) rfl Try.isAgg61 Try.sizeOf61 rr4_2.rng rfl rfl rfl) rfl rfl rfl ?_
        refine WL.det (op_loadA (i := 0) (cs := [.slice none 0 0, vI 0, .slice none 0 0, vI 0, vI 0, vF 0, vF 0, vF 0, vF 0, vF 0, vI 0, vF 0, vF 0, vF 0, vF 0, vF 0, vF 0, vF 0]) rfl Try.isAgg61 Try.sizeOf61 (((((((((((((((((((((((rr1_2.ext m134).ext m135).mod m136 (nC (lE (lL (lL rr1_2.lt m134.size) lR)) nN)).ext md2).ext m137).ext m138).mod m139 (nC (lE (lL (lL rr1_2.lt (lT (lT (lT m134.size m135.size) m136.size) md2.size)) ge17)) nN)).ext m140).mod m141 (nC (lE (lL (lL rr1_2.lt (lT (lT (lT m134.size m135.size) m136.size) md2.size)) ge18)) nN)).ext m142).ext m143).ext m144).ext md3).ext m145).ext m146).ext m147).ext m148).mod m149 (nC (lE (lL rr1_2.lt ge15)) (nC (lE (lL rr1_2.lt ge16)) nN))).ext m150).ext m151).ext m152).ext m153).ext m282).rng rfl rfl rfl) rfl rfl rfl ?_
        refine WL.call (oc_call (vs := [.agg #[.slice none 0 0, vI 0, .slice none 0 0, vI 0, vI 0, vF 0, vF 0, vF 0, vF 0, vF 0, vI 0, vF 0, vF 0, vF 0, vF 0, vF 0, vF 0, vF 0], .agg #[.slice none 0 0, vI 0, .slice none 0 0, vI 0, vI 0, vF 0, vF 0, vF 0, vF 0, vF 0, vI 0, vF 0, vF 0, vF 0, vF 0, vF 0, vF 0, vF 0]]) (cap := []) rfl rfl rfl Try.call34 (c_eqJet 0 0 none 0 0 [] (0 : Int) 0 0 none 0 0 [] (0 : Int) (0 : Int) 0 0 0 0 0 0 0 0 0 0 (0 : Int) 0 0 0 0 0 0 0 0 0 0 0 0 0 0 0 none 0 0 0 none 0 0 0 0 0 0 0 0 0 0 0 0 0 0 rfl (fun h => absurd h (Nat.lt_irrefl _)) rfl (fun h => absurd h (Nat.lt_irrefl _)) (fun h => absurd h (Nat.lt_irrefl _)) (fun h => absurd h (Nat.lt_irrefl _)) rfl rfl rfl rfl rfl rfl rfl rfl rfl rfl rfl rfl rfl rfl rfl rfl rfl rfl rfl rfl rfl rfl rfl rfl (by omega) (by omega) w286 (Rng.nil _ _ _) (Rng.nil _ _ _) (Rng.nil _ _ _) (Rng.nil _ _ _))) rfl rfl (ltb rfl) ?_
        rintro _ w287 ⟨rfl, m283⟩
        refine WL.det (op_not rfl) rfl rfl rfl ?_
        refine WL.det (op_move rfl) rfl rfl rfl ?_
        refine WL.yes rfl rfl rfl (ltb rfl) rfl rfl ?_
        refine WL.det (op_loadA (i := 0) (cs := fl (List.replicate 16 0)) rfl Try.isAgg82 Try.sizeOf82 (rr4_3.ext m283).rng rfl (fl_whole List.length_replicate) (fl_len List.length_replicate)) rfl rfl rfl ?_
        refine WL.yes rfl rfl rfl (ltb rfl) rfl rfl ?_
        refine WL.det (op_loadA (i := 0) (cs := fl (List.replicate 16 0)) rfl Try.isAgg82 Try.sizeOf82 ((((((((((((((((((((((((rr1_3.ext m134).ext m135).mod m136 (nC (lE (lL (lL rr1_3.lt m134.size) lR)) nN)).ext md2).ext m137).ext m138).mod m139 (nC (lE (lL (lL rr1_3.lt (lT (lT (lT m134.size m135.size) m136.size) md2.size)) ge17)) nN)).ext m140).mod m141 (nC (lE (lL (lL rr1_3.lt (lT (lT (lT m134.size m135.size) m136.size) md2.size)) ge18)) nN)).ext m142).ext m143).ext m144).ext md3).ext m145).ext m146).ext m147).ext m148).mod m149 (nC (lE (lL rr1_3.lt ge15)) (nC (lE (lL rr1_3.lt ge16)) nN))).ext m150).ext m151).ext m152).ext m153).ext m282).ext m283).rng rfl (fl_whole List.length_replicate) (fl_len List.length_replicate)) rfl rfl rfl ?_
        refine WL.yes rfl rfl rfl (ltb rfl) rfl rfl ?_
        refine WL.call (oc_call (vs := [.agg (fl (List.replicate 16 0)).toArray, .agg (fl (List.replicate 16 0)).toArray]) (cap := []) rfl rfl rfl Try.call51 (c_eqBlock_same (List.replicate 16 0) List.length_replicate w287)) rfl rfl (ltb rfl) ?_
        rintro _ w288 ⟨rfl, m284⟩
        refine WL.yes rfl rfl rfl (ltb rfl) rfl rfl ?_
        refine WL.det (op_not rfl) rfl rfl rfl ?_
        refine WL.det (op_pick_f rfl rfl rfl) rfl rfl rfl ?_
        refine WL.det (op_move rfl) rfl rfl rfl ?_
        refine WL.yes rfl rfl rfl (ltb rfl) rfl rfl ?_
        refine WL.det (op_move rfl) rfl rfl rfl ?_
        refine WL.yes rfl rfl rfl (ltb rfl) rfl rfl ?_
        refine WL.det (op_move rfl) rfl rfl rfl ?_
        refine WL.yes rfl rfl rfl (ltb rfl) rfl rfl ?_
        refine WL.det (op_nei rfl rfl) rfl rfl rfl ?_
        refine WL.det (op_pick_f rfl rfl rfl) rfl rfl rfl ?_
        refine WL.end ?_
        refine NE.code ?_
        refine CE.cond_f rfl rfl ?_
        refine CE.skip' ?_
        refine NE.code ?_
        refine CE.seq ?_
        refine CE.region ?_
        refine WL.det (op_assign rfl) rfl rfl rfl ?_
        refine WL.end ?_
        refine NE.code ?_
        refine CE.seq ?_
        refine CE.region ?_
        refine WL.det (op_loadA (i := 0) (cs := [.slice none 0 0, vI 0, .slice none 0 0, vI 0, vI 0, vF 0, vF 0, vF 0, vF 0, vF 0, vI 0, vF 0, vF 0, vF 0, vF 0, vF 0, vF 0, vF 0]) rfl Try.isAgg61 Try.sizeOf61 ((((((((((((((((((r87.ext m140).mod m141 (nC ne13 nN)).ext m142).ext m143).ext m144).ext md3).ext m145).ext m146).ext m147).ext m148).mod m149 (nC (lG (lL (lL r79.lt (lT (lT m135.size m136.size) md2.size)) ge17)) (nC (lG (lL (lL r80.lt (lT (lT m135.size m136.size) md2.size)) ge17)) nN))).ext m150).ext m151).ext m152).ext m153).ext m282).ext m283).ext m284).rng rfl rfl rfl) rfl rfl rfl ?_
        refine WL.det (op_move rfl) rfl rfl rfl ?_
        refine WL.call (oc_call (vs := [.agg #[.slice none 0 0, vI 0, .slice none 0 0, vI 0, vI 0, vF 0, vF 0, vF 0, vF 0, vF 0, vI 0, vF 0, vF 0, vF 0, vF 0, vF 0, vF 0, vF 0], vI 1]) (cap := []) rfl rfl rfl Try.call37 (c_heldJet_nil (0 : Int) (0 : Int) (0 : Int) 0 0 0 0 0 (0 : Int) 0 0 0 0 0 0 0 1 (by omega) w288)) rfl rfl (ltb rfl) ?_
        rintro _ w289 ⟨rfl, m285⟩
        refine WL.det (op_assign rfl) rfl rfl rfl ?_
        refine WL.end ?_
        refine NE.code ?_
        refine CE.seq ?_
        refine CE.seq ?_
        refine CE.region ?_
        refine WL.det (op_move rfl) rfl rfl rfl ?_
        refine WL.det (op_lti rfl rfl) rfl rfl rfl ?_
        refine WL.end ?_
        refine NE.code ?_
        refine CE.cond_f rfl rfl ?_
        refine CE.skip' ?_
        refine NE.code ?_
        refine CE.seq ?_
        refine CE.seq ?_
        refine CE.region ?_
        refine WL.det (op_move rfl) rfl rfl rfl ?_
        refine WL.det (op_move rfl) rfl rfl rfl ?_
        refine WL.det (op_nei rfl rfl) rfl rfl rfl ?_
        refine WL.end ?_
        refine NE.code ?_
        refine CE.cond_f rfl rfl ?_
        refine CE.skip' ?_
        refine NE.code ?_
        refine CE.seq ?_
        refine CE.region ?_
        refine WL.det (op_assign rfl) rfl rfl rfl ?_
        refine WL.end ?_
        refine NE.code ?_
        refine CE.ret' ?_
        refine XE.leave1 Try.results10 rfl ?_
        refine ⟨rfl, (((((((((((((((((((((((((((((((Mod.refl [] w).nt m1).nt m2).nt m4).nt m133).nt m134).nt m135).then m136 ((aC (.inr (lT (lT (lT (lT (lT m1.size m2.size) m4.size) m133.size) m134.size) lR)) aN))).nt md2).nt m137).nt m138).then m139 ((aC (.inr (lT (lT (lT (lT (lT (lT (lT (lT m1.size m2.size) m4.size) m133.size) m134.size) m135.size) m136.size) md2.size) ge17)) aN))).nt m140).then m141 ((aC (.inr (lT (lT (lT (lT (lT (lT (lT (lT m1.size m2.size) m4.size) m133.size) m134.size) m135.size) m136.size) md2.size) ge18)) aN))).nt m142).nt m143).nt m144).nt md3).nt m145).nt m146).nt m147).nt m148).then m149 ((aC (.inr (lT (lT (lT (lT m1.size m2.size) m4.size) m133.size) ge15)) (aC (.inr (lT (lT (lT (lT m1.size m2.size) m4.size) m133.size) ge16)) aN)))).nt m150).nt m151).nt m152).nt m153).nt m282).nt m283).nt m284).nt m285)⟩

end Go.Proofs.Ytkgdhlhmckdcmaa
