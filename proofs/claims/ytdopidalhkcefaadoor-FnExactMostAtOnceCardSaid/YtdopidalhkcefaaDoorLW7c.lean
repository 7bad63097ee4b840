/- The law on the most notes at once, walked. -/
import Derived.Test.YtdopidalhkcefaaDoorW7
import Derived.Test.YtdopidalhkcefaaDoorE8
set_option linter.unusedVariables false
set_option linter.unusedSimpArgs false
namespace Go.Proofs.YtdopidalhkcefaaDoor

set_option maxRecDepth 100000 in
set_option maxHeartbeats 8000000 in
theorem law_most (ra : Nat) (ba : Nat) (oc : Nat) (nD : Nat) (cD : Nat) (AD : Option Addr) (bD : Nat) (oD : Nat) (esD : List Nat) (nI : Nat) (cI : Nat) (AI : Option Addr) (bI : Nat) (oI : Nat) (esI : List InR) (nE : Nat) (cE : Nat) (AE : Option Addr) (bE : Nat) (oE : Nat) (esE : List EvR) (lnD : esD.length = nD) (hAD : 0 < nD → AD = some ⟨bD, oD, none⟩) (lnI : esI.length = nI) (hAI : 0 < nI → AI = some ⟨bI, oI, none⟩) (lnE : esE.length = nE) (hAE : 0 < nE → AE = some ⟨bE, oE, none⟩) (hnD : nD ≤ 1048576) (hnI : nI ≤ 1048576) (hnE : nE ≤ 1048576) (hS : ∀ i, (esI.getD i InR.d).name.size ≤ 9223372036854775807) (hW : ∀ i, EvW (esE.getD i EvR.d)) (hl : (nD + nI + nmSum esI nI + nE) ≤ 1048576) (w : World) (rD : Rng w bD oD (fl esD)) (rI : Rng w bI oI (cat InR.cells esI)) (rE : Rng w bE oE (cat EvR.cells esE)) : Cl Tryd.prog 7 #[.agg #[vF ra, vF ba, vF oc, .slice AD nD cD, .slice AI nI cI, .slice AE nE cE]] w fun v w' => v = .bool true ∧ Mod [] w w' := by
  refine Cl.of Tryd.func7 Tryd.ntmps7 rfl rfl (ρ := [(0, .agg #[vF ra, vF ba, vF oc, .slice AD nD cD, .slice AI nI cI, .slice AE nE cE])]) rfl ?_
  refine CE.seq ?_
  refine CE.region ?_
  refine WL.op (op_box (cs := [vF ra, vF ba, vF oc, .slice AD nD cD, .slice AI nI cI, .slice AE nE cE]) rfl rfl) rfl rfl (ltb rfl) ?_
  rintro _ w1 ⟨rfl, r1, m1, z1⟩
  refine WL.det (op_assign rfl) rfl rfl rfl ?_
  refine WL.end ?_
  refine NE.code ?_
  refine CE.seq ?_
  refine CE.region ?_
  refine WL.det (op_assign rfl) rfl rfl rfl ?_
  refine WL.end ?_
  refine NE.code ?_
  refine CE.seq ?_
  refine CE.region ?_
  refine WL.det (op_loadA (i := 0) (cs := [vF ra, vF ba, vF oc, .slice AD nD cD, .slice AI nI cI, .slice AE nE cE]) rfl Tryd.isAgg36 Tryd.sizeOf36 r1.rng rfl rfl rfl) rfl rfl rfl ?_
  refine WL.det (op_move rfl) rfl rfl rfl ?_
  refine WL.call (oc_call (vs := [.agg #[vF ra, vF ba, vF oc, .slice AD nD cD, .slice AI nI cI, .slice AE nE cE], vI 1048576]) (cap := []) rfl rfl rfl Tryd.call13 (c_szScore ra ba oc nD cD AD bD oD esD nI cI AI bI oI esI nE cE AE bE oE esE 1048576 lnD hAD lnI hAI lnE hAE (by omega) (by omega) (by omega) hS (by omega) hl w1 (rD.ext m1) (rI.ext m1) (rE.ext m1))) rfl rfl (ltb rfl) ?_
  rintro _ w2 ⟨rfl, m2⟩
  refine WL.det (op_assign rfl) rfl rfl rfl ?_
  refine WL.end ?_
  refine NE.code ?_
  refine CE.seq ?_
  refine CE.seq ?_
  refine CE.region ?_
  refine WL.det (op_move rfl) rfl rfl rfl ?_
  refine WL.det (op_lti_f rfl rfl (by omega)) rfl rfl rfl ?_
  refine WL.end ?_
  refine NE.code ?_
  refine CE.cond_f rfl rfl ?_
  refine CE.skip' ?_
  refine NE.code ?_
  refine CE.seq ?_
  refine CE.region ?_
  refine WL.det (op_loadA (i := 0) (cs := [vF ra, vF ba, vF oc, .slice AD nD cD, .slice AI nI cI, .slice AE nE cE]) rfl Tryd.isAgg36 Tryd.sizeOf36 (r1.ext m2).rng rfl rfl rfl) rfl rfl rfl ?_
  refine WL.call (oc_call (vs := [.agg #[vF ra, vF ba, vF oc, .slice AD nD cD, .slice AI nI cI, .slice AE nE cE]]) (cap := []) rfl rfl rfl Tryd.call15 (c_toScore ra ba oc nD cD AD bD oD esD nI cI AI bI oI esI nE cE AE bE oE esE lnD hAD hnD lnI hAI hnI lnE hAE hnE w2 ((rD.ext m1).ext m2) ((rI.ext m1).ext m2) ((rE.ext m1).ext m2))) rfl rfl (ltb rfl) ?_
  rintro _ w3 ⟨bD'1, bI'1, bE'1, rfl, r2, r3, r4, ge1, ge2, ge3, ne1, ne2, ne3, m3⟩
  rcases Bool.eq_false_or_eq_true (vScS ra ba oc esD nD esI nI esE nE) with hb1 | hb1
  · refine WL.call (oc_call (vs := [.agg #[vF ra, vF ba, vF oc, vS bD'1 0 nD nD, vS bI'1 0 nI nI, vS bE'1 0 nE nE]]) (cap := []) rfl rfl rfl Tryd.call22 (c_sMost ra ba oc nD bD'1 esD nI bI'1 esI nE bE'1 esE lnD lnI lnE hnD hnI hnE hS hW (by assumption) w3 r2.rng r3.rng r4.rng)) rfl rfl (ltb rfl) ?_
    rintro _ w4 ⟨rfl, m4⟩
    refine WL.det (op_move rfl) rfl rfl rfl ?_
    refine WL.det (op_extract rfl rfl) rfl rfl rfl ?_
    refine WL.det (op_extract rfl rfl) rfl rfl rfl ?_
    refine WL.det (op_assign rfl) rfl rfl rfl ?_
    refine WL.det (op_assign rfl) rfl rfl rfl ?_
    refine WL.end ?_
    refine NE.code ?_
    refine CE.seq ?_
    refine CE.region ?_
    refine WL.det (op_loadA (i := 0) (cs := [vF ra, vF ba, vF oc, .slice AD nD cD, .slice AI nI cI, .slice AE nE cE]) rfl Tryd.isAgg36 Tryd.sizeOf36 (((r1.ext m2).ext m3).ext m4).rng rfl rfl rfl) rfl rfl rfl ?_
    refine WL.call (oc_call (vs := [.agg #[vF ra, vF ba, vF oc, .slice AD nD cD, .slice AI nI cI, .slice AE nE cE]]) (cap := []) rfl rfl rfl Tryd.call15 (c_toScore ra ba oc nD cD AD bD oD esD nI cI AI bI oI esI nE cE AE bE oE esE lnD hAD hnD lnI hAI hnI lnE hAE hnE w4 ((((rD.ext m1).ext m2).ext m3).ext m4) ((((rI.ext m1).ext m2).ext m3).ext m4) ((((rE.ext m1).ext m2).ext m3).ext m4))) rfl rfl (ltb rfl) ?_
    rintro _ w5 ⟨bD'2, bI'2, bE'2, rfl, r5, r6, r7, ge4, ge5, ge6, ne4, ne5, ne6, m5⟩
    refine WL.op (op_alloc (cs := [vF 0, vF 0, vF 0, .slice none 0 0, .slice none 0 0, .slice none 0 0]) Tryd.zeroValue43 rfl) rfl rfl (ltb rfl) ?_
    rintro _ w6 ⟨rfl, r8, m6, z2⟩
    refine WL.op0 (op_store (i := 0) (cs := [vF ra, vF ba, vF oc, vS bD'2 0 nD nD, vS bI'2 0 nI nI, vS bE'2 0 nE nE]) rfl rfl rfl Tryd.sizeOf43 rfl r8 rfl (lB rfl) rfl) rfl rfl ?_
    rintro _ w7 ⟨r9, m7, z3⟩
    have r10 : Row w7 w5.heap.size 0 [vF ra, vF ba, vF oc, vS bD'2 0 nD nD, vS bI'2 0 nI nI, vS bE'2 0 nE nE] := Row.congr r9 rfl
    refine WL.end ?_
    refine NE.code ?_
    refine CE.seq ?_
    refine CE.region ?_
    refine WL.det (op_loadA (i := 0) (cs := [vF ra, vF ba, vF oc, vS bD'2 0 nD nD, vS bI'2 0 nI nI, vS bE'2 0 nE nE]) rfl Tryd.isAgg43 Tryd.sizeOf43 r10.rng rfl rfl rfl) rfl rfl rfl ?_
    refine WL.call (oc_call (vs := [.agg #[vF ra, vF ba, vF oc, vS bD'2 0 nD nD, vS bI'2 0 nI nI, vS bE'2 0 nE nE]]) (cap := []) rfl rfl rfl Tryd.call23 (c_iMost ra ba oc nD bD'2 esD nI bI'2 esI nE bE'2 esE lnD lnI lnE hnD hnI hnE hS hW (by assumption) w7 ((r5.ext m6).mod m7 (nC (lE (lL r5.lt lR)) nN)).rng ((r6.ext m6).mod m7 (nC (lE (lL r6.lt lR)) nN)).rng ((r7.ext m6).mod m7 (nC (lE (lL r7.lt lR)) nN)).rng)) rfl rfl (ltb rfl) ?_
    rintro _ w8 ⟨rfl, m8⟩
    refine WL.det (op_move rfl) rfl rfl rfl ?_
    refine WL.det (op_extract rfl rfl) rfl rfl rfl ?_
    refine WL.det (op_extract rfl rfl) rfl rfl rfl ?_
    refine WL.det (op_assign rfl) rfl rfl rfl ?_
    refine WL.det (op_assign rfl) rfl rfl rfl ?_
    refine WL.end ?_
    refine NE.code ?_
    refine CE.seq ?_
    refine CE.seq ?_
    refine CE.region ?_
    refine WL.det (op_move rfl) rfl rfl rfl ?_
    refine WL.det (op_move rfl) rfl rfl rfl ?_
    refine WL.det (op_nei_f rfl rfl rfl) rfl rfl rfl ?_
    refine WL.det (op_move rfl) rfl rfl rfl ?_
    refine WL.yes rfl rfl rfl (ltb rfl) rfl rfl ?_
    refine WL.det (op_move rfl) rfl rfl rfl ?_
    refine WL.yes rfl rfl rfl (ltb rfl) rfl rfl ?_
    refine WL.det (op_move rfl) rfl rfl rfl ?_
    refine WL.yes rfl rfl rfl (ltb rfl) rfl rfl ?_
    refine WL.det (op_nei rfl rfl) rfl rfl rfl ?_
    refine WL.det (op_pick_f rfl rfl rfl) rfl rfl rfl ?_
    refine WL.end ?_
    refine NE.code ?_
    refine CE.cond_f rfl rfl ?_
    refine CE.skip' ?_
    refine NE.code ?_
    refine CE.seq ?_
    refine CE.seq ?_
    refine CE.draw (fun | 2 => some (fun _ wA uA wB => ∃ (bD' : Nat) (bI' : Nat) (bE' : Nat), uA = .agg #[vF ra, vF ba, vF oc, vS bD' 0 nD nD, vS bI' 0 nI nI, vS bE' 0 nE nE] ∧ Row wB bD' 0 (fl esD) ∧ Row wB bI' 0 (cat InR.cells esI) ∧ Row wB bE' 0 (cat EvR.cells esE) ∧ wA.heap.size ≤ bD' ∧ wA.heap.size ≤ bI' ∧ wA.heap.size ≤ bE' ∧ bD' ≠ bI' ∧ bD' ≠ bE' ∧ bI' ≠ bE' ∧ Mod [] wA wB) | _ => none) [0, 1, 2] [3, 4] [] (by kernel_rfl) (by kernel_rfl) ?_
    have md1 : Mod [] w8 w8.drew := (Mod.refl _ _).drew
    generalize w8.drew = w9 at md1 ⊢
    refine DR.det (i := 0) rfl rfl (by kernel_rfl) (.free rfl) rfl rfl (fun wD mD => op_loadA (i := 0) (cs := [vF ra, vF ba, vF oc, vS bD'2 0 nD nD, vS bI'2 0 nI nI, vS bE'2 0 nE nE]) rfl Tryd.isAgg43 Tryd.sizeOf43 (((r10.ext m8).ext md1).ext mD).rng rfl rfl rfl) ?_
    refine DR.det (i := 1) rfl rfl (by kernel_rfl) (.free rfl) rfl rfl (fun wD mD => op_loadA (i := 0) (cs := [vF ra, vF ba, vF oc, .slice AD nD cD, .slice AI nI cI, .slice AE nE cE]) rfl Tryd.isAgg36 Tryd.sizeOf36 (((((((((r1.ext m2).ext m3).ext m4).ext m5).ext m6).mod m7 (nC (lE (lL (lL r1.lt (lT (lT (lT m2.size m3.size) m4.size) m5.size)) lR)) nN)).ext m8).ext md1).ext mD).rng rfl rfl rfl) ?_
    refine DR.one (i := 2) rfl rfl (by kernel_rfl) (.free rfl) rfl (ltb rfl) (vs := [.func (.func 15) #[] #[], .agg #[vF ra, vF ba, vF oc, .slice AD nD cD, .slice AI nI cI, .slice AE nE cE]]) rfl ?_
    intro w10 m9
    refine ⟨oc_call (vs := [.agg #[vF ra, vF ba, vF oc, .slice AD nD cD, .slice AI nI cI, .slice AE nE cE]]) (cap := []) rfl rfl rfl Tryd.call15 (c_toScore ra ba oc nD cD AD bD oD esD nI cI AI bI oI esI nE cE AE bE oE esE lnD hAD hnD lnI hAI hnI lnE hAE hnE w10 ((((Rng.youngS rD ((((((rD.ext m1).ext m2).ext m3).ext m4).ext m5).ext m6) m7 (allge_cons (lT (lT (lT (lT (lT m1.size m2.size) m3.size) m4.size) m5.size) lR) allge_nil)).ext m8).ext md1).ext m9) ((((Rng.youngS rI ((((((rI.ext m1).ext m2).ext m3).ext m4).ext m5).ext m6) m7 (allge_cons (lT (lT (lT (lT (lT m1.size m2.size) m3.size) m4.size) m5.size) lR) allge_nil)).ext m8).ext md1).ext m9) ((((Rng.youngS rE ((((((rE.ext m1).ext m2).ext m3).ext m4).ext m5).ext m6) m7 (allge_cons (lT (lT (lT (lT (lT m1.size m2.size) m3.size) m4.size) m5.size) lR) allge_nil)).ext m8).ext md1).ext m9)), ?_⟩
    rintro _ w11 ⟨bD'3, bI'3, bE'3, rfl, r11, r12, r13, ge7, ge8, ge9, ne7, ne8, ne9, m10⟩
    refine ⟨(((Mod.refl [] w9).nt m9).nt m10), ?_⟩
    refine DR.done rfl ?_
    intro w12 m11
    refine WO.call rfl (.free rfl) rfl (ltb rfl) (oc_call (vs := [.agg #[vF ra, vF ba, vF oc, vS bD'2 0 nD nD, vS bI'2 0 nI nI, vS bE'2 0 nE nE], .agg #[vF ra, vF ba, vF oc, vS bD'3 0 nD nD, vS bI'3 0 nI nI, vS bE'3 0 nE nE]]) (cap := []) rfl rfl rfl Tryd.call17 (c_eqScore ra ba oc nD nD (some ⟨bD'2, 0, none⟩) bD'2 0 esD nI nI (some ⟨bI'2, 0, none⟩) bI'2 0 esI nE nE (some ⟨bE'2, 0, none⟩) bE'2 0 esE nD (some ⟨bD'3, 0, none⟩) bD'3 0 nI (some ⟨bI'3, 0, none⟩) bI'3 0 nE (some ⟨bE'3, 0, none⟩) bE'3 0 lnD (fun _ => rfl) lnI (fun _ => rfl) lnE (fun _ => rfl) (by omega) (by omega) (by omega) (fun _ => rfl) (fun _ => rfl) (fun _ => rfl) w12 (((((((r5.ext m6).mod m7 (nC (lE (lL r5.lt lR)) nN)).ext m8).ext md1).ext m9).ext m10).ext m11).rng (((((((r6.ext m6).mod m7 (nC (lE (lL r6.lt lR)) nN)).ext m8).ext md1).ext m9).ext m10).ext m11).rng (((((((r7.ext m6).mod m7 (nC (lE (lL r7.lt lR)) nN)).ext m8).ext md1).ext m9).ext m10).ext m11).rng (r11.ext m11).rng (r12.ext m11).rng (r13.ext m11).rng)) ?_
    rintro _ w13 ⟨rfl, m12⟩
    refine WO.det (op_not rfl) rfl (.free rfl) rfl rfl ?_
    refine WO.end ?_
    refine NE.code ?_
    refine CE.cond_f rfl rfl ?_
    refine CE.skip' ?_
    refine NE.code ?_
    refine CE.seq ?_
    refine CE.region ?_
    refine WL.det (op_assign rfl) rfl rfl rfl ?_
    refine WL.end ?_
    refine NE.code ?_
    refine CE.ret' ?_
    refine XE.leave1 Tryd.results7 rfl ?_
    refine ⟨rfl, ((((((((((((((Mod.refl [] w).nt m1).nt m2).nt m3).nt m4).nt m5).nt m6).then m7 ((aC (.inr (lT (lT (lT (lT (lT m1.size m2.size) m3.size) m4.size) m5.size) lR)) aN))).nt m8).nt md1).nt m9).nt m10).nt m11).nt m12)⟩
  · refine WL.call (oc_call (vs := [.agg #[vF ra, vF ba, vF oc, vS bD'1 0 nD nD, vS bI'1 0 nI nI, vS bE'1 0 nE nE]]) (cap := []) rfl rfl rfl Tryd.call22 (c_sMost_inv ra ba oc nD bD'1 esD nI bI'1 esI nE bE'1 esE lnD lnI lnE hnD hnI hnE hS hW (by assumption) w3 r2.rng r3.rng r4.rng)) rfl rfl (ltb rfl) ?_
    rintro _ w14 ⟨rfl, m13⟩
    refine WL.det (op_move rfl) rfl rfl rfl ?_
    refine WL.det (op_extract rfl rfl) rfl rfl rfl ?_
    refine WL.det (op_extract rfl rfl) rfl rfl rfl ?_
    refine WL.det (op_assign rfl) rfl rfl rfl ?_
    refine WL.det (op_assign rfl) rfl rfl rfl ?_
    refine WL.end ?_
    refine NE.code ?_
    refine CE.seq ?_
    refine CE.region ?_
    refine WL.det (op_loadA (i := 0) (cs := [vF ra, vF ba, vF oc, .slice AD nD cD, .slice AI nI cI, .slice AE nE cE]) rfl Tryd.isAgg36 Tryd.sizeOf36 (((r1.ext m2).ext m3).ext m13).rng rfl rfl rfl) rfl rfl rfl ?_
    refine WL.call (oc_call (vs := [.agg #[vF ra, vF ba, vF oc, .slice AD nD cD, .slice AI nI cI, .slice AE nE cE]]) (cap := []) rfl rfl rfl Tryd.call15 (c_toScore ra ba oc nD cD AD bD oD esD nI cI AI bI oI esI nE cE AE bE oE esE lnD hAD hnD lnI hAI hnI lnE hAE hnE w14 ((((rD.ext m1).ext m2).ext m3).ext m13) ((((rI.ext m1).ext m2).ext m3).ext m13) ((((rE.ext m1).ext m2).ext m3).ext m13))) rfl rfl (ltb rfl) ?_
    rintro _ w15 ⟨bD'4, bI'4, bE'4, rfl, r14, r15, r16, ge10, ge11, ge12, ne10, ne11, ne12, m14⟩
    refine WL.op (op_alloc (cs := [vF 0, vF 0, vF 0, .slice none 0 0, .slice none 0 0, .slice none 0 0]) Tryd.zeroValue43 rfl) rfl rfl (ltb rfl) ?_
    rintro _ w16 ⟨rfl, r17, m15, z4⟩
    refine WL.op0 (op_store (i := 0) (cs := [vF ra, vF ba, vF oc, vS bD'4 0 nD nD, vS bI'4 0 nI nI, vS bE'4 0 nE nE]) rfl rfl rfl Tryd.sizeOf43 rfl r17 rfl (lB rfl) rfl) rfl rfl ?_
    rintro _ w17 ⟨r18, m16, z5⟩
    have r19 : Row w17 w15.heap.size 0 [vF ra, vF ba, vF oc, vS bD'4 0 nD nD, vS bI'4 0 nI nI, vS bE'4 0 nE nE] := Row.congr r18 rfl
    refine WL.end ?_
    refine NE.code ?_
    refine CE.seq ?_
    refine CE.region ?_
    refine WL.det (op_loadA (i := 0) (cs := [vF ra, vF ba, vF oc, vS bD'4 0 nD nD, vS bI'4 0 nI nI, vS bE'4 0 nE nE]) rfl Tryd.isAgg43 Tryd.sizeOf43 r19.rng rfl rfl rfl) rfl rfl rfl ?_
    refine WL.call (oc_call (vs := [.agg #[vF ra, vF ba, vF oc, vS bD'4 0 nD nD, vS bI'4 0 nI nI, vS bE'4 0 nE nE]]) (cap := []) rfl rfl rfl Tryd.call23 (c_iMost_inv ra ba oc nD bD'4 esD nI bI'4 esI nE bE'4 esE lnD lnI lnE hnD hnI hnE hS hW (by assumption) w17 ((r14.ext m15).mod m16 (nC (lE (lL r14.lt lR)) nN)).rng ((r15.ext m15).mod m16 (nC (lE (lL r15.lt lR)) nN)).rng ((r16.ext m15).mod m16 (nC (lE (lL r16.lt lR)) nN)).rng)) rfl rfl (ltb rfl) ?_
    rintro _ w18 ⟨rfl, m17⟩
    refine WL.det (op_move rfl) rfl rfl rfl ?_
    refine WL.det (op_extract rfl rfl) rfl rfl rfl ?_
    refine WL.det (op_extract rfl rfl) rfl rfl rfl ?_
    refine WL.det (op_assign rfl) rfl rfl rfl ?_
    refine WL.det (op_assign rfl) rfl rfl rfl ?_
    refine WL.end ?_
    refine NE.code ?_
    refine CE.seq ?_
    refine CE.seq ?_
    refine CE.region ?_
    refine WL.det (op_move rfl) rfl rfl rfl ?_
    refine WL.det (op_move rfl) rfl rfl rfl ?_
    refine WL.det (op_nei rfl rfl) rfl rfl rfl ?_
    refine WL.det (op_move rfl) rfl rfl rfl ?_
    refine WL.yes rfl rfl rfl (ltb rfl) rfl rfl ?_
    refine WL.det (op_move rfl) rfl rfl rfl ?_
    refine WL.yes rfl rfl rfl (ltb rfl) rfl rfl ?_
    refine WL.det (op_move rfl) rfl rfl rfl ?_
    refine WL.yes rfl rfl rfl (ltb rfl) rfl rfl ?_
    refine WL.det (op_nei rfl rfl) rfl rfl rfl ?_
    refine WL.det (op_pick_f rfl rfl rfl) rfl rfl rfl ?_
    refine WL.end ?_
    refine NE.code ?_
    refine CE.cond_f rfl rfl ?_
    refine CE.skip' ?_
    refine NE.code ?_
    refine CE.seq ?_
    refine CE.seq ?_
    refine CE.draw (fun | 2 => some (fun _ wA uA wB => ∃ (bD' : Nat) (bI' : Nat) (bE' : Nat), uA = .agg #[vF ra, vF ba, vF oc, vS bD' 0 nD nD, vS bI' 0 nI nI, vS bE' 0 nE nE] ∧ Row wB bD' 0 (fl esD) ∧ Row wB bI' 0 (cat InR.cells esI) ∧ Row wB bE' 0 (cat EvR.cells esE) ∧ wA.heap.size ≤ bD' ∧ wA.heap.size ≤ bI' ∧ wA.heap.size ≤ bE' ∧ bD' ≠ bI' ∧ bD' ≠ bE' ∧ bI' ≠ bE' ∧ Mod [] wA wB) | _ => none) [0, 1, 2] [3, 4] [] (by kernel_rfl) (by kernel_rfl) ?_
    have md2 : Mod [] w18 w18.drew := (Mod.refl _ _).drew
    generalize w18.drew = w19 at md2 ⊢
    refine DR.det (i := 0) rfl rfl (by kernel_rfl) (.free rfl) rfl rfl (fun wD mD => op_loadA (i := 0) (cs := [vF ra, vF ba, vF oc, vS bD'4 0 nD nD, vS bI'4 0 nI nI, vS bE'4 0 nE nE]) rfl Tryd.isAgg43 Tryd.sizeOf43 (((r19.ext m17).ext md2).ext mD).rng rfl rfl rfl) ?_
    refine DR.det (i := 1) rfl rfl (by kernel_rfl) (.free rfl) rfl rfl (fun wD mD => op_loadA (i := 0) (cs := [vF ra, vF ba, vF oc, .slice AD nD cD, .slice AI nI cI, .slice AE nE cE]) rfl Tryd.isAgg36 Tryd.sizeOf36 (((((((((r1.ext m2).ext m3).ext m13).ext m14).ext m15).mod m16 (nC (lE (lL (lL r1.lt (lT (lT (lT m2.size m3.size) m13.size) m14.size)) lR)) nN)).ext m17).ext md2).ext mD).rng rfl rfl rfl) ?_
    refine DR.one (i := 2) rfl rfl (by kernel_rfl) (.free rfl) rfl (ltb rfl) (vs := [.func (.func 15) #[] #[], .agg #[vF ra, vF ba, vF oc, .slice AD nD cD, .slice AI nI cI, .slice AE nE cE]]) rfl ?_
    intro w20 m18
    refine ⟨oc_call (vs := [.agg #[vF ra, vF ba, vF oc, .slice AD nD cD, .slice AI nI cI, .slice AE nE cE]]) (cap := []) rfl rfl rfl Tryd.call15 (c_toScore ra ba oc nD cD AD bD oD esD nI cI AI bI oI esI nE cE AE bE oE esE lnD hAD hnD lnI hAI hnI lnE hAE hnE w20 ((((Rng.youngS rD ((((((rD.ext m1).ext m2).ext m3).ext m13).ext m14).ext m15) m16 (allge_cons (lT (lT (lT (lT (lT m1.size m2.size) m3.size) m13.size) m14.size) lR) allge_nil)).ext m17).ext md2).ext m18) ((((Rng.youngS rI ((((((rI.ext m1).ext m2).ext m3).ext m13).ext m14).ext m15) m16 (allge_cons (lT (lT (lT (lT (lT m1.size m2.size) m3.size) m13.size) m14.size) lR) allge_nil)).ext m17).ext md2).ext m18) ((((Rng.youngS rE ((((((rE.ext m1).ext m2).ext m3).ext m13).ext m14).ext m15) m16 (allge_cons (lT (lT (lT (lT (lT m1.size m2.size) m3.size) m13.size) m14.size) lR) allge_nil)).ext m17).ext md2).ext m18)), ?_⟩
    rintro _ w21 ⟨bD'5, bI'5, bE'5, rfl, r20, r21, r22, ge13, ge14, ge15, ne13, ne14, ne15, m19⟩
    refine ⟨(((Mod.refl [] w19).nt m18).nt m19), ?_⟩
    refine DR.done rfl ?_
    intro w22 m20
    refine WO.call rfl (.free rfl) rfl (ltb rfl) (oc_call (vs := [.agg #[vF ra, vF ba, vF oc, vS bD'4 0 nD nD, vS bI'4 0 nI nI, vS bE'4 0 nE nE], .agg #[vF ra, vF ba, vF oc, vS bD'5 0 nD nD, vS bI'5 0 nI nI, vS bE'5 0 nE nE]]) (cap := []) rfl rfl rfl Tryd.call17 (c_eqScore ra ba oc nD nD (some ⟨bD'4, 0, none⟩) bD'4 0 esD nI nI (some ⟨bI'4, 0, none⟩) bI'4 0 esI nE nE (some ⟨bE'4, 0, none⟩) bE'4 0 esE nD (some ⟨bD'5, 0, none⟩) bD'5 0 nI (some ⟨bI'5, 0, none⟩) bI'5 0 nE (some ⟨bE'5, 0, none⟩) bE'5 0 lnD (fun _ => rfl) lnI (fun _ => rfl) lnE (fun _ => rfl) (by omega) (by omega) (by omega) (fun _ => rfl) (fun _ => rfl) (fun _ => rfl) w22 (((((((r14.ext m15).mod m16 (nC (lE (lL r14.lt lR)) nN)).ext m17).ext md2).ext m18).ext m19).ext m20).rng (((((((r15.ext m15).mod m16 (nC (lE (lL r15.lt lR)) nN)).ext m17).ext md2).ext m18).ext m19).ext m20).rng (((((((r16.ext m15).mod m16 (nC (lE (lL r16.lt lR)) nN)).ext m17).ext md2).ext m18).ext m19).ext m20).rng (r20.ext m20).rng (r21.ext m20).rng (r22.ext m20).rng)) ?_
    rintro _ w23 ⟨rfl, m21⟩
    refine WO.det (op_not rfl) rfl (.free rfl) rfl rfl ?_
    refine WO.end ?_
    refine NE.code ?_
    refine CE.cond_f rfl rfl ?_
    refine CE.skip' ?_
    refine NE.code ?_
    refine CE.seq ?_
    refine CE.region ?_
    refine WL.det (op_assign rfl) rfl rfl rfl ?_
    refine WL.end ?_
    refine NE.code ?_
    refine CE.ret' ?_
    refine XE.leave1 Tryd.results7 rfl ?_
    refine ⟨rfl, ((((((((((((((Mod.refl [] w).nt m1).nt m2).nt m3).nt m13).nt m14).nt m15).then m16 ((aC (.inr (lT (lT (lT (lT (lT m1.size m2.size) m3.size) m13.size) m14.size) lR)) aN))).nt m17).nt md2).nt m18).nt m19).nt m20).nt m21)⟩

set_option maxRecDepth 100000 in
set_option maxHeartbeats 8000000 in
theorem law_most_o (ra : Nat) (ba : Nat) (oc : Nat) (nD : Nat) (cD : Nat) (AD : Option Addr) (bD : Nat) (oD : Nat) (esD : List Nat) (nI : Nat) (cI : Nat) (AI : Option Addr) (bI : Nat) (oI : Nat) (esI : List InR) (nE : Nat) (cE : Nat) (AE : Option Addr) (bE : Nat) (oE : Nat) (esE : List EvR) (lnD : esD.length = nD) (hAD : 0 < nD → AD = some ⟨bD, oD, none⟩) (lnI : esI.length = nI) (hAI : 0 < nI → AI = some ⟨bI, oI, none⟩) (lnE : esE.length = nE) (hAE : 0 < nE → AE = some ⟨bE, oE, none⟩) (hnD : nD ≤ 9223372036854775807) (hnI : nI ≤ 9223372036854775807) (hnE : nE ≤ 9223372036854775807) (hS : ∀ i, (esI.getD i InR.d).name.size ≤ 9223372036854775807) (hW : ∀ i, EvW (esE.getD i EvR.d)) (hl : 1048576 < (nD + nI + nmSum esI nI + nE)) (w : World) (rD : Rng w bD oD (fl esD)) (rI : Rng w bI oI (cat InR.cells esI)) (rE : Rng w bE oE (cat EvR.cells esE)) : Cl Tryd.prog 7 #[.agg #[vF ra, vF ba, vF oc, .slice AD nD cD, .slice AI nI cI, .slice AE nE cE]] w fun v w' => v = .bool true ∧ Mod [] w w' := by
  refine Cl.of Tryd.func7 Tryd.ntmps7 rfl rfl (ρ := [(0, .agg #[vF ra, vF ba, vF oc, .slice AD nD cD, .slice AI nI cI, .slice AE nE cE])]) rfl ?_
  refine CE.seq ?_
  refine CE.region ?_
  refine WL.op (op_box (cs := [vF ra, vF ba, vF oc, .slice AD nD cD, .slice AI nI cI, .slice AE nE cE]) rfl rfl) rfl rfl (ltb rfl) ?_
  rintro _ w1 ⟨rfl, r1, m1, z1⟩
  refine WL.det (op_assign rfl) rfl rfl rfl ?_
  refine WL.end ?_
  refine NE.code ?_
  refine CE.seq ?_
  refine CE.region ?_
  refine WL.det (op_assign rfl) rfl rfl rfl ?_
  refine WL.end ?_
  refine NE.code ?_
  refine CE.seq ?_
  refine CE.region ?_
  refine WL.det (op_loadA (i := 0) (cs := [vF ra, vF ba, vF oc, .slice AD nD cD, .slice AI nI cI, .slice AE nE cE]) rfl Tryd.isAgg36 Tryd.sizeOf36 r1.rng rfl rfl rfl) rfl rfl rfl ?_
  refine WL.det (op_move rfl) rfl rfl rfl ?_
  refine WL.call (oc_call (vs := [.agg #[vF ra, vF ba, vF oc, .slice AD nD cD, .slice AI nI cI, .slice AE nE cE], vI 1048576]) (cap := []) rfl rfl rfl Tryd.call13 (c_szScore_over ra ba oc nD cD AD bD oD esD nI cI AI bI oI esI nE cE AE bE oE esE 1048576 lnD hAD lnI hAI lnE hAE hnD hnI hnE hS (by omega) hl w1 (rD.ext m1) (rI.ext m1) (rE.ext m1))) rfl rfl (ltb rfl) ?_
  rintro _ w2 ⟨rfl, m2⟩
  refine WL.det (op_assign rfl) rfl rfl rfl ?_
  refine WL.end ?_
  refine NE.code ?_
  refine CE.seq ?_
  refine CE.seq ?_
  refine CE.region ?_
  refine WL.det (op_move rfl) rfl rfl rfl ?_
  refine WL.det (op_lti rfl rfl) rfl rfl rfl ?_
  refine WL.end ?_
  refine NE.code ?_
  refine CE.cond_t rfl rfl ?_
  refine CE.seq ?_
  refine CE.region ?_
  refine WL.det (op_assign rfl) rfl rfl rfl ?_
  refine WL.end ?_
  refine NE.code ?_
  refine CE.ret' ?_
  refine XE.ret_then ?_
  refine XE.leave1 Tryd.results7 rfl ?_
  refine ⟨rfl, (((Mod.refl [] w).nt m1).nt m2)⟩

end Go.Proofs.YtdopidalhkcefaaDoor
