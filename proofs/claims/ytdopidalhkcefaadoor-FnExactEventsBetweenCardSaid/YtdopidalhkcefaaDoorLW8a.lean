/- The law on the events between two times, walked. -/
import Derived.Test.YtdopidalhkcefaaDoorW8
import Derived.Test.YtdopidalhkcefaaDoorE13
import Derived.Test.YtdopidalhkcefaaDoorE8
set_option linter.unusedVariables false
set_option linter.unusedSimpArgs false
namespace Go.Proofs.YtdopidalhkcefaaDoor

set_option maxRecDepth 100000 in
set_option maxHeartbeats 8000000 in
theorem law_betw (ra : Nat) (ba : Nat) (oc : Nat) (nD : Nat) (cD : Nat) (AD : Option Addr) (bD : Nat) (oD : Nat) (esD : List Nat) (nI : Nat) (cI : Nat) (AI : Option Addr) (bI : Nat) (oI : Nat) (esI : List InR) (nE : Nat) (cE : Nat) (AE : Option Addr) (bE : Nat) (oE : Nat) (esE : List EvR) (ef : Int) (et : Int) (lnD : esD.length = nD) (hAD : 0 < nD → AD = some ⟨bD, oD, none⟩) (lnI : esI.length = nI) (hAI : 0 < nI → AI = some ⟨bI, oI, none⟩) (lnE : esE.length = nE) (hAE : 0 < nE → AE = some ⟨bE, oE, none⟩) (hnD : nD ≤ 1048576) (hnI : nI ≤ 1048576) (hnE : nE ≤ 1048576) (hS : ∀ i, (esI.getD i InR.d).name.size ≤ 9223372036854775807) (hW : ∀ i, EvW (esE.getD i EvR.d)) (hl : (nD + nI + nmSum esI nI + nE) ≤ 1048576) (w : World) (rD : Rng w bD oD (fl esD)) (rI : Rng w bI oI (cat InR.cells esI)) (rE : Rng w bE oE (cat EvR.cells esE)) : Cl Tryd.prog 8 #[.agg #[vF ra, vF ba, vF oc, .slice AD nD cD, .slice AI nI cI, .slice AE nE cE], vI ef, vI et] w fun v w' => v = .bool true ∧ Mod [] w w' := by
  have hbl := betw_le esE ef et nE
  refine Cl.of Tryd.func8 Tryd.ntmps8 rfl rfl (ρ := [(0, .agg #[vF ra, vF ba, vF oc, .slice AD nD cD, .slice AI nI cI, .slice AE nE cE]), (1, vI ef), (2, vI et)]) rfl ?_
  refine CE.seq ?_
  refine CE.region ?_
  refine WL.op (op_box (cs := [vF ra, vF ba, vF oc, .slice AD nD cD, .slice AI nI cI, .slice AE nE cE]) rfl rfl) rfl rfl (ltb rfl) ?_
  rintro _ w1 ⟨rfl, r1, m1, z1⟩
  refine WL.det (op_assign rfl) rfl rfl rfl ?_
  refine WL.end ?_
  refine NE.code ?_
  refine CE.seq ?_
  refine CE.region ?_
  refine WL.det (op_assign rfl) rfl rfl rfl ?_
  refine WL.end ?_
  refine NE.code ?_
  refine CE.seq ?_
  refine CE.region ?_
  refine WL.det (op_loadA (i := 0) (cs := [vF ra, vF ba, vF oc, .slice AD nD cD, .slice AI nI cI, .slice AE nE cE]) rfl Tryd.isAgg36 Tryd.sizeOf36 r1.rng rfl rfl rfl) rfl rfl rfl ?_
  refine WL.det (op_move rfl) rfl rfl rfl ?_
  refine WL.call (oc_call (vs := [.agg #[vF ra, vF ba, vF oc, .slice AD nD cD, .slice AI nI cI, .slice AE nE cE], vI 1048576]) (cap := []) rfl rfl rfl Tryd.call13 (c_szScore ra ba oc nD cD AD bD oD esD nI cI AI bI oI esI nE cE AE bE oE esE 1048576 lnD hAD lnI hAI lnE hAE (by omega) (by omega) (by omega) hS (by omega) hl w1 (rD.ext m1) (rI.ext m1) (rE.ext m1))) rfl rfl (ltb rfl) ?_
  rintro _ w2 ⟨rfl, m2⟩
  refine WL.det (op_assign rfl) rfl rfl rfl ?_
  refine WL.end ?_
  refine NE.code ?_
  refine CE.seq ?_
  refine CE.seq ?_
  refine CE.region ?_
  refine WL.det (op_move rfl) rfl rfl rfl ?_
  refine WL.det (op_lti_f rfl rfl (by omega)) rfl rfl rfl ?_
  refine WL.end ?_
  refine NE.code ?_
  refine CE.cond_f rfl rfl ?_
  refine CE.skip' ?_
  refine NE.code ?_
  refine CE.seq ?_
  refine CE.region ?_
  refine WL.det (op_loadA (i := 0) (cs := [vF ra, vF ba, vF oc, .slice AD nD cD, .slice AI nI cI, .slice AE nE cE]) rfl Tryd.isAgg36 Tryd.sizeOf36 (r1.ext m2).rng rfl rfl rfl) rfl rfl rfl ?_
  refine WL.call (oc_call (vs := [.agg #[vF ra, vF ba, vF oc, .slice AD nD cD, .slice AI nI cI, .slice AE nE cE]]) (cap := []) rfl rfl rfl Tryd.call15 (c_toScore ra ba oc nD cD AD bD oD esD nI cI AI bI oI esI nE cE AE bE oE esE lnD hAD hnD lnI hAI hnI lnE hAE hnE w2 ((rD.ext m1).ext m2) ((rI.ext m1).ext m2) ((rE.ext m1).ext m2))) rfl rfl (ltb rfl) ?_
  rintro _ w3 ⟨bD'1, bI'1, bE'1, rfl, r2, r3, r4, ge1, ge2, ge3, ne1, ne2, ne3, m3⟩
  refine WL.det (op_move rfl) rfl rfl rfl ?_
  refine WL.det (op_move rfl) rfl rfl rfl ?_
  rcases Bool.eq_false_or_eq_true (vScS ra ba oc esD nD esI nI esE nE) with hb1 | hb1
  · refine WL.call (oc_call (vs := [.agg #[vF ra, vF ba, vF oc, vS bD'1 0 nD nD, vS bI'1 0 nI nI, vS bE'1 0 nE nE], vI ef, vI et]) (cap := []) rfl rfl rfl Tryd.call24 (c_sBetw ra ba oc nD bD'1 esD nI bI'1 esI nE bE'1 esE ef et lnD lnI lnE hnD hnI hnE hS hW (by assumption) w3 r2.rng r3.rng r4.rng)) rfl rfl (ltb rfl) ?_
    rintro _ w4 ⟨b'1, c'1, A'1, rfl, h1, r5, ge4, m4⟩
    refine WL.det (op_move rfl) rfl rfl rfl ?_
    refine WL.det (op_extract rfl rfl) rfl rfl rfl ?_
    refine WL.det (op_extract rfl rfl) rfl rfl rfl ?_
    refine WL.det (op_assign rfl) rfl rfl rfl ?_
    refine WL.det (op_assign rfl) rfl rfl rfl ?_
    refine WL.end ?_
    refine NE.code ?_
    refine CE.seq ?_
    refine CE.region ?_
    refine WL.det (op_loadA (i := 0) (cs := [vF ra, vF ba, vF oc, .slice AD nD cD, .slice AI nI cI, .slice AE nE cE]) rfl Tryd.isAgg36 Tryd.sizeOf36 (((r1.ext m2).ext m3).ext m4).rng rfl rfl rfl) rfl rfl rfl ?_
    refine WL.call (oc_call (vs := [.agg #[vF ra, vF ba, vF oc, .slice AD nD cD, .slice AI nI cI, .slice AE nE cE]]) (cap := []) rfl rfl rfl Tryd.call15 (c_toScore ra ba oc nD cD AD bD oD esD nI cI AI bI oI esI nE cE AE bE oE esE lnD hAD hnD lnI hAI hnI lnE hAE hnE w4 ((((rD.ext m1).ext m2).ext m3).ext m4) ((((rI.ext m1).ext m2).ext m3).ext m4) ((((rE.ext m1).ext m2).ext m3).ext m4))) rfl rfl (ltb rfl) ?_
    rintro _ w5 ⟨bD'2, bI'2, bE'2, rfl, r6, r7, r8, ge5, ge6, ge7, ne4, ne5, ne6, m5⟩
    refine WL.op (op_alloc (cs := [vF 0, vF 0, vF 0, .slice none 0 0, .slice none 0 0, .slice none 0 0]) Tryd.zeroValue43 rfl) rfl rfl (ltb rfl) ?_
    rintro _ w6 ⟨rfl, r9, m6, z2⟩
    refine WL.op0 (op_store (i := 0) (cs := [vF ra, vF ba, vF oc, vS bD'2 0 nD nD, vS bI'2 0 nI nI, vS bE'2 0 nE nE]) rfl rfl rfl Tryd.sizeOf43 rfl r9 rfl (lB rfl) rfl) rfl rfl ?_
    rintro _ w7 ⟨r10, m7, z3⟩
    have r11 : Row w7 w5.heap.size 0 [vF ra, vF ba, vF oc, vS bD'2 0 nD nD, vS bI'2 0 nI nI, vS bE'2 0 nE nE] := Row.congr r10 rfl
    refine WL.end ?_
    refine NE.code ?_
    refine CE.seq ?_
    refine CE.region ?_
    refine WL.det (op_loadA (i := 0) (cs := [vF ra, vF ba, vF oc, vS bD'2 0 nD nD, vS bI'2 0 nI nI, vS bE'2 0 nE nE]) rfl Tryd.isAgg43 Tryd.sizeOf43 r11.rng rfl rfl rfl) rfl rfl rfl ?_
    refine WL.det (op_move rfl) rfl rfl rfl ?_
    refine WL.det (op_move rfl) rfl rfl rfl ?_
    refine WL.call (oc_call (vs := [.agg #[vF ra, vF ba, vF oc, vS bD'2 0 nD nD, vS bI'2 0 nI nI, vS bE'2 0 nE nE], vI ef, vI et]) (cap := []) rfl rfl rfl Tryd.call25 (c_iBetw ra ba oc nD bD'2 esD nI bI'2 esI nE bE'2 esE ef et lnD lnI lnE hnD hnI hnE hS hW (by assumption) w7 ((r6.ext m6).mod m7 (nC (lE (lL r6.lt lR)) nN)).rng ((r7.ext m6).mod m7 (nC (lE (lL r7.lt lR)) nN)).rng ((r8.ext m6).mod m7 (nC (lE (lL r8.lt lR)) nN)).rng)) rfl rfl (ltb rfl) ?_
    rintro _ w8 ⟨b'2, c'2, A'2, rfl, h2, r12, ge8, m8⟩
    refine WL.det (op_move rfl) rfl rfl rfl ?_
    refine WL.det (op_extract rfl rfl) rfl rfl rfl ?_
    refine WL.det (op_extract rfl rfl) rfl rfl rfl ?_
    refine WL.det (op_assign rfl) rfl rfl rfl ?_
    refine WL.det (op_assign rfl) rfl rfl rfl ?_
    refine WL.end ?_
    refine NE.code ?_
    refine CE.seq ?_
    refine CE.seq ?_
    refine CE.region ?_
    refine WL.det (op_move rfl) rfl rfl rfl ?_
    refine WL.det (op_move rfl) rfl rfl rfl ?_
    refine WL.call (oc_call (vs := [.slice A'2 ((betw esE ef et nE).length) c'2, .slice A'1 ((betw esE ef et nE).length) c'1]) (cap := []) rfl rfl rfl Tryd.call26 (c_eqEventS_same ((betw esE ef et nE).length) c'2 A'2 b'2 0 (betw esE ef et nE) c'1 A'1 b'1 0 rfl h2 h1 (by omega) w8 r12.rng ((((r5.ext m5).ext m6).mod m7 (nC (lE (lL (lL r5.lt m5.size) lR)) nN)).ext m8).rng)) rfl rfl (ltb rfl) ?_
    rintro _ w9 ⟨rfl, m9⟩
    refine WL.det (op_not rfl) rfl rfl rfl ?_
    refine WL.det (op_move rfl) rfl rfl rfl ?_
    refine WL.yes rfl rfl rfl (ltb rfl) rfl rfl ?_
    refine WL.det (op_move rfl) rfl rfl rfl ?_
    refine WL.yes rfl rfl rfl (ltb rfl) rfl rfl ?_
    refine WL.det (op_move rfl) rfl rfl rfl ?_
    refine WL.yes rfl rfl rfl (ltb rfl) rfl rfl ?_
    refine WL.det (op_nei rfl rfl) rfl rfl rfl ?_
    refine WL.det (op_pick_f rfl rfl rfl) rfl rfl rfl ?_
    refine WL.end ?_
    refine NE.code ?_
    refine CE.cond_f rfl rfl ?_
    refine CE.skip' ?_
    refine NE.code ?_
    refine CE.seq ?_
    refine CE.seq ?_
    refine CE.draw (fun | 2 => some (fun _ wA uA wB => ∃ (bD' : Nat) (bI' : Nat) (bE' : Nat), uA = .agg #[vF ra, vF ba, vF oc, vS bD' 0 nD nD, vS bI' 0 nI nI, vS bE' 0 nE nE] ∧ Row wB bD' 0 (fl esD) ∧ Row wB bI' 0 (cat InR.cells esI) ∧ Row wB bE' 0 (cat EvR.cells esE) ∧ wA.heap.size ≤ bD' ∧ wA.heap.size ≤ bI' ∧ wA.heap.size ≤ bE' ∧ bD' ≠ bI' ∧ bD' ≠ bE' ∧ bI' ≠ bE' ∧ Mod [] wA wB) | _ => none) [0, 1, 2] [3, 4] [] (by kernel_rfl) (by kernel_rfl) ?_
    have md1 : Mod [] w9 w9.drew := (Mod.refl _ _).drew
    generalize w9.drew = w10 at md1 ⊢
    refine DR.det (i := 0) rfl rfl (by kernel_rfl) (.free rfl) rfl rfl (fun wD mD => op_loadA (i := 0) (cs := [vF ra, vF ba, vF oc, vS bD'2 0 nD nD, vS bI'2 0 nI nI, vS bE'2 0 nE nE]) rfl Tryd.isAgg43 Tryd.sizeOf43 ((((r11.ext m8).ext m9).ext md1).ext mD).rng rfl rfl rfl) ?_
    refine DR.det (i := 1) rfl rfl (by kernel_rfl) (.free rfl) rfl rfl (fun wD mD => op_loadA (i := 0) (cs := [vF ra, vF ba, vF oc, .slice AD nD cD, .slice AI nI cI, .slice AE nE cE]) rfl Tryd.isAgg36 Tryd.sizeOf36 ((((((((((r1.ext m2).ext m3).ext m4).ext m5).ext m6).mod m7 (nC (lE (lL (lL r1.lt (lT (lT (lT m2.size m3.size) m4.size) m5.size)) lR)) nN)).ext m8).ext m9).ext md1).ext mD).rng rfl rfl rfl) ?_
    refine DR.one (i := 2) rfl rfl (by kernel_rfl) (.free rfl) rfl (ltb rfl) (vs := [.func (.func 15) #[] #[], .agg #[vF ra, vF ba, vF oc, .slice AD nD cD, .slice AI nI cI, .slice AE nE cE]]) rfl ?_
    intro w11 m10
    refine ⟨oc_call (vs := [.agg #[vF ra, vF ba, vF oc, .slice AD nD cD, .slice AI nI cI, .slice AE nE cE]]) (cap := []) rfl rfl rfl Tryd.call15 (c_toScore ra ba oc nD cD AD bD oD esD nI cI AI bI oI esI nE cE AE bE oE esE lnD hAD hnD lnI hAI hnI lnE hAE hnE w11 (((((Rng.youngS rD ((((((rD.ext m1).ext m2).ext m3).ext m4).ext m5).ext m6) m7 (allge_cons (lT (lT (lT (lT (lT m1.size m2.size) m3.size) m4.size) m5.size) lR) allge_nil)).ext m8).ext m9).ext md1).ext m10) (((((Rng.youngS rI ((((((rI.ext m1).ext m2).ext m3).ext m4).ext m5).ext m6) m7 (allge_cons (lT (lT (lT (lT (lT m1.size m2.size) m3.size) m4.size) m5.size) lR) allge_nil)).ext m8).ext m9).ext md1).ext m10) (((((Rng.youngS rE ((((((rE.ext m1).ext m2).ext m3).ext m4).ext m5).ext m6) m7 (allge_cons (lT (lT (lT (lT (lT m1.size m2.size) m3.size) m4.size) m5.size) lR) allge_nil)).ext m8).ext m9).ext md1).ext m10)), ?_⟩
    rintro _ w12 ⟨bD'3, bI'3, bE'3, rfl, r13, r14, r15, ge9, ge10, ge11, ne7, ne8, ne9, m11⟩
    refine ⟨(((Mod.refl [] w10).nt m10).nt m11), ?_⟩
    refine DR.done rfl ?_
    intro w13 m12
    refine WO.call rfl (.free rfl) rfl (ltb rfl) (oc_call (vs := [.agg #[vF ra, vF ba, vF oc, vS bD'2 0 nD nD, vS bI'2 0 nI nI, vS bE'2 0 nE nE], .agg #[vF ra, vF ba, vF oc, vS bD'3 0 nD nD, vS bI'3 0 nI nI, vS bE'3 0 nE nE]]) (cap := []) rfl rfl rfl Tryd.call17 (c_eqScore ra ba oc nD nD (some ⟨bD'2, 0, none⟩) bD'2 0 esD nI nI (some ⟨bI'2, 0, none⟩) bI'2 0 esI nE nE (some ⟨bE'2, 0, none⟩) bE'2 0 esE nD (some ⟨bD'3, 0, none⟩) bD'3 0 nI (some ⟨bI'3, 0, none⟩) bI'3 0 nE (some ⟨bE'3, 0, none⟩) bE'3 0 lnD (fun _ => rfl) lnI (fun _ => rfl) lnE (fun _ => rfl) (by omega) (by omega) (by omega) (fun _ => rfl) (fun _ => rfl) (fun _ => rfl) w13 ((((((((r6.ext m6).mod m7 (nC (lE (lL r6.lt lR)) nN)).ext m8).ext m9).ext md1).ext m10).ext m11).ext m12).rng ((((((((r7.ext m6).mod m7 (nC (lE (lL r7.lt lR)) nN)).ext m8).ext m9).ext md1).ext m10).ext m11).ext m12).rng ((((((((r8.ext m6).mod m7 (nC (lE (lL r8.lt lR)) nN)).ext m8).ext m9).ext md1).ext m10).ext m11).ext m12).rng (r13.ext m12).rng (r14.ext m12).rng (r15.ext m12).rng)) ?_
    rintro _ w14 ⟨rfl, m13⟩
    refine WO.det (op_not rfl) rfl (.free rfl) rfl rfl ?_
    refine WO.end ?_
    refine NE.code ?_
    refine CE.cond_f rfl rfl ?_
    refine CE.skip' ?_
    refine NE.code ?_
    refine CE.seq ?_
    refine CE.region ?_
    refine WL.det (op_assign rfl) rfl rfl rfl ?_
    refine WL.end ?_
    refine NE.code ?_
    refine CE.seq ?_
    refine CE.region ?_
    refine WL.det (op_loadA (i := 0) (cs := [vF ra, vF ba, vF oc, vS bD'2 0 nD nD, vS bI'2 0 nI nI, vS bE'2 0 nE nE]) rfl Tryd.isAgg43 Tryd.sizeOf43 (((((((r11.ext m8).ext m9).ext md1).ext m10).ext m11).ext m12).ext m13).rng rfl rfl rfl) rfl rfl rfl ?_
    refine WL.det (op_move rfl) rfl rfl rfl ?_
    refine WL.call (oc_call (vs := [.agg #[vF ra, vF ba, vF oc, vS bD'2 0 nD nD, vS bI'2 0 nI nI, vS bE'2 0 nE nE], vI 1]) (cap := []) rfl rfl rfl Tryd.call27 (c_markScore ra ba oc nD bD'2 esD nI bI'2 esI nE bE'2 esE 1 lnD lnI lnE hnD hnI hnE (by omega) w14 (((((((((r6.ext m6).mod m7 (nC (lE (lL r6.lt lR)) nN)).ext m8).ext m9).ext md1).ext m10).ext m11).ext m12).ext m13) (((((((((r7.ext m6).mod m7 (nC (lE (lL r7.lt lR)) nN)).ext m8).ext m9).ext md1).ext m10).ext m11).ext m12).ext m13) (((((((((r8.ext m6).mod m7 (nC (lE (lL r8.lt lR)) nN)).ext m8).ext m9).ext md1).ext m10).ext m11).ext m12).ext m13) ne4 ne5 ne6)) rfl rfl (ltb rfl) ?_
    rintro _ w15 ⟨rfl, m14⟩
    refine WL.det (op_assign rfl) rfl rfl rfl ?_
    refine WL.end ?_
    refine NE.code ?_
    refine CE.seq ?_
    refine CE.seq ?_
    refine CE.region ?_
    refine WL.det (op_move rfl) rfl rfl rfl ?_
    refine WL.det (op_lti_f rfl rfl (by omega)) rfl rfl rfl ?_
    refine WL.det (op_move rfl) rfl rfl rfl ?_
    refine WL.yes rfl rfl rfl (ltb rfl) rfl rfl ?_
    refine WL.det (op_move rfl) rfl rfl rfl ?_
    refine WL.yes rfl rfl rfl (ltb rfl) rfl rfl ?_
    refine WL.det (op_move rfl) rfl rfl rfl ?_
    refine WL.yes rfl rfl rfl (ltb rfl) rfl rfl ?_
    refine WL.call (oc_call (vs := [.slice A'2 ((betw esE ef et nE).length) c'2, .slice A'1 ((betw esE ef et nE).length) c'1]) (cap := []) rfl rfl rfl Tryd.call26 (c_eqEventS_same ((betw esE ef et nE).length) c'2 A'2 b'2 0 (betw esE ef et nE) c'1 A'1 b'1 0 rfl h2 h1 (by omega) w15 (((((((r12.ext m9).ext md1).ext m10).ext m11).ext m12).ext m13).mod m14 (nC (lG (lL (lL r6.lt (lT m6.size m7.size)) ge8)) (nC (lG (lL (lL r7.lt (lT m6.size m7.size)) ge8)) (nC (lG (lL (lL r8.lt (lT m6.size m7.size)) ge8)) nN)))).rng (((((((((((r5.ext m5).ext m6).mod m7 (nC (lE (lL (lL r5.lt m5.size) lR)) nN)).ext m8).ext m9).ext md1).ext m10).ext m11).ext m12).ext m13).mod m14 (nC (lE (lL r5.lt ge5)) (nC (lE (lL r5.lt ge6)) (nC (lE (lL r5.lt ge7)) nN)))).rng)) rfl rfl (ltb rfl) ?_
    rintro _ w16 ⟨rfl, m15⟩
    refine WL.yes rfl rfl rfl (ltb rfl) rfl rfl ?_
    refine WL.det (op_not rfl) rfl rfl rfl ?_
    refine WL.det (op_pick_f rfl rfl rfl) rfl rfl rfl ?_
    refine WL.det (op_move rfl) rfl rfl rfl ?_
    refine WL.yes rfl rfl rfl (ltb rfl) rfl rfl ?_
    refine WL.det (op_move rfl) rfl rfl rfl ?_
    refine WL.yes rfl rfl rfl (ltb rfl) rfl rfl ?_
    refine WL.det (op_move rfl) rfl rfl rfl ?_
    refine WL.yes rfl rfl rfl (ltb rfl) rfl rfl ?_
    refine WL.det (op_nei rfl rfl) rfl rfl rfl ?_
    refine WL.det (op_pick_f rfl rfl rfl) rfl rfl rfl ?_
    refine WL.end ?_
    refine NE.code ?_
    refine CE.cond_f rfl rfl ?_
    refine CE.skip' ?_
    refine NE.code ?_
    refine CE.seq ?_
    refine CE.region ?_
    refine WL.det (op_assign rfl) rfl rfl rfl ?_
    refine WL.end ?_
    refine NE.code ?_
    refine CE.seq ?_
    refine CE.region ?_
    refine WL.det (op_move rfl) rfl rfl rfl ?_
    refine WL.det (op_move rfl) rfl rfl rfl ?_
    refine WL.call (oc_call (vs := [.slice A'2 ((betw esE ef et nE).length) c'2, vI 1]) (cap := []) rfl rfl rfl Tryd.call28 (c_markEventS ((betw esE ef et nE).length) c'2 A'2 b'2 (betw esE ef et nE) 1 rfl h2 (by omega) (by omega) w16 ((((((((r12.ext m9).ext md1).ext m10).ext m11).ext m12).ext m13).mod m14 (nC (lG (lL (lL r6.lt (lT m6.size m7.size)) ge8)) (nC (lG (lL (lL r7.lt (lT m6.size m7.size)) ge8)) (nC (lG (lL (lL r8.lt (lT m6.size m7.size)) ge8)) nN)))).ext m15))) rfl rfl (ltb rfl) ?_
    rintro _ w17 ⟨rfl, r16, m16⟩
    refine WL.det (op_assign rfl) rfl rfl rfl ?_
    refine WL.end ?_
    refine NE.code ?_
    refine CE.seq ?_
    refine CE.region ?_
    refine WL.det (op_assign rfl) rfl rfl rfl ?_
    refine WL.end ?_
    refine NE.code ?_
    refine CE.seq ?_
    refine CE.region ?_
    refine WL.det (op_move rfl) rfl rfl rfl ?_
    refine WL.det (op_move rfl) rfl rfl rfl ?_
    refine WL.call (oc_call (vs := [.slice A'2 ((betw esE ef et nE).length) c'2, vI 1]) (cap := []) rfl rfl rfl Tryd.call29 (c_heldEventS ((betw esE ef et nE).length) c'2 A'2 b'2 (markEs (betw esE ef et nE) 1 ((betw esE ef et nE).length)) 1 (markEs_len rfl (Nat.le_refl _)) h2 (by omega) (by omega) (by first | assumption | exact fun i hi => markEs_get (by first | assumption | rfl) hi) w17 r16.rng)) rfl rfl (ltb rfl) ?_
    rintro _ w18 ⟨rfl, m17⟩
    refine WL.det (op_assign rfl) rfl rfl rfl ?_
    refine WL.end ?_
    refine NE.code ?_
    refine CE.seq ?_
    refine CE.seq ?_
    refine CE.region ?_
    refine WL.det (op_move rfl) rfl rfl rfl ?_
    refine WL.det (op_lti_f rfl rfl (by omega)) rfl rfl rfl ?_
    refine WL.end ?_
    refine NE.code ?_
    refine CE.cond_f rfl rfl ?_
    refine CE.skip' ?_
    refine NE.code ?_
    refine CE.seq ?_
    refine CE.seq ?_
    refine CE.region ?_
    refine WL.det (op_move rfl) rfl rfl rfl ?_
    refine WL.det (op_move rfl) rfl rfl rfl ?_
    refine WL.det (op_nei_f rfl rfl rfl) rfl rfl rfl ?_
    refine WL.end ?_
    refine NE.code ?_
    refine CE.cond_f rfl rfl ?_
    refine CE.skip' ?_
    refine NE.code ?_
    refine CE.seq ?_
    refine CE.region ?_
    refine WL.det (op_loadA (i := 0) (cs := [vF ra, vF ba, vF oc, .slice AD nD cD, .slice AI nI cI, .slice AE nE cE]) rfl Tryd.isAgg36 Tryd.sizeOf36 (((((((((((((((((r1.ext m2).ext m3).ext m4).ext m5).ext m6).mod m7 (nC (lE (lL (lL r1.lt (lT (lT (lT m2.size m3.size) m4.size) m5.size)) lR)) nN)).ext m8).ext m9).ext md1).ext m10).ext m11).ext m12).ext m13).mod m14 (nC (lE (lL (lL r1.lt (lT (lT m2.size m3.size) m4.size)) ge5)) (nC (lE (lL (lL r1.lt (lT (lT m2.size m3.size) m4.size)) ge6)) (nC (lE (lL (lL r1.lt (lT (lT m2.size m3.size) m4.size)) ge7)) nN)))).ext m15).mod m16 (nC (lE (lL (lL r1.lt (lT (lT (lT (lT (lT m2.size m3.size) m4.size) m5.size) m6.size) m7.size)) ge8)) nN)).ext m17).rng rfl rfl rfl) rfl rfl rfl ?_
    refine WL.call (oc_call (vs := [.agg #[vF ra, vF ba, vF oc, .slice AD nD cD, .slice AI nI cI, .slice AE nE cE]]) (cap := []) rfl rfl rfl Tryd.call15 (c_toScore ra ba oc nD cD AD bD oD esD nI cI AI bI oI esI nE cE AE bE oE esE lnD hAD hnD lnI hAI hnI lnE hAE hnE w18 ((Rng.youngS rD ((Rng.youngS rD ((((((((Rng.youngS rD ((((((rD.ext m1).ext m2).ext m3).ext m4).ext m5).ext m6) m7 (allge_cons (lT (lT (lT (lT (lT m1.size m2.size) m3.size) m4.size) m5.size) lR) allge_nil)).ext m8).ext m9).ext md1).ext m10).ext m11).ext m12).ext m13) m14 (allge_cons (lT (lT (lT (lT m1.size m2.size) m3.size) m4.size) ge5) (allge_cons (lT (lT (lT (lT m1.size m2.size) m3.size) m4.size) ge6) (allge_cons (lT (lT (lT (lT m1.size m2.size) m3.size) m4.size) ge7) allge_nil)))).ext m15) m16 (allge_cons (lT (lT (lT (lT (lT (lT (lT m1.size m2.size) m3.size) m4.size) m5.size) m6.size) m7.size) ge8) allge_nil)).ext m17) ((Rng.youngS rI ((Rng.youngS rI ((((((((Rng.youngS rI ((((((rI.ext m1).ext m2).ext m3).ext m4).ext m5).ext m6) m7 (allge_cons (lT (lT (lT (lT (lT m1.size m2.size) m3.size) m4.size) m5.size) lR) allge_nil)).ext m8).ext m9).ext md1).ext m10).ext m11).ext m12).ext m13) m14 (allge_cons (lT (lT (lT (lT m1.size m2.size) m3.size) m4.size) ge5) (allge_cons (lT (lT (lT (lT m1.size m2.size) m3.size) m4.size) ge6) (allge_cons (lT (lT (lT (lT m1.size m2.size) m3.size) m4.size) ge7) allge_nil)))).ext m15) m16 (allge_cons (lT (lT (lT (lT (lT (lT (lT m1.size m2.size) m3.size) m4.size) m5.size) m6.size) m7.size) ge8) allge_nil)).ext m17) ((Rng.youngS rE ((Rng.youngS rE ((((((((Rng.youngS rE ((((((rE.ext m1).ext m2).ext m3).ext m4).ext m5).ext m6) m7 (allge_cons (lT (lT (lT (lT (lT m1.size m2.size) m3.size) m4.size) m5.size) lR) allge_nil)).ext m8).ext m9).ext md1).ext m10).ext m11).ext m12).ext m13) m14 (allge_cons (lT (lT (lT (lT m1.size m2.size) m3.size) m4.size) ge5) (allge_cons (lT (lT (lT (lT m1.size m2.size) m3.size) m4.size) ge6) (allge_cons (lT (lT (lT (lT m1.size m2.size) m3.size) m4.size) ge7) allge_nil)))).ext m15) m16 (allge_cons (lT (lT (lT (lT (lT (lT (lT m1.size m2.size) m3.size) m4.size) m5.size) m6.size) m7.size) ge8) allge_nil)).ext m17))) rfl rfl (ltb rfl) ?_
    rintro _ w19 ⟨bD'4, bI'4, bE'4, rfl, r17, r18, r19, ge12, ge13, ge14, ne10, ne11, ne12, m18⟩
    refine WL.det (op_move rfl) rfl rfl rfl ?_
    refine WL.det (op_move rfl) rfl rfl rfl ?_
    refine WL.call (oc_call (vs := [.agg #[vF ra, vF ba, vF oc, vS bD'4 0 nD nD, vS bI'4 0 nI nI, vS bE'4 0 nE nE], vI ef, vI et]) (cap := []) rfl rfl rfl Tryd.call25 (c_iBetw ra ba oc nD bD'4 esD nI bI'4 esI nE bE'4 esE ef et lnD lnI lnE hnD hnI hnE hS hW (by assumption) w19 r17.rng r18.rng r19.rng)) rfl rfl (ltb rfl) ?_
    rintro _ w20 ⟨b'3, c'3, A'3, rfl, h3, r20, ge15, m19⟩
    refine WL.det (op_move rfl) rfl rfl rfl ?_
    refine WL.det (op_extract rfl rfl) rfl rfl rfl ?_
    refine WL.det (op_extract rfl rfl) rfl rfl rfl ?_
    refine WL.det (op_assign rfl) rfl rfl rfl ?_
    refine WL.det (op_assign rfl) rfl rfl rfl ?_
    refine WL.end ?_
    refine NE.code ?_
    refine CE.seq ?_
    refine CE.seq ?_
    refine CE.region ?_
    refine WL.det (op_move rfl) rfl rfl rfl ?_
    refine WL.det (op_move rfl) rfl rfl rfl ?_
    refine WL.call (oc_call (vs := [.slice A'3 ((betw esE ef et nE).length) c'3, .slice A'1 ((betw esE ef et nE).length) c'1]) (cap := []) rfl rfl rfl Tryd.call26 (c_eqEventS_same ((betw esE ef et nE).length) c'3 A'3 b'3 0 (betw esE ef et nE) c'1 A'1 b'1 0 rfl h3 h1 (by omega) w20 r20.rng ((((((((((((((((r5.ext m5).ext m6).mod m7 (nC (lE (lL (lL r5.lt m5.size) lR)) nN)).ext m8).ext m9).ext md1).ext m10).ext m11).ext m12).ext m13).mod m14 (nC (lE (lL r5.lt ge5)) (nC (lE (lL r5.lt ge6)) (nC (lE (lL r5.lt ge7)) nN)))).ext m15).mod m16 (nC (lE (lL (lL r5.lt (lT (lT m5.size m6.size) m7.size)) ge8)) nN)).ext m17).ext m18).ext m19).rng)) rfl rfl (ltb rfl) ?_
    rintro _ w21 ⟨rfl, m20⟩
    refine WL.det (op_not rfl) rfl rfl rfl ?_
    refine WL.det (op_move rfl) rfl rfl rfl ?_
    refine WL.yes rfl rfl rfl (ltb rfl) rfl rfl ?_
    refine WL.det (op_move rfl) rfl rfl rfl ?_
    refine WL.yes rfl rfl rfl (ltb rfl) rfl rfl ?_
    refine WL.det (op_move rfl) rfl rfl rfl ?_
    refine WL.yes rfl rfl rfl (ltb rfl) rfl rfl ?_
    refine WL.det (op_nei rfl rfl) rfl rfl rfl ?_
    refine WL.det (op_pick_f rfl rfl rfl) rfl rfl rfl ?_
    refine WL.end ?_
    refine NE.code ?_
    refine CE.cond_f rfl rfl ?_
    refine CE.skip' ?_
    refine NE.code ?_
    refine CE.seq ?_
    refine CE.region ?_
    refine WL.det (op_assign rfl) rfl rfl rfl ?_
    refine WL.end ?_
    refine NE.code ?_
    refine CE.seq ?_
    refine CE.region ?_
    refine WL.det (op_move rfl) rfl rfl rfl ?_
    refine WL.det (op_move rfl) rfl rfl rfl ?_
    refine WL.call (oc_call (vs := [.slice A'2 ((betw esE ef et nE).length) c'2, vI 1]) (cap := []) rfl rfl rfl Tryd.call29 (c_heldEventS ((betw esE ef et nE).length) c'2 A'2 b'2 (markEs (betw esE ef et nE) 1 ((betw esE ef et nE).length)) 1 (markEs_len rfl (Nat.le_refl _)) h2 (by omega) (by omega) (by first | assumption | exact fun i hi => markEs_get (by first | assumption | rfl) hi) w21 ((((r16.ext m17).ext m18).ext m19).ext m20).rng)) rfl rfl (ltb rfl) ?_
    rintro _ w22 ⟨rfl, m21⟩
    refine WL.det (op_assign rfl) rfl rfl rfl ?_
    refine WL.end ?_
    refine NE.code ?_
    refine CE.seq ?_
    refine CE.seq ?_
    refine CE.region ?_
    refine WL.det (op_move rfl) rfl rfl rfl ?_
    refine WL.det (op_lti_f rfl rfl (by omega)) rfl rfl rfl ?_
    refine WL.end ?_
    refine NE.code ?_
    refine CE.cond_f rfl rfl ?_
    refine CE.skip' ?_
    refine NE.code ?_
    refine CE.seq ?_
    refine CE.seq ?_
    refine CE.region ?_
    refine WL.det (op_move rfl) rfl rfl rfl ?_
    refine WL.det (op_move rfl) rfl rfl rfl ?_
    refine WL.det (op_nei_f rfl rfl rfl) rfl rfl rfl ?_
    refine WL.end ?_
    refine NE.code ?_
    refine CE.cond_f rfl rfl ?_
    refine CE.skip' ?_
    refine NE.code ?_
    refine CE.seq ?_
    refine CE.region ?_
    refine WL.det (op_assign rfl) rfl rfl rfl ?_
    refine WL.end ?_
    refine NE.code ?_
    refine CE.ret' ?_
    refine XE.leave1 Tryd.results8 rfl ?_
    refine ⟨rfl, (((((((((((((((((((((((Mod.refl [] w).nt m1).nt m2).nt m3).nt m4).nt m5).nt m6).then m7 ((aC (.inr (lT (lT (lT (lT (lT m1.size m2.size) m3.size) m4.size) m5.size) lR)) aN))).nt m8).nt m9).nt md1).nt m10).nt m11).nt m12).nt m13).then m14 ((aC (.inr (lT (lT (lT (lT m1.size m2.size) m3.size) m4.size) ge5)) (aC (.inr (lT (lT (lT (lT m1.size m2.size) m3.size) m4.size) ge6)) (aC (.inr (lT (lT (lT (lT m1.size m2.size) m3.size) m4.size) ge7)) aN))))).nt m15).then m16 ((aC (.inr (lT (lT (lT (lT (lT (lT (lT m1.size m2.size) m3.size) m4.size) m5.size) m6.size) m7.size) ge8)) aN))).nt m17).nt m18).nt m19).nt m20).nt m21)⟩
  · refine WL.call (oc_call (vs := [.agg #[vF ra, vF ba, vF oc, vS bD'1 0 nD nD, vS bI'1 0 nI nI, vS bE'1 0 nE nE], vI ef, vI et]) (cap := []) rfl rfl rfl Tryd.call24 (c_sBetw_inv ra ba oc nD bD'1 esD nI bI'1 esI nE bE'1 esE ef et lnD lnI lnE hnD hnI hnE hS hW (by assumption) w3 r2.rng r3.rng r4.rng)) rfl rfl (ltb rfl) ?_
    rintro _ w23 ⟨b'4, rfl, r21, ge16, m22⟩
    refine WL.det (op_move rfl) rfl rfl rfl ?_
    refine WL.det (op_extract rfl rfl) rfl rfl rfl ?_
    refine WL.det (op_extract rfl rfl) rfl rfl rfl ?_
    refine WL.det (op_assign rfl) rfl rfl rfl ?_
    refine WL.det (op_assign rfl) rfl rfl rfl ?_
    refine WL.end ?_
    refine NE.code ?_
    refine CE.seq ?_
    refine CE.region ?_
    refine WL.det (op_loadA (i := 0) (cs := [vF ra, vF ba, vF oc, .slice AD nD cD, .slice AI nI cI, .slice AE nE cE]) rfl Tryd.isAgg36 Tryd.sizeOf36 (((r1.ext m2).ext m3).ext m22).rng rfl rfl rfl) rfl rfl rfl ?_
    refine WL.call (oc_call (vs := [.agg #[vF ra, vF ba, vF oc, .slice AD nD cD, .slice AI nI cI, .slice AE nE cE]]) (cap := []) rfl rfl rfl Tryd.call15 (c_toScore ra ba oc nD cD AD bD oD esD nI cI AI bI oI esI nE cE AE bE oE esE lnD hAD hnD lnI hAI hnI lnE hAE hnE w23 ((((rD.ext m1).ext m2).ext m3).ext m22) ((((rI.ext m1).ext m2).ext m3).ext m22) ((((rE.ext m1).ext m2).ext m3).ext m22))) rfl rfl (ltb rfl) ?_
    rintro _ w24 ⟨bD'5, bI'5, bE'5, rfl, r22, r23, r24, ge17, ge18, ge19, ne13, ne14, ne15, m23⟩
    refine WL.op (op_alloc (cs := [vF 0, vF 0, vF 0, .slice none 0 0, .slice none 0 0, .slice none 0 0]) Tryd.zeroValue43 rfl) rfl rfl (ltb rfl) ?_
    rintro _ w25 ⟨rfl, r25, m24, z4⟩
    refine WL.op0 (op_store (i := 0) (cs := [vF ra, vF ba, vF oc, vS bD'5 0 nD nD, vS bI'5 0 nI nI, vS bE'5 0 nE nE]) rfl rfl rfl Tryd.sizeOf43 rfl r25 rfl (lB rfl) rfl) rfl rfl ?_
    rintro _ w26 ⟨r26, m25, z5⟩
    have r27 : Row w26 w24.heap.size 0 [vF ra, vF ba, vF oc, vS bD'5 0 nD nD, vS bI'5 0 nI nI, vS bE'5 0 nE nE] := Row.congr r26 rfl
    refine WL.end ?_
    refine NE.code ?_
    refine CE.seq ?_
    refine CE.region ?_
    refine WL.det (op_loadA (i := 0) (cs := [vF ra, vF ba, vF oc, vS bD'5 0 nD nD, vS bI'5 0 nI nI, vS bE'5 0 nE nE]) rfl Tryd.isAgg43 Tryd.sizeOf43 r27.rng rfl rfl rfl) rfl rfl rfl ?_
    refine WL.det (op_move rfl) rfl rfl rfl ?_
    refine WL.det (op_move rfl) rfl rfl rfl ?_
    refine WL.call (oc_call (vs := [.agg #[vF ra, vF ba, vF oc, vS bD'5 0 nD nD, vS bI'5 0 nI nI, vS bE'5 0 nE nE], vI ef, vI et]) (cap := []) rfl rfl rfl Tryd.call25 (c_iBetw_inv ra ba oc nD bD'5 esD nI bI'5 esI nE bE'5 esE ef et lnD lnI lnE hnD hnI hnE hS hW (by assumption) w26 ((r22.ext m24).mod m25 (nC (lE (lL r22.lt lR)) nN)).rng ((r23.ext m24).mod m25 (nC (lE (lL r23.lt lR)) nN)).rng ((r24.ext m24).mod m25 (nC (lE (lL r24.lt lR)) nN)).rng)) rfl rfl (ltb rfl) ?_
    rintro _ w27 ⟨rfl, m26⟩
    refine WL.det (op_move rfl) rfl rfl rfl ?_
    refine WL.det (op_extract rfl rfl) rfl rfl rfl ?_
    refine WL.det (op_extract rfl rfl) rfl rfl rfl ?_
    refine WL.det (op_assign rfl) rfl rfl rfl ?_
    refine WL.det (op_assign rfl) rfl rfl rfl ?_
    refine WL.end ?_
    refine NE.code ?_
    refine CE.seq ?_
    refine CE.seq ?_
    refine CE.region ?_
    refine WL.det (op_move rfl) rfl rfl rfl ?_
    refine WL.det (op_move rfl) rfl rfl rfl ?_
    refine WL.call (oc_call (vs := [.slice none 0 0, vS b'4 0 0 0]) (cap := []) rfl rfl rfl Tryd.call26 (c_eqEventS_same 0 0 none 0 0 [] 0 (some ⟨b'4, 0, none⟩) b'4 0 rfl (fun h => absurd h (Nat.lt_irrefl _)) (fun _ => rfl) (by omega) w27 (Rng.nil _ _ _) ((((r21.ext m23).ext m24).mod m25 (nC (lE (lL (lL r21.lt m23.size) lR)) nN)).ext m26).rng)) rfl rfl (ltb rfl) ?_
    rintro _ w28 ⟨rfl, m27⟩
    refine WL.det (op_not rfl) rfl rfl rfl ?_
    refine WL.det (op_move rfl) rfl rfl rfl ?_
    refine WL.yes rfl rfl rfl (ltb rfl) rfl rfl ?_
    refine WL.det (op_move rfl) rfl rfl rfl ?_
    refine WL.yes rfl rfl rfl (ltb rfl) rfl rfl ?_
    refine WL.det (op_move rfl) rfl rfl rfl ?_
    refine WL.yes rfl rfl rfl (ltb rfl) rfl rfl ?_
    refine WL.det (op_nei rfl rfl) rfl rfl rfl ?_
    refine WL.det (op_pick_f rfl rfl rfl) rfl rfl rfl ?_
    refine WL.end ?_
    refine NE.code ?_
    refine CE.cond_f rfl rfl ?_
    refine CE.skip' ?_
    refine NE.code ?_
    refine CE.seq ?_
    refine CE.seq ?_
    refine CE.draw (fun | 2 => some (fun _ wA uA wB => ∃ (bD' : Nat) (bI' : Nat) (bE' : Nat), uA = .agg #[vF ra, vF ba, vF oc, vS bD' 0 nD nD, vS bI' 0 nI nI, vS bE' 0 nE nE] ∧ Row wB bD' 0 (fl esD) ∧ Row wB bI' 0 (cat InR.cells esI) ∧ Row wB bE' 0 (cat EvR.cells esE) ∧ wA.heap.size ≤ bD' ∧ wA.heap.size ≤ bI' ∧ wA.heap.size ≤ bE' ∧ bD' ≠ bI' ∧ bD' ≠ bE' ∧ bI' ≠ bE' ∧ Mod [] wA wB) | _ => none) [0, 1, 2] [3, 4] [] (by kernel_rfl) (by kernel_rfl) ?_
    have md2 : Mod [] w28 w28.drew := (Mod.refl _ _).drew
    generalize w28.drew = w29 at md2 ⊢
    refine DR.det (i := 0) rfl rfl (by kernel_rfl) (.free rfl) rfl rfl (fun wD mD => op_loadA (i := 0) (cs := [vF ra, vF ba, vF oc, vS bD'5 0 nD nD, vS bI'5 0 nI nI, vS bE'5 0 nE nE]) rfl Tryd.isAgg43 Tryd.sizeOf43 ((((r27.ext m26).ext m27).ext md2).ext mD).rng rfl rfl rfl) ?_
    refine DR.det (i := 1) rfl rfl (by kernel_rfl) (.free rfl) rfl rfl (fun wD mD => op_loadA (i := 0) (cs := [vF ra, vF ba, vF oc, .slice AD nD cD, .slice AI nI cI, .slice AE nE cE]) rfl Tryd.isAgg36 Tryd.sizeOf36 ((((((((((r1.ext m2).ext m3).ext m22).ext m23).ext m24).mod m25 (nC (lE (lL (lL r1.lt (lT (lT (lT m2.size m3.size) m22.size) m23.size)) lR)) nN)).ext m26).ext m27).ext md2).ext mD).rng rfl rfl rfl) ?_
    refine DR.one (i := 2) rfl rfl (by kernel_rfl) (.free rfl) rfl (ltb rfl) (vs := [.func (.func 15) #[] #[], .agg #[vF ra, vF ba, vF oc, .slice AD nD cD, .slice AI nI cI, .slice AE nE cE]]) rfl ?_
    intro w30 m28
    refine ⟨oc_call (vs := [.agg #[vF ra, vF ba, vF oc, .slice AD nD cD, .slice AI nI cI, .slice AE nE cE]]) (cap := []) rfl rfl rfl Tryd.call15 (c_toScore ra ba oc nD cD AD bD oD esD nI cI AI bI oI esI nE cE AE bE oE esE lnD hAD hnD lnI hAI hnI lnE hAE hnE w30 (((((Rng.youngS rD ((((((rD.ext m1).ext m2).ext m3).ext m22).ext m23).ext m24) m25 (allge_cons (lT (lT (lT (lT (lT m1.size m2.size) m3.size) m22.size) m23.size) lR) allge_nil)).ext m26).ext m27).ext md2).ext m28) (((((Rng.youngS rI ((((((rI.ext m1).ext m2).ext m3).ext m22).ext m23).ext m24) m25 (allge_cons (lT (lT (lT (lT (lT m1.size m2.size) m3.size) m22.size) m23.size) lR) allge_nil)).ext m26).ext m27).ext md2).ext m28) (((((Rng.youngS rE ((((((rE.ext m1).ext m2).ext m3).ext m22).ext m23).ext m24) m25 (allge_cons (lT (lT (lT (lT (lT m1.size m2.size) m3.size) m22.size) m23.size) lR) allge_nil)).ext m26).ext m27).ext md2).ext m28)), ?_⟩
    rintro _ w31 ⟨bD'6, bI'6, bE'6, rfl, r28, r29, r30, ge20, ge21, ge22, ne16, ne17, ne18, m29⟩
    refine ⟨(((Mod.refl [] w29).nt m28).nt m29), ?_⟩
    refine DR.done rfl ?_
    intro w32 m30
    refine WO.call rfl (.free rfl) rfl (ltb rfl) (oc_call (vs := [.agg #[vF ra, vF ba, vF oc, vS bD'5 0 nD nD, vS bI'5 0 nI nI, vS bE'5 0 nE nE], .agg #[vF ra, vF ba, vF oc, vS bD'6 0 nD nD, vS bI'6 0 nI nI, vS bE'6 0 nE nE]]) (cap := []) rfl rfl rfl Tryd.call17 (c_eqScore ra ba oc nD nD (some ⟨bD'5, 0, none⟩) bD'5 0 esD nI nI (some ⟨bI'5, 0, none⟩) bI'5 0 esI nE nE (some ⟨bE'5, 0, none⟩) bE'5 0 esE nD (some ⟨bD'6, 0, none⟩) bD'6 0 nI (some ⟨bI'6, 0, none⟩) bI'6 0 nE (some ⟨bE'6, 0, none⟩) bE'6 0 lnD (fun _ => rfl) lnI (fun _ => rfl) lnE (fun _ => rfl) (by omega) (by omega) (by omega) (fun _ => rfl) (fun _ => rfl) (fun _ => rfl) w32 ((((((((r22.ext m24).mod m25 (nC (lE (lL r22.lt lR)) nN)).ext m26).ext m27).ext md2).ext m28).ext m29).ext m30).rng ((((((((r23.ext m24).mod m25 (nC (lE (lL r23.lt lR)) nN)).ext m26).ext m27).ext md2).ext m28).ext m29).ext m30).rng ((((((((r24.ext m24).mod m25 (nC (lE (lL r24.lt lR)) nN)).ext m26).ext m27).ext md2).ext m28).ext m29).ext m30).rng (r28.ext m30).rng (r29.ext m30).rng (r30.ext m30).rng)) ?_
    rintro _ w33 ⟨rfl, m31⟩
    refine WO.det (op_not rfl) rfl (.free rfl) rfl rfl ?_
    refine WO.end ?_
    refine NE.code ?_
    refine CE.cond_f rfl rfl ?_
    refine CE.skip' ?_
    refine NE.code ?_
    refine CE.seq ?_
    refine CE.region ?_
    refine WL.det (op_assign rfl) rfl rfl rfl ?_
    refine WL.end ?_
    refine NE.code ?_
    refine CE.seq ?_
    refine CE.region ?_
    refine WL.det (op_loadA (i := 0) (cs := [vF ra, vF ba, vF oc, vS bD'5 0 nD nD, vS bI'5 0 nI nI, vS bE'5 0 nE nE]) rfl Tryd.isAgg43 Tryd.sizeOf43 (((((((r27.ext m26).ext m27).ext md2).ext m28).ext m29).ext m30).ext m31).rng rfl rfl rfl) rfl rfl rfl ?_
    refine WL.det (op_move rfl) rfl rfl rfl ?_
    refine WL.call (oc_call (vs := [.agg #[vF ra, vF ba, vF oc, vS bD'5 0 nD nD, vS bI'5 0 nI nI, vS bE'5 0 nE nE], vI 1]) (cap := []) rfl rfl rfl Tryd.call27 (c_markScore ra ba oc nD bD'5 esD nI bI'5 esI nE bE'5 esE 1 lnD lnI lnE hnD hnI hnE (by omega) w33 (((((((((r22.ext m24).mod m25 (nC (lE (lL r22.lt lR)) nN)).ext m26).ext m27).ext md2).ext m28).ext m29).ext m30).ext m31) (((((((((r23.ext m24).mod m25 (nC (lE (lL r23.lt lR)) nN)).ext m26).ext m27).ext md2).ext m28).ext m29).ext m30).ext m31) (((((((((r24.ext m24).mod m25 (nC (lE (lL r24.lt lR)) nN)).ext m26).ext m27).ext md2).ext m28).ext m29).ext m30).ext m31) ne13 ne14 ne15)) rfl rfl (ltb rfl) ?_
    rintro _ w34 ⟨rfl, m32⟩
    refine WL.det (op_assign rfl) rfl rfl rfl ?_
    refine WL.end ?_
    refine NE.code ?_
    refine CE.seq ?_
    refine CE.seq ?_
    refine CE.region ?_
    refine WL.det (op_move rfl) rfl rfl rfl ?_
    refine WL.det (op_lti_f rfl rfl (by omega)) rfl rfl rfl ?_
    refine WL.det (op_move rfl) rfl rfl rfl ?_
    refine WL.yes rfl rfl rfl (ltb rfl) rfl rfl ?_
    refine WL.det (op_move rfl) rfl rfl rfl ?_
    refine WL.yes rfl rfl rfl (ltb rfl) rfl rfl ?_
    refine WL.det (op_move rfl) rfl rfl rfl ?_
    refine WL.yes rfl rfl rfl (ltb rfl) rfl rfl ?_
    refine WL.call (oc_call (vs := [.slice none 0 0, vS b'4 0 0 0]) (cap := []) rfl rfl rfl Tryd.call26 (c_eqEventS_same 0 0 none 0 0 [] 0 (some ⟨b'4, 0, none⟩) b'4 0 rfl (fun h => absurd h (Nat.lt_irrefl _)) (fun _ => rfl) (by omega) w34 (Rng.nil _ _ _) (((((((((((r21.ext m23).ext m24).mod m25 (nC (lE (lL (lL r21.lt m23.size) lR)) nN)).ext m26).ext m27).ext md2).ext m28).ext m29).ext m30).ext m31).mod m32 (nC (lE (lL r21.lt ge17)) (nC (lE (lL r21.lt ge18)) (nC (lE (lL r21.lt ge19)) nN)))).rng)) rfl rfl (ltb rfl) ?_
    rintro _ w35 ⟨rfl, m33⟩
    refine WL.yes rfl rfl rfl (ltb rfl) rfl rfl ?_
    refine WL.det (op_not rfl) rfl rfl rfl ?_
    refine WL.det (op_pick_f rfl rfl rfl) rfl rfl rfl ?_
    refine WL.det (op_move rfl) rfl rfl rfl ?_
    refine WL.yes rfl rfl rfl (ltb rfl) rfl rfl ?_
    refine WL.det (op_move rfl) rfl rfl rfl ?_
    refine WL.yes rfl rfl rfl (ltb rfl) rfl rfl ?_
    refine WL.det (op_move rfl) rfl rfl rfl ?_
    refine WL.yes rfl rfl rfl (ltb rfl) rfl rfl ?_
    refine WL.det (op_nei rfl rfl) rfl rfl rfl ?_
    refine WL.det (op_pick_f rfl rfl rfl) rfl rfl rfl ?_
    refine WL.end ?_
    refine NE.code ?_
    refine CE.cond_f rfl rfl ?_
    refine CE.skip' ?_
    refine NE.code ?_
    refine CE.seq ?_
    refine CE.region ?_
    refine WL.det (op_assign rfl) rfl rfl rfl ?_
    refine WL.end ?_
    refine NE.code ?_
    refine CE.seq ?_
    refine CE.region ?_
    refine WL.det (op_move rfl) rfl rfl rfl ?_
    refine WL.det (op_move rfl) rfl rfl rfl ?_
    refine WL.call (oc_call (vs := [.slice none 0 0, vI 1]) (cap := []) rfl rfl rfl Tryd.call28 (c_markEventS_nil 1 (by omega) w35)) rfl rfl (ltb rfl) ?_
    rintro _ w36 ⟨rfl, m34⟩
    refine WL.det (op_assign rfl) rfl rfl rfl ?_
    refine WL.end ?_
    refine NE.code ?_
    refine CE.seq ?_
    refine CE.region ?_
    refine WL.det (op_assign rfl) rfl rfl rfl ?_
    refine WL.end ?_
    refine NE.code ?_
    refine CE.seq ?_
    refine CE.region ?_
    refine WL.det (op_move rfl) rfl rfl rfl ?_
    refine WL.det (op_move rfl) rfl rfl rfl ?_
    refine WL.call (oc_call (vs := [.slice none 0 0, vI 1]) (cap := []) rfl rfl rfl Tryd.call29 (c_heldEventS_nil 1 (by omega) w36)) rfl rfl (ltb rfl) ?_
    rintro _ w37 ⟨rfl, m35⟩
    refine WL.det (op_assign rfl) rfl rfl rfl ?_
    refine WL.end ?_
    refine NE.code ?_
    refine CE.seq ?_
    refine CE.seq ?_
    refine CE.region ?_
    refine WL.det (op_move rfl) rfl rfl rfl ?_
    refine WL.det (op_lti rfl rfl) rfl rfl rfl ?_
    refine WL.end ?_
    refine NE.code ?_
    refine CE.cond_f rfl rfl ?_
    refine CE.skip' ?_
    refine NE.code ?_
    refine CE.seq ?_
    refine CE.seq ?_
    refine CE.region ?_
    refine WL.det (op_move rfl) rfl rfl rfl ?_
    refine WL.det (op_move rfl) rfl rfl rfl ?_
    refine WL.det (op_nei rfl rfl) rfl rfl rfl ?_
    refine WL.end ?_
    refine NE.code ?_
    refine CE.cond_f rfl rfl ?_
    refine CE.skip' ?_
    refine NE.code ?_
    refine CE.seq ?_
    refine CE.region ?_
    refine WL.det (op_loadA (i := 0) (cs := [vF ra, vF ba, vF oc, .slice AD nD cD, .slice AI nI cI, .slice AE nE cE]) rfl Tryd.isAgg36 Tryd.sizeOf36 (((((((((((((((((r1.ext m2).ext m3).ext m22).ext m23).ext m24).mod m25 (nC (lE (lL (lL r1.lt (lT (lT (lT m2.size m3.size) m22.size) m23.size)) lR)) nN)).ext m26).ext m27).ext md2).ext m28).ext m29).ext m30).ext m31).mod m32 (nC (lE (lL (lL r1.lt (lT (lT m2.size m3.size) m22.size)) ge17)) (nC (lE (lL (lL r1.lt (lT (lT m2.size m3.size) m22.size)) ge18)) (nC (lE (lL (lL r1.lt (lT (lT m2.size m3.size) m22.size)) ge19)) nN)))).ext m33).ext m34).ext m35).rng rfl rfl rfl) rfl rfl rfl ?_
    refine WL.call (oc_call (vs := [.agg #[vF ra, vF ba, vF oc, .slice AD nD cD, .slice AI nI cI, .slice AE nE cE]]) (cap := []) rfl rfl rfl Tryd.call15 (c_toScore ra ba oc nD cD AD bD oD esD nI cI AI bI oI esI nE cE AE bE oE esE lnD hAD hnD lnI hAI hnI lnE hAE hnE w37 ((((Rng.youngS rD ((((((((Rng.youngS rD ((((((rD.ext m1).ext m2).ext m3).ext m22).ext m23).ext m24) m25 (allge_cons (lT (lT (lT (lT (lT m1.size m2.size) m3.size) m22.size) m23.size) lR) allge_nil)).ext m26).ext m27).ext md2).ext m28).ext m29).ext m30).ext m31) m32 (allge_cons (lT (lT (lT (lT m1.size m2.size) m3.size) m22.size) ge17) (allge_cons (lT (lT (lT (lT m1.size m2.size) m3.size) m22.size) ge18) (allge_cons (lT (lT (lT (lT m1.size m2.size) m3.size) m22.size) ge19) allge_nil)))).ext m33).ext m34).ext m35) ((((Rng.youngS rI ((((((((Rng.youngS rI ((((((rI.ext m1).ext m2).ext m3).ext m22).ext m23).ext m24) m25 (allge_cons (lT (lT (lT (lT (lT m1.size m2.size) m3.size) m22.size) m23.size) lR) allge_nil)).ext m26).ext m27).ext md2).ext m28).ext m29).ext m30).ext m31) m32 (allge_cons (lT (lT (lT (lT m1.size m2.size) m3.size) m22.size) ge17) (allge_cons (lT (lT (lT (lT m1.size m2.size) m3.size) m22.size) ge18) (allge_cons (lT (lT (lT (lT m1.size m2.size) m3.size) m22.size) ge19) allge_nil)))).ext m33).ext m34).ext m35) ((((Rng.youngS rE ((((((((Rng.youngS rE ((((((rE.ext m1).ext m2).ext m3).ext m22).ext m23).ext m24) m25 (allge_cons (lT (lT (lT (lT (lT m1.size m2.size) m3.size) m22.size) m23.size) lR) allge_nil)).ext m26).ext m27).ext md2).ext m28).ext m29).ext m30).ext m31) m32 (allge_cons (lT (lT (lT (lT m1.size m2.size) m3.size) m22.size) ge17) (allge_cons (lT (lT (lT (lT m1.size m2.size) m3.size) m22.size) ge18) (allge_cons (lT (lT (lT (lT m1.size m2.size) m3.size) m22.size) ge19) allge_nil)))).ext m33).ext m34).ext m35))) rfl rfl (ltb rfl) ?_
    rintro _ w38 ⟨bD'7, bI'7, bE'7, rfl, r31, r32, r33, ge23, ge24, ge25, ne19, ne20, ne21, m36⟩
    refine WL.det (op_move rfl) rfl rfl rfl ?_
    refine WL.det (op_move rfl) rfl rfl rfl ?_
    refine WL.call (oc_call (vs := [.agg #[vF ra, vF ba, vF oc, vS bD'7 0 nD nD, vS bI'7 0 nI nI, vS bE'7 0 nE nE], vI ef, vI et]) (cap := []) rfl rfl rfl Tryd.call25 (c_iBetw_inv ra ba oc nD bD'7 esD nI bI'7 esI nE bE'7 esE ef et lnD lnI lnE hnD hnI hnE hS hW (by assumption) w38 r31.rng r32.rng r33.rng)) rfl rfl (ltb rfl) ?_
    rintro _ w39 ⟨rfl, m37⟩
    refine WL.det (op_move rfl) rfl rfl rfl ?_
    refine WL.det (op_extract rfl rfl) rfl rfl rfl ?_
    refine WL.det (op_extract rfl rfl) rfl rfl rfl ?_
    refine WL.det (op_assign rfl) rfl rfl rfl ?_
    refine WL.det (op_assign rfl) rfl rfl rfl ?_
    refine WL.end ?_
    refine NE.code ?_
    refine CE.seq ?_
    refine CE.seq ?_
    refine CE.region ?_
    refine WL.det (op_move rfl) rfl rfl rfl ?_
    refine WL.det (op_move rfl) rfl rfl rfl ?_
    refine WL.call (oc_call (vs := [.slice none 0 0, vS b'4 0 0 0]) (cap := []) rfl rfl rfl Tryd.call26 (c_eqEventS_same 0 0 none 0 0 [] 0 (some ⟨b'4, 0, none⟩) b'4 0 rfl (fun h => absurd h (Nat.lt_irrefl _)) (fun _ => rfl) (by omega) w39 (Rng.nil _ _ _) ((((((((((((((((r21.ext m23).ext m24).mod m25 (nC (lE (lL (lL r21.lt m23.size) lR)) nN)).ext m26).ext m27).ext md2).ext m28).ext m29).ext m30).ext m31).mod m32 (nC (lE (lL r21.lt ge17)) (nC (lE (lL r21.lt ge18)) (nC (lE (lL r21.lt ge19)) nN)))).ext m33).ext m34).ext m35).ext m36).ext m37).rng)) rfl rfl (ltb rfl) ?_
    rintro _ w40 ⟨rfl, m38⟩
    refine WL.det (op_not rfl) rfl rfl rfl ?_
    refine WL.det (op_move rfl) rfl rfl rfl ?_
    refine WL.yes rfl rfl rfl (ltb rfl) rfl rfl ?_
    refine WL.det (op_move rfl) rfl rfl rfl ?_
    refine WL.yes rfl rfl rfl (ltb rfl) rfl rfl ?_
    refine WL.det (op_move rfl) rfl rfl rfl ?_
    refine WL.yes rfl rfl rfl (ltb rfl) rfl rfl ?_
    refine WL.det (op_nei rfl rfl) rfl rfl rfl ?_
    refine WL.det (op_pick_f rfl rfl rfl) rfl rfl rfl ?_
    refine WL.end ?_
    refine NE.code ?_
    refine CE.cond_f rfl rfl ?_
    refine CE.skip' ?_
    refine NE.code ?_
    refine CE.seq ?_
    refine CE.region ?_
    refine WL.det (op_assign rfl) rfl rfl rfl ?_
    refine WL.end ?_
    refine NE.code ?_
    refine CE.seq ?_
    refine CE.region ?_
    refine WL.det (op_move rfl) rfl rfl rfl ?_
    refine WL.det (op_move rfl) rfl rfl rfl ?_
    refine WL.call (oc_call (vs := [.slice none 0 0, vI 1]) (cap := []) rfl rfl rfl Tryd.call29 (c_heldEventS_nil 1 (by omega) w40)) rfl rfl (ltb rfl) ?_
    rintro _ w41 ⟨rfl, m39⟩
    refine WL.det (op_assign rfl) rfl rfl rfl ?_
    refine WL.end ?_
    refine NE.code ?_
    refine CE.seq ?_
    refine CE.seq ?_
    refine CE.region ?_
    refine WL.det (op_move rfl) rfl rfl rfl ?_
    refine WL.det (op_lti rfl rfl) rfl rfl rfl ?_
    refine WL.end ?_
    refine NE.code ?_
    refine CE.cond_f rfl rfl ?_
    refine CE.skip' ?_
    refine NE.code ?_
    refine CE.seq ?_
    refine CE.seq ?_
    refine CE.region ?_
    refine WL.det (op_move rfl) rfl rfl rfl ?_
    refine WL.det (op_move rfl) rfl rfl rfl ?_
    refine WL.det (op_nei rfl rfl) rfl rfl rfl ?_
    refine WL.end ?_
    refine NE.code ?_
    refine CE.cond_f rfl rfl ?_
    refine CE.skip' ?_
    refine NE.code ?_
    refine CE.seq ?_
    refine CE.region ?_
    refine WL.det (op_assign rfl) rfl rfl rfl ?_
    refine WL.end ?_
    refine NE.code ?_
    refine CE.ret' ?_
    refine XE.leave1 Tryd.results8 rfl ?_
    refine ⟨rfl, (((((((((((((((((((((((Mod.refl [] w).nt m1).nt m2).nt m3).nt m22).nt m23).nt m24).then m25 ((aC (.inr (lT (lT (lT (lT (lT m1.size m2.size) m3.size) m22.size) m23.size) lR)) aN))).nt m26).nt m27).nt md2).nt m28).nt m29).nt m30).nt m31).then m32 ((aC (.inr (lT (lT (lT (lT m1.size m2.size) m3.size) m22.size) ge17)) (aC (.inr (lT (lT (lT (lT m1.size m2.size) m3.size) m22.size) ge18)) (aC (.inr (lT (lT (lT (lT m1.size m2.size) m3.size) m22.size) ge19)) aN))))).nt m33).nt m34).nt m35).nt m36).nt m37).nt m38).nt m39)⟩

set_option maxRecDepth 100000 in
set_option maxHeartbeats 8000000 in
theorem law_betw_o (ra : Nat) (ba : Nat) (oc : Nat) (nD : Nat) (cD : Nat) (AD : Option Addr) (bD : Nat) (oD : Nat) (esD : List Nat) (nI : Nat) (cI : Nat) (AI : Option Addr) (bI : Nat) (oI : Nat) (esI : List InR) (nE : Nat) (cE : Nat) (AE : Option Addr) (bE : Nat) (oE : Nat) (esE : List EvR) (ef : Int) (et : Int) (lnD : esD.length = nD) (hAD : 0 < nD → AD = some ⟨bD, oD, none⟩) (lnI : esI.length = nI) (hAI : 0 < nI → AI = some ⟨bI, oI, none⟩) (lnE : esE.length = nE) (hAE : 0 < nE → AE = some ⟨bE, oE, none⟩) (hnD : nD ≤ 9223372036854775807) (hnI : nI ≤ 9223372036854775807) (hnE : nE ≤ 9223372036854775807) (hS : ∀ i, (esI.getD i InR.d).name.size ≤ 9223372036854775807) (hW : ∀ i, EvW (esE.getD i EvR.d)) (hl : 1048576 < (nD + nI + nmSum esI nI + nE)) (w : World) (rD : Rng w bD oD (fl esD)) (rI : Rng w bI oI (cat InR.cells esI)) (rE : Rng w bE oE (cat EvR.cells esE)) : Cl Tryd.prog 8 #[.agg #[vF ra, vF ba, vF oc, .slice AD nD cD, .slice AI nI cI, .slice AE nE cE], vI ef, vI et] w fun v w' => v = .bool true ∧ Mod [] w w' := by
  have hbl := betw_le esE ef et nE
  refine Cl.of Tryd.func8 Tryd.ntmps8 rfl rfl (ρ := [(0, .agg #[vF ra, vF ba, vF oc, .slice AD nD cD, .slice AI nI cI, .slice AE nE cE]), (1, vI ef), (2, vI et)]) rfl ?_
  refine CE.seq ?_
  refine CE.region ?_
  refine WL.op (op_box (cs := [vF ra, vF ba, vF oc, .slice AD nD cD, .slice AI nI cI, .slice AE nE cE]) rfl rfl) rfl rfl (ltb rfl) ?_
  rintro _ w1 ⟨rfl, r1, m1, z1⟩
  refine WL.det (op_assign rfl) rfl rfl rfl ?_
  refine WL.end ?_
  refine NE.code ?_
  refine CE.seq ?_
  refine CE.region ?_
  refine WL.det (op_assign rfl) rfl rfl rfl ?_
  refine WL.end ?_
  refine NE.code ?_
  refine CE.seq ?_
  refine CE.region ?_
  refine WL.det (op_loadA (i := 0) (cs := [vF ra, vF ba, vF oc, .slice AD nD cD, .slice AI nI cI, .slice AE nE cE]) rfl Tryd.isAgg36 Tryd.sizeOf36 r1.rng rfl rfl rfl) rfl rfl rfl ?_
  refine WL.det (op_move rfl) rfl rfl rfl ?_
  refine WL.call (oc_call (vs := [.agg #[vF ra, vF ba, vF oc, .slice AD nD cD, .slice AI nI cI, .slice AE nE cE], vI 1048576]) (cap := []) rfl rfl rfl Tryd.call13 (c_szScore_over ra ba oc nD cD AD bD oD esD nI cI AI bI oI esI nE cE AE bE oE esE 1048576 lnD hAD lnI hAI lnE hAE hnD hnI hnE hS (by omega) hl w1 (rD.ext m1) (rI.ext m1) (rE.ext m1))) rfl rfl (ltb rfl) ?_
  rintro _ w2 ⟨rfl, m2⟩
  refine WL.det (op_assign rfl) rfl rfl rfl ?_
  refine WL.end ?_
  refine NE.code ?_
  refine CE.seq ?_
  refine CE.seq ?_
  refine CE.region ?_
  refine WL.det (op_move rfl) rfl rfl rfl ?_
  refine WL.det (op_lti rfl rfl) rfl rfl rfl ?_
  refine WL.end ?_
  refine NE.code ?_
  refine CE.cond_t rfl rfl ?_
  refine CE.seq ?_
  refine CE.region ?_
  refine WL.det (op_assign rfl) rfl rfl rfl ?_
  refine WL.end ?_
  refine NE.code ?_
  refine CE.ret' ?_
  refine XE.ret_then ?_
  refine XE.leave1 Tryd.results8 rfl ?_
  refine ⟨rfl, (((Mod.refl [] w).nt m1).nt m2)⟩

end Go.Proofs.YtdopidalhkcefaaDoor
