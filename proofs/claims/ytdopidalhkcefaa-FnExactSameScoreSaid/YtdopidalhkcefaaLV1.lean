/- The law on comparing scores, walked. -/
import Derived.Test.YtdopidalhkcefaaK2
import Derived.Test.YtdopidalhkcefaaE8
set_option linter.unusedVariables false
set_option linter.unusedSimpArgs false
namespace Go.Proofs.Ytdopidalhkcefaa

set_option maxRecDepth 100000 in
set_option maxHeartbeats 2000000 in
theorem law_samescore (ra : Nat) (ba : Nat) (oc : Nat) (nD : Nat) (cD : Nat) (AD : Option Addr) (bD : Nat) (oD : Nat) (esD : List Nat) (nI : Nat) (cI : Nat) (AI : Option Addr) (bI : Nat) (oI : Nat) (esI : List InR) (nE : Nat) (cE : Nat) (AE : Option Addr) (bE : Nat) (oE : Nat) (esE : List EvR) (ra' : Nat) (ba' : Nat) (oc' : Nat) (nD' : Nat) (cD' : Nat) (AD' : Option Addr) (bD' : Nat) (oD' : Nat) (esD' : List Nat) (nI' : Nat) (cI' : Nat) (AI' : Option Addr) (bI' : Nat) (oI' : Nat) (esI' : List InR) (nE' : Nat) (cE' : Nat) (AE' : Option Addr) (bE' : Nat) (oE' : Nat) (esE' : List EvR) (lnD : esD.length = nD) (hAD : 0 < nD → AD = some ⟨bD, oD, none⟩) (lnI : esI.length = nI) (hAI : 0 < nI → AI = some ⟨bI, oI, none⟩) (lnE : esE.length = nE) (hAE : 0 < nE → AE = some ⟨bE, oE, none⟩) (hnD : nD ≤ 1048576) (hnI : nI ≤ 1048576) (hnE : nE ≤ 1048576) (lnD' : esD'.length = nD') (hAD' : 0 < nD' → AD' = some ⟨bD', oD', none⟩) (lnI' : esI'.length = nI') (hAI' : 0 < nI' → AI' = some ⟨bI', oI', none⟩) (lnE' : esE'.length = nE') (hAE' : 0 < nE' → AE' = some ⟨bE', oE', none⟩) (hnD' : nD' ≤ 1048576) (hnI' : nI' ≤ 1048576) (hnE' : nE' ≤ 1048576) (hS : ∀ i, (esI.getD i InR.d).name.size ≤ 9223372036854775807) (hS' : ∀ i, (esI'.getD i InR.d).name.size ≤ 9223372036854775807) (hl : (nD + nI + nmSum esI nI + nE) + (nD' + nI' + nmSum esI' nI' + nE') ≤ 1048576) (w : World) (rD : Rng w bD oD (fl esD)) (rI : Rng w bI oI (cat InR.cells esI)) (rE : Rng w bE oE (cat EvR.cells esE)) (rD' : Rng w bD' oD' (fl esD')) (rI' : Rng w bI' oI' (cat InR.cells esI')) (rE' : Rng w bE' oE' (cat EvR.cells esE')) : Cl Try.prog 4 #[.agg #[vF ra, vF ba, vF oc, .slice AD nD cD, .slice AI nI cI, .slice AE nE cE], .agg #[vF ra', vF ba', vF oc', .slice AD' nD' cD', .slice AI' nI' cI', .slice AE' nE' cE']] w fun v w' => v = .bool true ∧ Mod [] w w' := by
  refine Cl.of Try.func4 Try.ntmps4 rfl rfl (ρ := [(0, .agg #[vF ra, vF ba, vF oc, .slice AD nD cD, .slice AI nI cI, .slice AE nE cE]), (1, .agg #[vF ra', vF ba', vF oc', .slice AD' nD' cD', .slice AI' nI' cI', .slice AE' nE' cE'])]) rfl ?_
  refine CE.seq ?_
  refine CE.region ?_
  refine WL.op (op_box (cs := [vF ra, vF ba, vF oc, .slice AD nD cD, .slice AI nI cI, .slice AE nE cE]) rfl rfl) rfl rfl (ltb rfl) ?_
  rintro _ w1 ⟨rfl, r1, m1, z1⟩
  refine WL.op (op_box (cs := [vF ra', vF ba', vF oc', .slice AD' nD' cD', .slice AI' nI' cI', .slice AE' nE' cE']) rfl rfl) rfl rfl (ltb rfl) ?_
  rintro _ w2 ⟨rfl, r2, m2, z2⟩
  refine WL.det (op_assign rfl) rfl rfl rfl ?_
  refine WL.end ?_
  refine NE.code ?_
  refine CE.seq ?_
  refine CE.region ?_
  refine WL.det (op_assign rfl) rfl rfl rfl ?_
  refine WL.end ?_
  refine NE.code ?_
  refine CE.seq ?_
  refine CE.region ?_
  refine WL.det (op_loadA (i := 0) (cs := [vF ra, vF ba, vF oc, .slice AD nD cD, .slice AI nI cI, .slice AE nE cE]) rfl Try.isAgg48 Try.sizeOf48 (r1.ext m2).rng rfl rfl rfl) rfl rfl rfl ?_
  refine WL.det (op_move rfl) rfl rfl rfl ?_
  refine WL.call (oc_call (vs := [.agg #[vF ra, vF ba, vF oc, .slice AD nD cD, .slice AI nI cI, .slice AE nE cE], vI 1048576]) (cap := []) rfl rfl rfl Try.call10 (c_szScore ra ba oc nD cD AD bD oD esD nI cI AI bI oI esI nE cE AE bE oE esE 1048576 lnD hAD lnI hAI lnE hAE (by omega) (by omega) (by omega) (by first | assumption | exact hS) (by omega) (by omega) w2 ((rD.ext m1).ext m2) ((rI.ext m1).ext m2) ((rE.ext m1).ext m2))) rfl rfl (ltb rfl) ?_
  rintro _ w3 ⟨rfl, m3⟩
  refine WL.det (op_assign rfl) rfl rfl rfl ?_
  refine WL.end ?_
  refine NE.code ?_
  refine CE.seq ?_
  refine CE.seq ?_
  refine CE.region ?_
  refine WL.det (op_move rfl) rfl rfl rfl ?_
  refine WL.det (op_lti_f rfl rfl (by omega)) rfl rfl rfl ?_
  refine WL.end ?_
  refine NE.code ?_
  refine CE.cond_f rfl rfl ?_
  refine CE.skip' ?_
  refine NE.code ?_
  refine CE.seq ?_
  refine CE.region ?_
  refine WL.det (op_loadA (i := 0) (cs := [vF ra', vF ba', vF oc', .slice AD' nD' cD', .slice AI' nI' cI', .slice AE' nE' cE']) rfl Try.isAgg48 Try.sizeOf48 (r2.ext m3).rng rfl rfl rfl) rfl rfl rfl ?_
  refine WL.det (op_move rfl) rfl rfl rfl ?_
  refine WL.call (oc_call (vs := [.agg #[vF ra', vF ba', vF oc', .slice AD' nD' cD', .slice AI' nI' cI', .slice AE' nE' cE'], vI ((1048576 - (nD + nI + nmSum esI nI + nE) : Nat) : Int)]) (cap := []) rfl rfl rfl Try.call10 (c_szScore ra' ba' oc' nD' cD' AD' bD' oD' esD' nI' cI' AI' bI' oI' esI' nE' cE' AE' bE' oE' esE' (1048576 - (nD + nI + nmSum esI nI + nE)) lnD' hAD' lnI' hAI' lnE' hAE' (by omega) (by omega) (by omega) (by first | assumption | exact hS) (by omega) (by omega) w3 (((rD'.ext m1).ext m2).ext m3) (((rI'.ext m1).ext m2).ext m3) (((rE'.ext m1).ext m2).ext m3))) rfl rfl (ltb rfl) ?_
  rintro _ w4 ⟨rfl, m4⟩
  refine WL.det (op_assign rfl) rfl rfl rfl ?_
  refine WL.end ?_
  refine NE.code ?_
  refine CE.seq ?_
  refine CE.seq ?_
  refine CE.region ?_
  refine WL.det (op_move rfl) rfl rfl rfl ?_
  refine WL.det (op_lti_f rfl rfl (by omega)) rfl rfl rfl ?_
  refine WL.end ?_
  refine NE.code ?_
  refine CE.cond_f rfl rfl ?_
  refine CE.skip' ?_
  refine NE.code ?_
  refine CE.seq ?_
  refine CE.draw (fun | 1 => some (fun _ wA uA wB => ∃ (bD' : Nat) (bI' : Nat) (bE' : Nat), uA = .agg #[vF ra, vF ba, vF oc, vS bD' 0 nD nD, vS bI' 0 nI nI, vS bE' 0 nE nE] ∧ Row wB bD' 0 (fl esD) ∧ Row wB bI' 0 (cat InR.cells esI) ∧ Row wB bE' 0 (cat EvR.cells esE) ∧ wA.heap.size ≤ bD' ∧ wA.heap.size ≤ bI' ∧ wA.heap.size ≤ bE' ∧ bD' ≠ bI' ∧ bD' ≠ bE' ∧ bI' ≠ bE' ∧ Mod [] wA wB) | _ => none) [0, 1, 2] [3, 4, 5] [] (by kernel_rfl) (by kernel_rfl) ?_
  have md1 : Mod [] w4 w4.drew := (Mod.refl _ _).drew
  generalize w4.drew = w5 at md1 ⊢
  refine DR.det (i := 0) rfl rfl (by kernel_rfl) (.free rfl) rfl rfl (fun wD mD => op_loadA (i := 0) (cs := [vF ra, vF ba, vF oc, .slice AD nD cD, .slice AI nI cI, .slice AE nE cE]) rfl Try.isAgg48 Try.sizeOf48 (((((r1.ext m2).ext m3).ext m4).ext md1).ext mD).rng rfl rfl rfl) ?_
  refine DR.det (i := 2) rfl rfl (by kernel_rfl) (.free rfl) rfl rfl (fun wD mD => op_loadA (i := 0) (cs := [vF ra', vF ba', vF oc', .slice AD' nD' cD', .slice AI' nI' cI', .slice AE' nE' cE']) rfl Try.isAgg48 Try.sizeOf48 ((((r2.ext m3).ext m4).ext md1).ext mD).rng rfl rfl rfl) ?_
  refine DR.one (i := 1) rfl rfl (by kernel_rfl) (.free rfl) rfl (ltb rfl) (vs := [.func (.func 12) #[] #[], .agg #[vF ra, vF ba, vF oc, .slice AD nD cD, .slice AI nI cI, .slice AE nE cE]]) rfl ?_
  intro w6 m5
  refine ⟨oc_call (vs := [.agg #[vF ra, vF ba, vF oc, .slice AD nD cD, .slice AI nI cI, .slice AE nE cE]]) (cap := []) rfl rfl rfl Try.call12 (c_toScore ra ba oc nD cD AD bD oD esD nI cI AI bI oI esI nE cE AE bE oE esE lnD hAD (by omega) lnI hAI (by omega) lnE hAE (by omega) w6 ((((((rD.ext m1).ext m2).ext m3).ext m4).ext md1).ext m5) ((((((rI.ext m1).ext m2).ext m3).ext m4).ext md1).ext m5) ((((((rE.ext m1).ext m2).ext m3).ext m4).ext md1).ext m5)), ?_⟩
  rintro _ w7 ⟨bD'1, bI'1, bE'1, rfl, r3, r4, r5, ge1, ge2, ge3, ne1, ne2, ne3, m6⟩
  refine ⟨(((Mod.refl [] w5).nt m5).nt m6), ?_⟩
  refine DR.done rfl ?_
  intro w8 m7
  refine WO.call rfl (.free rfl) rfl (ltb rfl) (oc_call (vs := [.agg #[vF ra', vF ba', vF oc', .slice AD' nD' cD', .slice AI' nI' cI', .slice AE' nE' cE']]) (cap := []) rfl rfl rfl Try.call12 (c_toScore ra' ba' oc' nD' cD' AD' bD' oD' esD' nI' cI' AI' bI' oI' esI' nE' cE' AE' bE' oE' esE' lnD' hAD' (by omega) lnI' hAI' (by omega) lnE' hAE' (by omega) w8 ((((((((rD'.ext m1).ext m2).ext m3).ext m4).ext md1).ext m5).ext m6).ext m7) ((((((((rI'.ext m1).ext m2).ext m3).ext m4).ext md1).ext m5).ext m6).ext m7) ((((((((rE'.ext m1).ext m2).ext m3).ext m4).ext md1).ext m5).ext m6).ext m7))) ?_
  rintro _ w9 ⟨bD'2, bI'2, bE'2, rfl, r6, r7, r8, ge4, ge5, ge6, ne4, ne5, ne6, m8⟩
  refine WO.call rfl (.free rfl) rfl (ltb rfl) (oc_call (vs := [.agg #[vF ra, vF ba, vF oc, vS bD'1 0 nD nD, vS bI'1 0 nI nI, vS bE'1 0 nE nE], .agg #[vF ra', vF ba', vF oc', vS bD'2 0 nD' nD', vS bI'2 0 nI' nI', vS bE'2 0 nE' nE']]) (cap := []) rfl rfl rfl Try.call11 (c_sSameScore ra ba oc nD nD (some ⟨bD'1, 0, none⟩) bD'1 0 esD nI nI (some ⟨bI'1, 0, none⟩) bI'1 0 esI nE nE (some ⟨bE'1, 0, none⟩) bE'1 0 esE ra' ba' oc' nD' nD' (some ⟨bD'2, 0, none⟩) bD'2 0 esD' nI' nI' (some ⟨bI'2, 0, none⟩) bI'2 0 esI' nE' nE' (some ⟨bE'2, 0, none⟩) bE'2 0 esE' lnD (fun _ => rfl) (by omega) lnI (fun _ => rfl) (by omega) lnE (fun _ => rfl) (by omega) lnD' (fun _ => rfl) (by omega) lnI' (fun _ => rfl) (by omega) lnE' (fun _ => rfl) (by omega) w9 ((r3.ext m7).ext m8).rng ((r4.ext m7).ext m8).rng ((r5.ext m7).ext m8).rng r6.rng r7.rng r8.rng)) ?_
  rintro _ w10 ⟨rfl, m9⟩
  refine WO.det (op_assign rfl) rfl (.free rfl) rfl rfl ?_
  refine WO.end ?_
  refine NE.code ?_
  refine CE.seq ?_
  refine CE.region ?_
  refine WL.det (op_loadA (i := 0) (cs := [vF ra, vF ba, vF oc, .slice AD nD cD, .slice AI nI cI, .slice AE nE cE]) rfl Try.isAgg48 Try.sizeOf48 (((((((((r1.ext m2).ext m3).ext m4).ext md1).ext m5).ext m6).ext m7).ext m8).ext m9).rng rfl rfl rfl) rfl rfl rfl ?_
  refine WL.call (oc_call (vs := [.agg #[vF ra, vF ba, vF oc, .slice AD nD cD, .slice AI nI cI, .slice AE nE cE]]) (cap := []) rfl rfl rfl Try.call12 (c_toScore ra ba oc nD cD AD bD oD esD nI cI AI bI oI esI nE cE AE bE oE esE lnD hAD (by omega) lnI hAI (by omega) lnE hAE (by omega) w10 ((((((((((rD.ext m1).ext m2).ext m3).ext m4).ext md1).ext m5).ext m6).ext m7).ext m8).ext m9) ((((((((((rI.ext m1).ext m2).ext m3).ext m4).ext md1).ext m5).ext m6).ext m7).ext m8).ext m9) ((((((((((rE.ext m1).ext m2).ext m3).ext m4).ext md1).ext m5).ext m6).ext m7).ext m8).ext m9))) rfl rfl (ltb rfl) ?_
  rintro _ w11 ⟨bD'3, bI'3, bE'3, rfl, r9, r10, r11, ge7, ge8, ge9, ne7, ne8, ne9, m10⟩
  refine WL.op (op_alloc (cs := [vF 0, vF 0, vF 0, .slice none 0 0, .slice none 0 0, .slice none 0 0]) Try.zeroValue55 rfl) rfl rfl (ltb rfl) ?_
  rintro _ w12 ⟨rfl, r12, m11, z3⟩
  refine WL.op0 (op_store (i := 0) (cs := [vF ra, vF ba, vF oc, vS bD'3 0 nD nD, vS bI'3 0 nI nI, vS bE'3 0 nE nE]) rfl rfl rfl Try.sizeOf55 rfl r12 rfl (lB rfl) rfl) rfl rfl ?_
  rintro _ w13 ⟨r13, m12, z4⟩
  have r14 : Row w13 w11.heap.size 0 [vF ra, vF ba, vF oc, vS bD'3 0 nD nD, vS bI'3 0 nI nI, vS bE'3 0 nE nE] := Row.congr r13 rfl
  refine WL.end ?_
  refine NE.code ?_
  refine CE.seq ?_
  refine CE.region ?_
  refine WL.det (op_loadA (i := 0) (cs := [vF ra', vF ba', vF oc', .slice AD' nD' cD', .slice AI' nI' cI', .slice AE' nE' cE']) rfl Try.isAgg48 Try.sizeOf48 (((((((((((r2.ext m3).ext m4).ext md1).ext m5).ext m6).ext m7).ext m8).ext m9).ext m10).ext m11).mod m12 (nC (lE (lL (lL r2.lt (lT (lT (lT (lT (lT (lT (lT (lT m3.size m4.size) md1.size) m5.size) m6.size) m7.size) m8.size) m9.size) m10.size)) lR)) nN)).rng rfl rfl rfl) rfl rfl rfl ?_
  refine WL.call (oc_call (vs := [.agg #[vF ra', vF ba', vF oc', .slice AD' nD' cD', .slice AI' nI' cI', .slice AE' nE' cE']]) (cap := []) rfl rfl rfl Try.call12 (c_toScore ra' ba' oc' nD' cD' AD' bD' oD' esD' nI' cI' AI' bI' oI' esI' nE' cE' AE' bE' oE' esE' lnD' hAD' (by omega) lnI' hAI' (by omega) lnE' hAE' (by omega) w13 (Rng.youngS rD' ((((((((((((rD'.ext m1).ext m2).ext m3).ext m4).ext md1).ext m5).ext m6).ext m7).ext m8).ext m9).ext m10).ext m11) m12 (allge_cons (lT (lT (lT (lT (lT (lT (lT (lT (lT (lT (lT m1.size m2.size) m3.size) m4.size) md1.size) m5.size) m6.size) m7.size) m8.size) m9.size) m10.size) lR) allge_nil)) (Rng.youngS rI' ((((((((((((rI'.ext m1).ext m2).ext m3).ext m4).ext md1).ext m5).ext m6).ext m7).ext m8).ext m9).ext m10).ext m11) m12 (allge_cons (lT (lT (lT (lT (lT (lT (lT (lT (lT (lT (lT m1.size m2.size) m3.size) m4.size) md1.size) m5.size) m6.size) m7.size) m8.size) m9.size) m10.size) lR) allge_nil)) (Rng.youngS rE' ((((((((((((rE'.ext m1).ext m2).ext m3).ext m4).ext md1).ext m5).ext m6).ext m7).ext m8).ext m9).ext m10).ext m11) m12 (allge_cons (lT (lT (lT (lT (lT (lT (lT (lT (lT (lT (lT m1.size m2.size) m3.size) m4.size) md1.size) m5.size) m6.size) m7.size) m8.size) m9.size) m10.size) lR) allge_nil)))) rfl rfl (ltb rfl) ?_
  rintro _ w14 ⟨bD'4, bI'4, bE'4, rfl, r15, r16, r17, ge10, ge11, ge12, ne10, ne11, ne12, m13⟩
  refine WL.op (op_alloc (cs := [vF 0, vF 0, vF 0, .slice none 0 0, .slice none 0 0, .slice none 0 0]) Try.zeroValue55 rfl) rfl rfl (ltb rfl) ?_
  rintro _ w15 ⟨rfl, r18, m14, z5⟩
  refine WL.op0 (op_store (i := 0) (cs := [vF ra', vF ba', vF oc', vS bD'4 0 nD' nD', vS bI'4 0 nI' nI', vS bE'4 0 nE' nE']) rfl rfl rfl Try.sizeOf55 rfl r18 rfl (lB rfl) rfl) rfl rfl ?_
  rintro _ w16 ⟨r19, m15, z6⟩
  have r20 : Row w16 w14.heap.size 0 [vF ra', vF ba', vF oc', vS bD'4 0 nD' nD', vS bI'4 0 nI' nI', vS bE'4 0 nE' nE'] := Row.congr r19 rfl
  refine WL.end ?_
  refine NE.code ?_
  refine CE.seq ?_
  refine CE.region ?_
  refine WL.det (op_loadA (i := 0) (cs := [vF ra, vF ba, vF oc, vS bD'3 0 nD nD, vS bI'3 0 nI nI, vS bE'3 0 nE nE]) rfl Try.isAgg55 Try.sizeOf55 (((r14.ext m13).ext m14).mod m15 (nC (lE (lL (lL r12.lt (lT m12.size m13.size)) lR)) nN)).rng rfl rfl rfl) rfl rfl rfl ?_
  refine WL.det (op_loadA (i := 0) (cs := [vF ra', vF ba', vF oc', vS bD'4 0 nD' nD', vS bI'4 0 nI' nI', vS bE'4 0 nE' nE']) rfl Try.isAgg55 Try.sizeOf55 r20.rng rfl rfl rfl) rfl rfl rfl ?_
  refine WL.call (oc_call (vs := [.agg #[vF ra, vF ba, vF oc, vS bD'3 0 nD nD, vS bI'3 0 nI nI, vS bE'3 0 nE nE], .agg #[vF ra', vF ba', vF oc', vS bD'4 0 nD' nD', vS bI'4 0 nI' nI', vS bE'4 0 nE' nE']]) (cap := []) rfl rfl rfl Try.call13 (c_iSameScore ra ba oc nD nD (some ⟨bD'3, 0, none⟩) bD'3 0 esD nI nI (some ⟨bI'3, 0, none⟩) bI'3 0 esI nE nE (some ⟨bE'3, 0, none⟩) bE'3 0 esE ra' ba' oc' nD' nD' (some ⟨bD'4, 0, none⟩) bD'4 0 esD' nI' nI' (some ⟨bI'4, 0, none⟩) bI'4 0 esI' nE' nE' (some ⟨bE'4, 0, none⟩) bE'4 0 esE' lnD (fun _ => rfl) (by omega) lnI (fun _ => rfl) (by omega) lnE (fun _ => rfl) (by omega) lnD' (fun _ => rfl) (by omega) lnI' (fun _ => rfl) (by omega) lnE' (fun _ => rfl) (by omega) w16 (((((r9.ext m11).mod m12 (nC (lE (lL r9.lt lR)) nN)).ext m13).ext m14).mod m15 (nC (lE (lL (lL r9.lt (lT (lT m11.size m12.size) m13.size)) lR)) nN)).rng (((((r10.ext m11).mod m12 (nC (lE (lL r10.lt lR)) nN)).ext m13).ext m14).mod m15 (nC (lE (lL (lL r10.lt (lT (lT m11.size m12.size) m13.size)) lR)) nN)).rng (((((r11.ext m11).mod m12 (nC (lE (lL r11.lt lR)) nN)).ext m13).ext m14).mod m15 (nC (lE (lL (lL r11.lt (lT (lT m11.size m12.size) m13.size)) lR)) nN)).rng ((r15.ext m14).mod m15 (nC (lE (lL r15.lt lR)) nN)).rng ((r16.ext m14).mod m15 (nC (lE (lL r16.lt lR)) nN)).rng ((r17.ext m14).mod m15 (nC (lE (lL r17.lt lR)) nN)).rng)) rfl rfl (ltb rfl) ?_
  rintro _ w17 ⟨rfl, m16⟩
  refine WL.det (op_assign rfl) rfl rfl rfl ?_
  refine WL.end ?_
  refine NE.code ?_
  refine CE.seq ?_
  refine CE.seq ?_
  refine CE.region ?_
  refine WL.det (op_move rfl) rfl rfl rfl ?_
  refine WL.det (op_move rfl) rfl rfl rfl ?_
  refine WL.det (op_neb_same rfl rfl Try.underlying4) rfl rfl rfl ?_
  refine WL.end ?_
  refine NE.code ?_
  refine CE.cond_f rfl rfl ?_
  refine CE.skip' ?_
  refine NE.code ?_
  refine CE.seq ?_
  refine CE.seq ?_
  refine CE.draw (fun | 2 => some (fun _ wA uA wB => ∃ (bD' : Nat) (bI' : Nat) (bE' : Nat), uA = .agg #[vF ra, vF ba, vF oc, vS bD' 0 nD nD, vS bI' 0 nI nI, vS bE' 0 nE nE] ∧ Row wB bD' 0 (fl esD) ∧ Row wB bI' 0 (cat InR.cells esI) ∧ Row wB bE' 0 (cat EvR.cells esE) ∧ wA.heap.size ≤ bD' ∧ wA.heap.size ≤ bI' ∧ wA.heap.size ≤ bE' ∧ bD' ≠ bI' ∧ bD' ≠ bE' ∧ bI' ≠ bE' ∧ Mod [] wA wB) | _ => none) [0, 1, 2] [3, 4] [] (by kernel_rfl) (by kernel_rfl) ?_
  have md2 : Mod [] w17 w17.drew := (Mod.refl _ _).drew
  generalize w17.drew = w18 at md2 ⊢
  refine DR.det (i := 0) rfl rfl (by kernel_rfl) (.free rfl) rfl rfl (fun wD mD => op_loadA (i := 0) (cs := [vF ra, vF ba, vF oc, vS bD'3 0 nD nD, vS bI'3 0 nI nI, vS bE'3 0 nE nE]) rfl Try.isAgg55 Try.sizeOf55 ((((((r14.ext m13).ext m14).mod m15 (nC (lE (lL (lL r12.lt (lT m12.size m13.size)) lR)) nN)).ext m16).ext md2).ext mD).rng rfl rfl rfl) ?_
  refine DR.det (i := 1) rfl rfl (by kernel_rfl) (.free rfl) rfl rfl (fun wD mD => op_loadA (i := 0) (cs := [vF ra, vF ba, vF oc, .slice AD nD cD, .slice AI nI cI, .slice AE nE cE]) rfl Try.isAgg48 Try.sizeOf48 ((((((((((((((((((r1.ext m2).ext m3).ext m4).ext md1).ext m5).ext m6).ext m7).ext m8).ext m9).ext m10).ext m11).mod m12 (nC (lE (lL (lL r1.lt (lT (lT (lT (lT (lT (lT (lT (lT (lT m2.size m3.size) m4.size) md1.size) m5.size) m6.size) m7.size) m8.size) m9.size) m10.size)) lR)) nN)).ext m13).ext m14).mod m15 (nC (lE (lL (lL r1.lt (lT (lT (lT (lT (lT (lT (lT (lT (lT (lT (lT (lT m2.size m3.size) m4.size) md1.size) m5.size) m6.size) m7.size) m8.size) m9.size) m10.size) m11.size) m12.size) m13.size)) lR)) nN)).ext m16).ext md2).ext mD).rng rfl rfl rfl) ?_
  refine DR.one (i := 2) rfl rfl (by kernel_rfl) (.free rfl) rfl (ltb rfl) (vs := [.func (.func 12) #[] #[], .agg #[vF ra, vF ba, vF oc, .slice AD nD cD, .slice AI nI cI, .slice AE nE cE]]) rfl ?_
  intro w19 m17
  refine ⟨oc_call (vs := [.agg #[vF ra, vF ba, vF oc, .slice AD nD cD, .slice AI nI cI, .slice AE nE cE]]) (cap := []) rfl rfl rfl Try.call12 (c_toScore ra ba oc nD cD AD bD oD esD nI cI AI bI oI esI nE cE AE bE oE esE lnD hAD (by omega) lnI hAI (by omega) lnE hAE (by omega) w19 ((((Rng.youngS rD (((Rng.youngS rD ((((((((((((rD.ext m1).ext m2).ext m3).ext m4).ext md1).ext m5).ext m6).ext m7).ext m8).ext m9).ext m10).ext m11) m12 (allge_cons (lT (lT (lT (lT (lT (lT (lT (lT (lT (lT (lT m1.size m2.size) m3.size) m4.size) md1.size) m5.size) m6.size) m7.size) m8.size) m9.size) m10.size) lR) allge_nil)).ext m13).ext m14) m15 (allge_cons (lT (lT (lT (lT (lT (lT (lT (lT (lT (lT (lT (lT (lT (lT m1.size m2.size) m3.size) m4.size) md1.size) m5.size) m6.size) m7.size) m8.size) m9.size) m10.size) m11.size) m12.size) m13.size) lR) allge_nil)).ext m16).ext md2).ext m17) ((((Rng.youngS rI (((Rng.youngS rI ((((((((((((rI.ext m1).ext m2).ext m3).ext m4).ext md1).ext m5).ext m6).ext m7).ext m8).ext m9).ext m10).ext m11) m12 (allge_cons (lT (lT (lT (lT (lT (lT (lT (lT (lT (lT (lT m1.size m2.size) m3.size) m4.size) md1.size) m5.size) m6.size) m7.size) m8.size) m9.size) m10.size) lR) allge_nil)).ext m13).ext m14) m15 (allge_cons (lT (lT (lT (lT (lT (lT (lT (lT (lT (lT (lT (lT (lT (lT m1.size m2.size) m3.size) m4.size) md1.size) m5.size) m6.size) m7.size) m8.size) m9.size) m10.size) m11.size) m12.size) m13.size) lR) allge_nil)).ext m16).ext md2).ext m17) ((((Rng.youngS rE (((Rng.youngS rE ((((((((((((rE.ext m1).ext m2).ext m3).ext m4).ext md1).ext m5).ext m6).ext m7).ext m8).ext m9).ext m10).ext m11) m12 (allge_cons (lT (lT (lT (lT (lT (lT (lT (lT (lT (lT (lT m1.size m2.size) m3.size) m4.size) md1.size) m5.size) m6.size) m7.size) m8.size) m9.size) m10.size) lR) allge_nil)).ext m13).ext m14) m15 (allge_cons (lT (lT (lT (lT (lT (lT (lT (lT (lT (lT (lT (lT (lT (lT m1.size m2.size) m3.size) m4.size) md1.size) m5.size) m6.size) m7.size) m8.size) m9.size) m10.size) m11.size) m12.size) m13.size) lR) allge_nil)).ext m16).ext md2).ext m17)), ?_⟩
  rintro _ w20 ⟨bD'5, bI'5, bE'5, rfl, r21, r22, r23, ge13, ge14, ge15, ne13, ne14, ne15, m18⟩
  refine ⟨(((Mod.refl [] w18).nt m17).nt m18), ?_⟩
  refine DR.done rfl ?_
  intro w21 m19
  refine WO.call rfl (.free rfl) rfl (ltb rfl) (oc_call (vs := [.agg #[vF ra, vF ba, vF oc, vS bD'3 0 nD nD, vS bI'3 0 nI nI, vS bE'3 0 nE nE], .agg #[vF ra, vF ba, vF oc, vS bD'5 0 nD nD, vS bI'5 0 nI nI, vS bE'5 0 nE nE]]) (cap := []) rfl rfl rfl Try.call14 (c_eqScore ra ba oc nD nD (some ⟨bD'3, 0, none⟩) bD'3 0 esD nI nI (some ⟨bI'3, 0, none⟩) bI'3 0 esI nE nE (some ⟨bE'3, 0, none⟩) bE'3 0 esE nD (some ⟨bD'5, 0, none⟩) bD'5 0 nI (some ⟨bI'5, 0, none⟩) bI'5 0 nE (some ⟨bE'5, 0, none⟩) bE'5 0 lnD (fun _ => rfl) lnI (fun _ => rfl) lnE (fun _ => rfl) (by omega) (by omega) (by omega) (fun _ => rfl) (fun _ => rfl) (fun _ => rfl) w21 ((((((((((r9.ext m11).mod m12 (nC (lE (lL r9.lt lR)) nN)).ext m13).ext m14).mod m15 (nC (lE (lL (lL r9.lt (lT (lT m11.size m12.size) m13.size)) lR)) nN)).ext m16).ext md2).ext m17).ext m18).ext m19).rng ((((((((((r10.ext m11).mod m12 (nC (lE (lL r10.lt lR)) nN)).ext m13).ext m14).mod m15 (nC (lE (lL (lL r10.lt (lT (lT m11.size m12.size) m13.size)) lR)) nN)).ext m16).ext md2).ext m17).ext m18).ext m19).rng ((((((((((r11.ext m11).mod m12 (nC (lE (lL r11.lt lR)) nN)).ext m13).ext m14).mod m15 (nC (lE (lL (lL r11.lt (lT (lT m11.size m12.size) m13.size)) lR)) nN)).ext m16).ext md2).ext m17).ext m18).ext m19).rng (r21.ext m19).rng (r22.ext m19).rng (r23.ext m19).rng)) ?_
  rintro _ w22 ⟨rfl, m20⟩
  refine WO.det (op_not rfl) rfl (.free rfl) rfl rfl ?_
  refine WO.end ?_
  refine NE.code ?_
  refine CE.cond_f rfl rfl ?_
  refine CE.skip' ?_
  refine NE.code ?_
  refine CE.seq ?_
  refine CE.seq ?_
  refine CE.draw (fun | 2 => some (fun _ wA uA wB => ∃ (bD' : Nat) (bI' : Nat) (bE' : Nat), uA = .agg #[vF ra', vF ba', vF oc', vS bD' 0 nD' nD', vS bI' 0 nI' nI', vS bE' 0 nE' nE'] ∧ Row wB bD' 0 (fl esD') ∧ Row wB bI' 0 (cat InR.cells esI') ∧ Row wB bE' 0 (cat EvR.cells esE') ∧ wA.heap.size ≤ bD' ∧ wA.heap.size ≤ bI' ∧ wA.heap.size ≤ bE' ∧ bD' ≠ bI' ∧ bD' ≠ bE' ∧ bI' ≠ bE' ∧ Mod [] wA wB) | _ => none) [0, 1, 2] [3, 4] [] (by kernel_rfl) (by kernel_rfl) ?_
  have md3 : Mod [] w22 w22.drew := (Mod.refl _ _).drew
  generalize w22.drew = w23 at md3 ⊢
  refine DR.det (i := 0) rfl rfl (by kernel_rfl) (.free rfl) rfl rfl (fun wD mD => op_loadA (i := 0) (cs := [vF ra', vF ba', vF oc', vS bD'4 0 nD' nD', vS bI'4 0 nI' nI', vS bE'4 0 nE' nE']) rfl Try.isAgg55 Try.sizeOf55 ((((((((r20.ext m16).ext md2).ext m17).ext m18).ext m19).ext m20).ext md3).ext mD).rng rfl rfl rfl) ?_
  refine DR.det (i := 1) rfl rfl (by kernel_rfl) (.free rfl) rfl rfl (fun wD mD => op_loadA (i := 0) (cs := [vF ra', vF ba', vF oc', .slice AD' nD' cD', .slice AI' nI' cI', .slice AE' nE' cE']) rfl Try.isAgg48 Try.sizeOf48 ((((((((((((((((((((((r2.ext m3).ext m4).ext md1).ext m5).ext m6).ext m7).ext m8).ext m9).ext m10).ext m11).mod m12 (nC (lE (lL (lL r2.lt (lT (lT (lT (lT (lT (lT (lT (lT m3.size m4.size) md1.size) m5.size) m6.size) m7.size) m8.size) m9.size) m10.size)) lR)) nN)).ext m13).ext m14).mod m15 (nC (lE (lL (lL r2.lt (lT (lT (lT (lT (lT (lT (lT (lT (lT (lT (lT m3.size m4.size) md1.size) m5.size) m6.size) m7.size) m8.size) m9.size) m10.size) m11.size) m12.size) m13.size)) lR)) nN)).ext m16).ext md2).ext m17).ext m18).ext m19).ext m20).ext md3).ext mD).rng rfl rfl rfl) ?_
  refine DR.one (i := 2) rfl rfl (by kernel_rfl) (.free rfl) rfl (ltb rfl) (vs := [.func (.func 12) #[] #[], .agg #[vF ra', vF ba', vF oc', .slice AD' nD' cD', .slice AI' nI' cI', .slice AE' nE' cE']]) rfl ?_
  intro w24 m21
  refine ⟨oc_call (vs := [.agg #[vF ra', vF ba', vF oc', .slice AD' nD' cD', .slice AI' nI' cI', .slice AE' nE' cE']]) (cap := []) rfl rfl rfl Try.call12 (c_toScore ra' ba' oc' nD' cD' AD' bD' oD' esD' nI' cI' AI' bI' oI' esI' nE' cE' AE' bE' oE' esE' lnD' hAD' (by omega) lnI' hAI' (by omega) lnE' hAE' (by omega) w24 (((((((((Rng.youngS rD' (((Rng.youngS rD' ((((((((((((rD'.ext m1).ext m2).ext m3).ext m4).ext md1).ext m5).ext m6).ext m7).ext m8).ext m9).ext m10).ext m11) m12 (allge_cons (lT (lT (lT (lT (lT (lT (lT (lT (lT (lT (lT m1.size m2.size) m3.size) m4.size) md1.size) m5.size) m6.size) m7.size) m8.size) m9.size) m10.size) lR) allge_nil)).ext m13).ext m14) m15 (allge_cons (lT (lT (lT (lT (lT (lT (lT (lT (lT (lT (lT (lT (lT (lT m1.size m2.size) m3.size) m4.size) md1.size) m5.size) m6.size) m7.size) m8.size) m9.size) m10.size) m11.size) m12.size) m13.size) lR) allge_nil)).ext m16).ext md2).ext m17).ext m18).ext m19).ext m20).ext md3).ext m21) (((((((((Rng.youngS rI' (((Rng.youngS rI' ((((((((((((rI'.ext m1).ext m2).ext m3).ext m4).ext md1).ext m5).ext m6).ext m7).ext m8).ext m9).ext m10).ext m11) m12 (allge_cons (lT (lT (lT (lT (lT (lT (lT (lT (lT (lT (lT m1.size m2.size) m3.size) m4.size) md1.size) m5.size) m6.size) m7.size) m8.size) m9.size) m10.size) lR) allge_nil)).ext m13).ext m14) m15 (allge_cons (lT (lT (lT (lT (lT (lT (lT (lT (lT (lT (lT (lT (lT (lT m1.size m2.size) m3.size) m4.size) md1.size) m5.size) m6.size) m7.size) m8.size) m9.size) m10.size) m11.size) m12.size) m13.size) lR) allge_nil)).ext m16).ext md2).ext m17).ext m18).ext m19).ext m20).ext md3).ext m21) (((((((((Rng.youngS rE' (((Rng.youngS rE' ((((((((((((rE'.ext m1).ext m2).ext m3).ext m4).ext md1).ext m5).ext m6).ext m7).ext m8).ext m9).ext m10).ext m11) m12 (allge_cons (lT (lT (lT (lT (lT (lT (lT (lT (lT (lT (lT m1.size m2.size) m3.size) m4.size) md1.size) m5.size) m6.size) m7.size) m8.size) m9.size) m10.size) lR) allge_nil)).ext m13).ext m14) m15 (allge_cons (lT (lT (lT (lT (lT (lT (lT (lT (lT (lT (lT (lT (lT (lT m1.size m2.size) m3.size) m4.size) md1.size) m5.size) m6.size) m7.size) m8.size) m9.size) m10.size) m11.size) m12.size) m13.size) lR) allge_nil)).ext m16).ext md2).ext m17).ext m18).ext m19).ext m20).ext md3).ext m21)), ?_⟩
  rintro _ w25 ⟨bD'6, bI'6, bE'6, rfl, r24, r25, r26, ge16, ge17, ge18, ne16, ne17, ne18, m22⟩
  refine ⟨(((Mod.refl [] w23).nt m21).nt m22), ?_⟩
  refine DR.done rfl ?_
  intro w26 m23
  refine WO.call rfl (.free rfl) rfl (ltb rfl) (oc_call (vs := [.agg #[vF ra', vF ba', vF oc', vS bD'4 0 nD' nD', vS bI'4 0 nI' nI', vS bE'4 0 nE' nE'], .agg #[vF ra', vF ba', vF oc', vS bD'6 0 nD' nD', vS bI'6 0 nI' nI', vS bE'6 0 nE' nE']]) (cap := []) rfl rfl rfl Try.call14 (c_eqScore ra' ba' oc' nD' nD' (some ⟨bD'4, 0, none⟩) bD'4 0 esD' nI' nI' (some ⟨bI'4, 0, none⟩) bI'4 0 esI' nE' nE' (some ⟨bE'4, 0, none⟩) bE'4 0 esE' nD' (some ⟨bD'6, 0, none⟩) bD'6 0 nI' (some ⟨bI'6, 0, none⟩) bI'6 0 nE' (some ⟨bE'6, 0, none⟩) bE'6 0 lnD' (fun _ => rfl) lnI' (fun _ => rfl) lnE' (fun _ => rfl) (by omega) (by omega) (by omega) (fun _ => rfl) (fun _ => rfl) (fun _ => rfl) w26 ((((((((((((r15.ext m14).mod m15 (nC (lE (lL r15.lt lR)) nN)).ext m16).ext md2).ext m17).ext m18).ext m19).ext m20).ext md3).ext m21).ext m22).ext m23).rng ((((((((((((r16.ext m14).mod m15 (nC (lE (lL r16.lt lR)) nN)).ext m16).ext md2).ext m17).ext m18).ext m19).ext m20).ext md3).ext m21).ext m22).ext m23).rng ((((((((((((r17.ext m14).mod m15 (nC (lE (lL r17.lt lR)) nN)).ext m16).ext md2).ext m17).ext m18).ext m19).ext m20).ext md3).ext m21).ext m22).ext m23).rng (r24.ext m23).rng (r25.ext m23).rng (r26.ext m23).rng)) ?_
  rintro _ w27 ⟨rfl, m24⟩
  refine WO.det (op_not rfl) rfl (.free rfl) rfl rfl ?_
  refine WO.end ?_
  refine NE.code ?_
  refine CE.cond_f rfl rfl ?_
  refine CE.skip' ?_
  refine NE.code ?_
  refine CE.seq ?_
  refine CE.region ?_
  refine WL.det (op_assign rfl) rfl rfl rfl ?_
  refine WL.end ?_
  refine NE.code ?_
  refine CE.ret' ?_
  refine XE.leave1 Try.results4 rfl ?_
  refine ⟨rfl, ((((((((((((((((((((((((((((Mod.refl [] w).nt m1).nt m2).nt m3).nt m4).nt md1).nt m5).nt m6).nt m7).nt m8).nt m9).nt m10).nt m11).then m12 ((aC (.inr (lT (lT (lT (lT (lT (lT (lT (lT (lT (lT (lT m1.size m2.size) m3.size) m4.size) md1.size) m5.size) m6.size) m7.size) m8.size) m9.size) m10.size) lR)) aN))).nt m13).nt m14).then m15 ((aC (.inr (lT (lT (lT (lT (lT (lT (lT (lT (lT (lT (lT (lT (lT (lT m1.size m2.size) m3.size) m4.size) md1.size) m5.size) m6.size) m7.size) m8.size) m9.size) m10.size) m11.size) m12.size) m13.size) lR)) aN))).nt m16).nt md2).nt m17).nt m18).nt m19).nt m20).nt md3).nt m21).nt m22).nt m23).nt m24)⟩

set_option maxRecDepth 100000 in
set_option maxHeartbeats 2000000 in
theorem law_samescore_o1 (ra : Nat) (ba : Nat) (oc : Nat) (nD : Nat) (cD : Nat) (AD : Option Addr) (bD : Nat) (oD : Nat) (esD : List Nat) (nI : Nat) (cI : Nat) (AI : Option Addr) (bI : Nat) (oI : Nat) (esI : List InR) (nE : Nat) (cE : Nat) (AE : Option Addr) (bE : Nat) (oE : Nat) (esE : List EvR) (ra' : Nat) (ba' : Nat) (oc' : Nat) (nD' : Nat) (cD' : Nat) (AD' : Option Addr) (bD' : Nat) (oD' : Nat) (esD' : List Nat) (nI' : Nat) (cI' : Nat) (AI' : Option Addr) (bI' : Nat) (oI' : Nat) (esI' : List InR) (nE' : Nat) (cE' : Nat) (AE' : Option Addr) (bE' : Nat) (oE' : Nat) (esE' : List EvR) (lnD : esD.length = nD) (hAD : 0 < nD → AD = some ⟨bD, oD, none⟩) (lnI : esI.length = nI) (hAI : 0 < nI → AI = some ⟨bI, oI, none⟩) (lnE : esE.length = nE) (hAE : 0 < nE → AE = some ⟨bE, oE, none⟩) (hnD : nD ≤ 9223372036854775807) (hnI : nI ≤ 9223372036854775807) (hnE : nE ≤ 9223372036854775807) (lnD' : esD'.length = nD') (hAD' : 0 < nD' → AD' = some ⟨bD', oD', none⟩) (lnI' : esI'.length = nI') (hAI' : 0 < nI' → AI' = some ⟨bI', oI', none⟩) (lnE' : esE'.length = nE') (hAE' : 0 < nE' → AE' = some ⟨bE', oE', none⟩) (hnD' : nD' ≤ 9223372036854775807) (hnI' : nI' ≤ 9223372036854775807) (hnE' : nE' ≤ 9223372036854775807) (hS : ∀ i, (esI.getD i InR.d).name.size ≤ 9223372036854775807) (hS' : ∀ i, (esI'.getD i InR.d).name.size ≤ 9223372036854775807) (hl : 1048576 < (nD + nI + nmSum esI nI + nE)) (w : World) (rD : Rng w bD oD (fl esD)) (rI : Rng w bI oI (cat InR.cells esI)) (rE : Rng w bE oE (cat EvR.cells esE)) (rD' : Rng w bD' oD' (fl esD')) (rI' : Rng w bI' oI' (cat InR.cells esI')) (rE' : Rng w bE' oE' (cat EvR.cells esE')) : Cl Try.prog 4 #[.agg #[vF ra, vF ba, vF oc, .slice AD nD cD, .slice AI nI cI, .slice AE nE cE], .agg #[vF ra', vF ba', vF oc', .slice AD' nD' cD', .slice AI' nI' cI', .slice AE' nE' cE']] w fun v w' => v = .bool true ∧ Mod [] w w' := by
  refine Cl.of Try.func4 Try.ntmps4 rfl rfl (ρ := [(0, .agg #[vF ra, vF ba, vF oc, .slice AD nD cD, .slice AI nI cI, .slice AE nE cE]), (1, .agg #[vF ra', vF ba', vF oc', .slice AD' nD' cD', .slice AI' nI' cI', .slice AE' nE' cE'])]) rfl ?_
  refine CE.seq ?_
  refine CE.region ?_
  refine WL.op (op_box (cs := [vF ra, vF ba, vF oc, .slice AD nD cD, .slice AI nI cI, .slice AE nE cE]) rfl rfl) rfl rfl (ltb rfl) ?_
  rintro _ w1 ⟨rfl, r1, m1, z1⟩
  refine WL.op (op_box (cs := [vF ra', vF ba', vF oc', .slice AD' nD' cD', .slice AI' nI' cI', .slice AE' nE' cE']) rfl rfl) rfl rfl (ltb rfl) ?_
  rintro _ w2 ⟨rfl, r2, m2, z2⟩
  refine WL.det (op_assign rfl) rfl rfl rfl ?_
  refine WL.end ?_
  refine NE.code ?_
  refine CE.seq ?_
  refine CE.region ?_
  refine WL.det (op_assign rfl) rfl rfl rfl ?_
  refine WL.end ?_
  refine NE.code ?_
  refine CE.seq ?_
  refine CE.region ?_
  refine WL.det (op_loadA (i := 0) (cs := [vF ra, vF ba, vF oc, .slice AD nD cD, .slice AI nI cI, .slice AE nE cE]) rfl Try.isAgg48 Try.sizeOf48 (r1.ext m2).rng rfl rfl rfl) rfl rfl rfl ?_
  refine WL.det (op_move rfl) rfl rfl rfl ?_
  refine WL.call (oc_call (vs := [.agg #[vF ra, vF ba, vF oc, .slice AD nD cD, .slice AI nI cI, .slice AE nE cE], vI 1048576]) (cap := []) rfl rfl rfl Try.call10 (c_szScore_over ra ba oc nD cD AD bD oD esD nI cI AI bI oI esI nE cE AE bE oE esE 1048576 lnD hAD lnI hAI lnE hAE (by omega) (by omega) (by omega) (by first | assumption | exact hS) (by omega) (by omega) w2 ((rD.ext m1).ext m2) ((rI.ext m1).ext m2) ((rE.ext m1).ext m2))) rfl rfl (ltb rfl) ?_
  rintro _ w3 ⟨rfl, m3⟩
  refine WL.det (op_assign rfl) rfl rfl rfl ?_
  refine WL.end ?_
  refine NE.code ?_
  refine CE.seq ?_
  refine CE.seq ?_
  refine CE.region ?_
  refine WL.det (op_move rfl) rfl rfl rfl ?_
  refine WL.det (op_lti rfl rfl) rfl rfl rfl ?_
  refine WL.end ?_
  refine NE.code ?_
  refine CE.cond_t rfl rfl ?_
  refine CE.seq ?_
  refine CE.region ?_
  refine WL.det (op_assign rfl) rfl rfl rfl ?_
  refine WL.end ?_
  refine NE.code ?_
  refine CE.ret' ?_
  refine XE.ret_then ?_
  refine XE.leave1 Try.results4 rfl ?_
  refine ⟨rfl, ((((Mod.refl [] w).nt m1).nt m2).nt m3)⟩

set_option maxRecDepth 100000 in
set_option maxHeartbeats 2000000 in
theorem law_samescore_o2 (ra : Nat) (ba : Nat) (oc : Nat) (nD : Nat) (cD : Nat) (AD : Option Addr) (bD : Nat) (oD : Nat) (esD : List Nat) (nI : Nat) (cI : Nat) (AI : Option Addr) (bI : Nat) (oI : Nat) (esI : List InR) (nE : Nat) (cE : Nat) (AE : Option Addr) (bE : Nat) (oE : Nat) (esE : List EvR) (ra' : Nat) (ba' : Nat) (oc' : Nat) (nD' : Nat) (cD' : Nat) (AD' : Option Addr) (bD' : Nat) (oD' : Nat) (esD' : List Nat) (nI' : Nat) (cI' : Nat) (AI' : Option Addr) (bI' : Nat) (oI' : Nat) (esI' : List InR) (nE' : Nat) (cE' : Nat) (AE' : Option Addr) (bE' : Nat) (oE' : Nat) (esE' : List EvR) (lnD : esD.length = nD) (hAD : 0 < nD → AD = some ⟨bD, oD, none⟩) (lnI : esI.length = nI) (hAI : 0 < nI → AI = some ⟨bI, oI, none⟩) (lnE : esE.length = nE) (hAE : 0 < nE → AE = some ⟨bE, oE, none⟩) (hnD : nD ≤ 1048576) (hnI : nI ≤ 1048576) (hnE : nE ≤ 1048576) (lnD' : esD'.length = nD') (hAD' : 0 < nD' → AD' = some ⟨bD', oD', none⟩) (lnI' : esI'.length = nI') (hAI' : 0 < nI' → AI' = some ⟨bI', oI', none⟩) (lnE' : esE'.length = nE') (hAE' : 0 < nE' → AE' = some ⟨bE', oE', none⟩) (hnD' : nD' ≤ 9223372036854775807) (hnI' : nI' ≤ 9223372036854775807) (hnE' : nE' ≤ 9223372036854775807) (hS : ∀ i, (esI.getD i InR.d).name.size ≤ 9223372036854775807) (hS' : ∀ i, (esI'.getD i InR.d).name.size ≤ 9223372036854775807) (hl : (nD + nI + nmSum esI nI + nE) ≤ 1048576) (hl2 : 1048576 < (nD + nI + nmSum esI nI + nE) + (nD' + nI' + nmSum esI' nI' + nE')) (w : World) (rD : Rng w bD oD (fl esD)) (rI : Rng w bI oI (cat InR.cells esI)) (rE : Rng w bE oE (cat EvR.cells esE)) (rD' : Rng w bD' oD' (fl esD')) (rI' : Rng w bI' oI' (cat InR.cells esI')) (rE' : Rng w bE' oE' (cat EvR.cells esE')) : Cl Try.prog 4 #[.agg #[vF ra, vF ba, vF oc, .slice AD nD cD, .slice AI nI cI, .slice AE nE cE], .agg #[vF ra', vF ba', vF oc', .slice AD' nD' cD', .slice AI' nI' cI', .slice AE' nE' cE']] w fun v w' => v = .bool true ∧ Mod [] w w' := by
  refine Cl.of Try.func4 Try.ntmps4 rfl rfl (ρ := [(0, .agg #[vF ra, vF ba, vF oc, .slice AD nD cD, .slice AI nI cI, .slice AE nE cE]), (1, .agg #[vF ra', vF ba', vF oc', .slice AD' nD' cD', .slice AI' nI' cI', .slice AE' nE' cE'])]) rfl ?_
  refine CE.seq ?_
  refine CE.region ?_
  refine WL.op (op_box (cs := [vF ra, vF ba, vF oc, .slice AD nD cD, .slice AI nI cI, .slice AE nE cE]) rfl rfl) rfl rfl (ltb rfl) ?_
  rintro _ w1 ⟨rfl, r1, m1, z1⟩
  refine WL.op (op_box (cs := [vF ra', vF ba', vF oc', .slice AD' nD' cD', .slice AI' nI' cI', .slice AE' nE' cE']) rfl rfl) rfl rfl (ltb rfl) ?_
  rintro _ w2 ⟨rfl, r2, m2, z2⟩
  refine WL.det (op_assign rfl) rfl rfl rfl ?_
  refine WL.end ?_
  refine NE.code ?_
  refine CE.seq ?_
  refine CE.region ?_
  refine WL.det (op_assign rfl) rfl rfl rfl ?_
  refine WL.end ?_
  refine NE.code ?_
  refine CE.seq ?_
  refine CE.region ?_
  refine WL.det (op_loadA (i := 0) (cs := [vF ra, vF ba, vF oc, .slice AD nD cD, .slice AI nI cI, .slice AE nE cE]) rfl Try.isAgg48 Try.sizeOf48 (r1.ext m2).rng rfl rfl rfl) rfl rfl rfl ?_
  refine WL.det (op_move rfl) rfl rfl rfl ?_
  refine WL.call (oc_call (vs := [.agg #[vF ra, vF ba, vF oc, .slice AD nD cD, .slice AI nI cI, .slice AE nE cE], vI 1048576]) (cap := []) rfl rfl rfl Try.call10 (c_szScore ra ba oc nD cD AD bD oD esD nI cI AI bI oI esI nE cE AE bE oE esE 1048576 lnD hAD lnI hAI lnE hAE (by omega) (by omega) (by omega) (by first | assumption | exact hS) (by omega) (by omega) w2 ((rD.ext m1).ext m2) ((rI.ext m1).ext m2) ((rE.ext m1).ext m2))) rfl rfl (ltb rfl) ?_
  rintro _ w3 ⟨rfl, m3⟩
  refine WL.det (op_assign rfl) rfl rfl rfl ?_
  refine WL.end ?_
  refine NE.code ?_
  refine CE.seq ?_
  refine CE.seq ?_
  refine CE.region ?_
  refine WL.det (op_move rfl) rfl rfl rfl ?_
  refine WL.det (op_lti_f rfl rfl (by omega)) rfl rfl rfl ?_
  refine WL.end ?_
  refine NE.code ?_
  refine CE.cond_f rfl rfl ?_
  refine CE.skip' ?_
  refine NE.code ?_
  refine CE.seq ?_
  refine CE.region ?_
  refine WL.det (op_loadA (i := 0) (cs := [vF ra', vF ba', vF oc', .slice AD' nD' cD', .slice AI' nI' cI', .slice AE' nE' cE']) rfl Try.isAgg48 Try.sizeOf48 (r2.ext m3).rng rfl rfl rfl) rfl rfl rfl ?_
  refine WL.det (op_move rfl) rfl rfl rfl ?_
  refine WL.call (oc_call (vs := [.agg #[vF ra', vF ba', vF oc', .slice AD' nD' cD', .slice AI' nI' cI', .slice AE' nE' cE'], vI ((1048576 - (nD + nI + nmSum esI nI + nE) : Nat) : Int)]) (cap := []) rfl rfl rfl Try.call10 (c_szScore_over ra' ba' oc' nD' cD' AD' bD' oD' esD' nI' cI' AI' bI' oI' esI' nE' cE' AE' bE' oE' esE' (1048576 - (nD + nI + nmSum esI nI + nE)) lnD' hAD' lnI' hAI' lnE' hAE' (by omega) (by omega) (by omega) (by first | assumption | exact hS) (by omega) (by omega) w3 (((rD'.ext m1).ext m2).ext m3) (((rI'.ext m1).ext m2).ext m3) (((rE'.ext m1).ext m2).ext m3))) rfl rfl (ltb rfl) ?_
  rintro _ w4 ⟨rfl, m4⟩
  refine WL.det (op_assign rfl) rfl rfl rfl ?_
  refine WL.end ?_
  refine NE.code ?_
  refine CE.seq ?_
  refine CE.seq ?_
  refine CE.region ?_
  refine WL.det (op_move rfl) rfl rfl rfl ?_
  refine WL.det (op_lti rfl rfl) rfl rfl rfl ?_
  refine WL.end ?_
  refine NE.code ?_
  refine CE.cond_t rfl rfl ?_
  refine CE.seq ?_
  refine CE.region ?_
  refine WL.det (op_assign rfl) rfl rfl rfl ?_
  refine WL.end ?_
  refine NE.code ?_
  refine CE.ret' ?_
  refine XE.ret_then ?_
  refine XE.leave1 Try.results4 rfl ?_
  refine ⟨rfl, (((((Mod.refl [] w).nt m1).nt m2).nt m3).nt m4)⟩

end Go.Proofs.Ytdopidalhkcefaa
