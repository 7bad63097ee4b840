/- The law on the steps to silence, walked (good, good0). -/
import Derived.Test.YtnahhdnkbbdceaaT8
import Derived.Test.YtnahhdnkbbdceaaE8
import Derived.Test.YtnahhdnkbbdceaaE13
set_option linter.unusedVariables false
set_option linter.unusedSimpArgs false
set_option maxRecDepth 100000
set_option maxHeartbeats 8000000
namespace Go.Proofs.Ytnahhdnkbbdceaa

theorem law_sil (nR : Nat) (cR : Nat) (AR : Option Addr) (bR : Nat) (oR : Nat) (esR : List RiR) (nL : Nat) (cL : Nat) (AL : Option Addr) (bL : Nat) (oL : Nat) (esL : List RiR) (nS : Nat) (cS : Nat) (AS : Option Addr) (bS : Nat) (oS : Nat) (xS : List Nat) (k : Int) (kc0 : Nat) (kc1 : Nat) (kc2 : Nat) (ks0 : Nat) (ks1 : Nat) (op : Bool) (lo : Nat) (re : Nat) (sl : Nat) (most : Nat) (rv : Int × Int) (lnR : esR.length = nR) (hAR : 0 < nR → AR = some ⟨bR, oR, none⟩) (lnL : esL.length = nL) (hAL : 0 < nL → AL = some ⟨bL, oL, none⟩) (lnS : xS.length = nS) (hAS : 0 < nS → AS = some ⟨bS, oS, none⟩) (hT : nR + sumR esR nR + (nL + sumR esL nL) + nS ≤ 1048576) (mR : nR ≤ 1048576) (mL : nL ≤ 1048576) (mS : nS ≤ 1048576) (hzR : ∀ i, (esR.getD i RiR.d).n ≤ 1048576) (hzL : ∀ i, (esL.getD i RiR.d).n ≤ 1048576) (hs : 1 ≤ nR ∧ nR ≤ 3 ∧ nL = nR ∧ nS + 1 = nR) (r3 : nR ≤ 3) (l3 : nL ≤ 3) (h0n : 0 < nR) (h0m : 0 < nL) (hpR : ∀ i, i < nR → 0 < ((esR.map RiR.rd).getD i RD.d).xs.length) (hpL : ∀ i, i < nL → 0 < ((esL.map RiR.rd).getD i RD.d).xs.length) (h0s : 0 < nS) (hm : most ≤ 100000) (hv : vPipe nR nL nS (esR.map RiR.rd) (esL.map RiR.rd) xS k kc0 kc1 kc2 ks0 ks1 lo re sl = true) (gR : GoodD (esR.map RiR.rd) nR) (gL : GoodD (esL.map RiR.rd) nL) (lks0 : ks0 < wid .f32) (lks1 : ks1 < wid .f32) (erv : rv = silG (fun ii => pipeSil nR nL (pipeAt nR nS xS k kc0 kc1 kc2 op lo re sl (PipeSt.mk (esR.map RiR.rd) (esL.map RiR.rd) ks0 ks1) (fun _ => 0) ii)) (most + 1) 0) (w : World) (rR : Rng w bR oR (cat RiR.cells esR)) (rL : Rng w bL oL (cat RiR.cells esL)) (rS : Rng w bS oS (fl xS)) (hFesR : InF w esR) (hFesL : InF w esL) : Cl Try.prog 11 #[.agg #[.slice AR nR cR, .slice AL nL cL, .slice AS nS cS, vI k, vF kc0, vF kc1, vF kc2, vF ks0, vF ks1, .bool op, vF lo, vF re, vF sl], vI ((most : Nat) : Int)] w fun v w' => v = .bool true ∧ Mod [] w w' := by
 refine Cl.of Try.func11 Try.ntmps11 rfl rfl (ρ := [(0, .agg #[.slice AR nR cR, .slice AL nL cL, .slice AS nS cS, vI k, vF kc0, vF kc1, vF kc2, vF ks0, vF ks1, .bool op, vF lo, vF re, vF sl]), (1, vI ((most : Nat) : Int))]) rfl ?_
 refine CE.seq (CE.region ?_)
 refine WL.op (op_box (cs := [.slice AR nR cR, .slice AL nL cL, .slice AS nS cS, vI k, vF kc0, vF kc1, vF kc2, vF ks0, vF ks1, .bool op, vF lo, vF re, vF sl]) rfl rfl) rfl rfl (ltb rfl) ?_
 rintro _ w1 ⟨rfl, r1, m1, z1⟩
 refine WL.det (op_assign rfl) rfl rfl rfl ?_
 refine WL.end (NE.code (CE.seq (CE.region ?_)))
 refine WL.det (op_assign rfl) rfl rfl rfl ?_
 refine WL.end (NE.code (CE.seq (CE.region ?_)))
 refine WL.det (op_loadA (i := 0) (cs := [.slice AR nR cR, .slice AL nL cL, .slice AS nS cS, vI k, vF kc0, vF kc1, vF kc2, vF ks0, vF ks1, .bool op, vF lo, vF re, vF sl]) rfl Try.isAgg50 Try.sizeOf50 r1.rng rfl rfl rfl) rfl rfl rfl ?_
 refine WL.det (op_move rfl) rfl rfl rfl ?_
 refine WL.call (oc_call (vs := [.agg #[.slice AR nR cR, .slice AL nL cL, .slice AS nS cS, vI k, vF kc0, vF kc1, vF kc2, vF ks0, vF ks1, .bool op, vF lo, vF re, vF sl], vI 1048576]) (cap := []) rfl rfl rfl Try.call25 (c_szPipe 1048576 nR cR AR bR oR esR nL cL AL bL oL esL nS cS AS bS oS xS k kc0 kc1 kc2 ks0 ks1 op lo re sl lnR hAR lnL hAL lnS hAS (by omega) (by omega) w1 (rR.ext m1) (rL.ext m1) (rS.ext m1) (hFesR.ext m1) (hFesL.ext m1))) rfl rfl (ltb rfl) ?_
 rintro _ w2 ⟨rfl, m2⟩
 refine WL.det (op_assign rfl) rfl rfl rfl ?_
 refine WL.end (NE.code (CE.seq (CE.seq (CE.region ?_))))
 refine WL.det (op_move rfl) rfl rfl rfl ?_
 refine WL.det (op_lti_f rfl rfl (Int.not_lt.2 (Int.natCast_nonneg _))) rfl rfl rfl ?_
 refine WL.end (NE.code ?_)
 refine CE.cond_f rfl rfl ?_
 refine CE.skip' (NE.code (CE.seq (CE.region ?_)))
 refine WL.det (op_loadA (i := 0) (cs := [.slice AR nR cR, .slice AL nL cL, .slice AS nS cS, vI k, vF kc0, vF kc1, vF kc2, vF ks0, vF ks1, .bool op, vF lo, vF re, vF sl]) rfl Try.isAgg50 Try.sizeOf50 (r1.ext m2).rng rfl rfl rfl) rfl rfl rfl ?_
 refine WL.call (oc_call (vs := [.agg #[.slice AR nR cR, .slice AL nL cL, .slice AS nS cS, vI k, vF kc0, vF kc1, vF kc2, vF ks0, vF ks1, .bool op, vF lo, vF re, vF sl]]) (cap := []) rfl rfl rfl Try.call26 (c_toPipe nR cR AR bR oR esR nL cL AL bL oL esL nS cS AS bS oS xS k kc0 kc1 kc2 ks0 ks1 op lo re sl lnR hAR lnL hAL lnS hAS (by first | assumption | omega) (by first | assumption | omega) (by first | assumption | omega) (by assumption) (by assumption) w2 ((rR.ext m1).ext m2) ((rL.ext m1).ext m2) ((rS.ext m1).ext m2) ((hFesR.ext m1).ext m2) ((hFesL.ext m1).ext m2))) rfl rfl (ltb rfl) ?_
 rintro _ w3 ⟨bR'1, PR1, bL'1, PL1, bS'1, rfl, h1, h2, r2, r3, r4, ge1, ge2, ge3, ne1, ne2, ne3, fm1, fn1, fn2, fn3, fn4, fm2, fn5, fn6, fn7, m3⟩
 refine WL.det (op_move rfl) rfl rfl rfl ?_
 refine WL.call (oc_call (vs := [.agg #[vS bR'1 0 nR nR, vS bL'1 0 nL nL, vS bS'1 0 nS nS, vI k, vF kc0, vF kc1, vF kc2, vF ks0, vF ks1, .bool op, vF lo, vF re, vF sl], vI ((most : Nat) : Int)]) (cap := []) rfl rfl rfl Try.call20 (c_sSilP nR (esR.map RiR.rd) nL (esL.map RiR.rd) nS xS nR bR'1 PR1 w2.heap.size nL bL'1 PL1 w2.heap.size nS bS'1 k kc0 kc1 kc2 ks0 ks1 op lo re sl most rv (rd_len lnR) (rd_len lnL) lnS (by first | assumption | exact rd_small (by assumption) (by assumption) | exact markD_small (by first | assumption | exact rd_small (by assumption) (by assumption)) _) (by first | assumption | exact rd_small (by assumption) (by assumption) | exact markD_small (by first | assumption | exact rd_small (by assumption) (by assumption)) _) h1 h2 (by first | assumption | omega) (by first | assumption | omega) (by first | assumption | omega) (by first | assumption | omega) (by first | assumption | omega) (by assumption) (by assumption) (by first | assumption | omega) (by first | assumption | omega) (by assumption) (by assumption) (by first | assumption | exact W32.get (by assumption) _ | decide +kernel) (by first | assumption | exact W32.get (by assumption) _ | decide +kernel) (by omega) (by assumption) (by assumption) w3 r2.rng r3.rng r4.rng fm1 fm2)) rfl rfl (ltb rfl) ?_
 rintro _ w4 ⟨rfl, m4⟩
 refine WL.det (op_move rfl) rfl rfl rfl ?_
 iterate 2 refine WL.det (op_extract rfl rfl) rfl rfl rfl ?_
 iterate 2 refine WL.det (op_assign rfl) rfl rfl rfl ?_
 refine WL.end (NE.code (CE.seq (CE.region ?_)))
 have r5 := (((r1.ext m2).ext m3).ext m4)
 refine WL.det (op_loadA (i := 0) (cs := [.slice AR nR cR, .slice AL nL cL, .slice AS nS cS, vI k, vF kc0, vF kc1, vF kc2, vF ks0, vF ks1, .bool op, vF lo, vF re, vF sl]) rfl Try.isAgg50 Try.sizeOf50 r5.rng rfl rfl rfl) rfl rfl rfl ?_
 have r6 := ((((rR.ext m1).ext m2).ext m3).ext m4)
 have r7 := ((((rL.ext m1).ext m2).ext m3).ext m4)
 have r8 := ((((rS.ext m1).ext m2).ext m3).ext m4)
 refine WL.call (oc_call (vs := [.agg #[.slice AR nR cR, .slice AL nL cL, .slice AS nS cS, vI k, vF kc0, vF kc1, vF kc2, vF ks0, vF ks1, .bool op, vF lo, vF re, vF sl]]) (cap := []) rfl rfl rfl Try.call26 (c_toPipe nR cR AR bR oR esR nL cL AL bL oL esL nS cS AS bS oS xS k kc0 kc1 kc2 ks0 ks1 op lo re sl lnR hAR lnL hAL lnS hAS (by first | assumption | omega) (by first | assumption | omega) (by first | assumption | omega) (by assumption) (by assumption) w4 r6 r7 r8 ((((hFesR.ext m1).ext m2).ext m3).ext m4) ((((hFesL.ext m1).ext m2).ext m3).ext m4))) rfl rfl (ltb rfl) ?_
 rintro _ w5 ⟨bR'2, PR2, bL'2, PL2, bS'2, rfl, h3, h4, r9, r10, r11, ge4, ge5, ge6, ne4, ne5, ne6, fm3, fn8, fn9, fn10, fn11, fm4, fn12, fn13, fn14, m5⟩
 refine WL.op (op_alloc (cs := [.slice none 0 0, .slice none 0 0, .slice none 0 0, vI 0, vF 0, vF 0, vF 0, vF 0, vF 0, .bool false, vF 0, vF 0, vF 0]) Try.zeroValue33 rfl) rfl rfl (ltb rfl) ?_
 rintro _ w6 ⟨rfl, r12, m6, z2⟩
 refine WL.op0 (op_store (i := 0) (cs := [vS bR'2 0 nR nR, vS bL'2 0 nL nL, vS bS'2 0 nS nS, vI k, vF kc0, vF kc1, vF kc2, vF ks0, vF ks1, .bool op, vF lo, vF re, vF sl]) rfl rfl rfl Try.sizeOf33 rfl r12 rfl (lB rfl) rfl) rfl rfl ?_
 rintro _ w7 ⟨r13, m7, z3⟩
 have r14 : Row w7 w5.heap.size 0 [vS bR'2 0 nR nR, vS bL'2 0 nL nL, vS bS'2 0 nS nS, vI k, vF kc0, vF kc1, vF kc2, vF ks0, vF ks1, .bool op, vF lo, vF re, vF sl] := Row.congr r13 rfl
 refine WL.end (NE.code (CE.seq (CE.region ?_)))
 refine WL.det (op_loadA (i := 0) (cs := [vS bR'2 0 nR nR, vS bL'2 0 nL nL, vS bS'2 0 nS nS, vI k, vF kc0, vF kc1, vF kc2, vF ks0, vF ks1, .bool op, vF lo, vF re, vF sl]) rfl Try.isAgg33 Try.sizeOf33 r14.rng rfl rfl rfl) rfl rfl rfl ?_
 refine WL.det (op_move rfl) rfl rfl rfl ?_
 refine WL.call (oc_call (vs := [.agg #[vS bR'2 0 nR nR, vS bL'2 0 nL nL, vS bS'2 0 nS nS, vI k, vF kc0, vF kc1, vF kc2, vF ks0, vF ks1, .bool op, vF lo, vF re, vF sl], vI ((most : Nat) : Int)]) (cap := []) rfl rfl rfl Try.call19 (c_iSilP nR (esR.map RiR.rd) nL (esL.map RiR.rd) nS xS nR bR'2 PR2 w4.heap.size nL bL'2 PL2 w4.heap.size nS bS'2 k kc0 kc1 kc2 ks0 ks1 op lo re sl most rv (rd_len lnR) (rd_len lnL) lnS (by first | assumption | exact rd_small (by assumption) (by assumption) | exact markD_small (by first | assumption | exact rd_small (by assumption) (by assumption)) _) (by first | assumption | exact rd_small (by assumption) (by assumption) | exact markD_small (by first | assumption | exact rd_small (by assumption) (by assumption)) _) h3 h4 (by first | assumption | omega) (by first | assumption | omega) (by first | assumption | omega) (by first | assumption | omega) (by first | assumption | omega) (by assumption) (by assumption) (by first | assumption | omega) (by first | assumption | omega) (by assumption) (by assumption) (by first | assumption | exact W32.get (by assumption) _ | decide +kernel) (by first | assumption | exact W32.get (by assumption) _ | decide +kernel) (by omega) (by assumption) (by assumption) w7 ((r9.ext m6).mod m7 (nC (lE (lL r9.lt lR)) nN)).rng ((r10.ext m6).mod m7 (nC (lE (lL r10.lt lR)) nN)).rng ((r11.ext m6).mod m7 (nC (lE (lL r11.lt lR)) nN)).rng ((fm3.ext m6).mod m7 (fun j hj => (nC (lE (lL (OF.lt fm3 (Nat.lt_of_lt_of_eq (Nat.lt_of_lt_of_eq hj (rd_len lnR)) (rd_len lnR).symm)) lR)) nN))) ((fm4.ext m6).mod m7 (fun j hj => (nC (lE (lL (OF.lt fm4 (Nat.lt_of_lt_of_eq (Nat.lt_of_lt_of_eq hj (rd_len lnL)) (rd_len lnL).symm)) lR)) nN))))) rfl rfl (ltb rfl) ?_
 rintro _ w8 ⟨rfl, m8⟩
 refine WL.det (op_move rfl) rfl rfl rfl ?_
 iterate 2 refine WL.det (op_extract rfl rfl) rfl rfl rfl ?_
 iterate 2 refine WL.det (op_assign rfl) rfl rfl rfl ?_
 refine WL.end (NE.code (CE.seq (CE.seq (CE.region ?_))))
 iterate 2 refine WL.det (op_move rfl) rfl rfl rfl ?_
 refine WL.det (op_nei_f rfl rfl rfl) rfl rfl rfl ?_
 refine WL.det (op_move rfl) rfl rfl rfl ?_
 refine WL.yes rfl rfl rfl (ltb rfl) rfl rfl ?_
 refine WL.det (op_move rfl) rfl rfl rfl ?_
 refine WL.yes rfl rfl rfl (ltb rfl) rfl rfl ?_
 refine WL.det (op_move rfl) rfl rfl rfl ?_
 refine WL.yes rfl rfl rfl (ltb rfl) rfl rfl ?_
 refine WL.det (op_nei_f rfl rfl rfl) rfl rfl rfl ?_
 refine WL.det (op_pick_f rfl rfl rfl) rfl rfl rfl ?_
 refine WL.end (NE.code ?_)
 refine CE.cond_f rfl rfl ?_
 refine CE.skip' (NE.code (CE.seq (CE.seq ?_)))
 refine CE.draw (fun | 2 => some (fun _ wA uA wB => ∃ (bR' : Nat) (PR : List BC) (bL' : Nat) (PL : List BC) (bS' : Nat), uA = .agg #[vS bR' 0 nR nR, vS bL' 0 nL nL, vS bS' 0 nS nS, vI k, vF kc0, vF kc1, vF kc2, vF ks0, vF ks1, .bool op, vF lo, vF re, vF sl] ∧ (PR.length = nR) ∧ (PL.length = nL) ∧ Row wB bR' 0 (olc (esR.map RiR.rd) PR) ∧ Row wB bL' 0 (olc (esL.map RiR.rd) PL) ∧ Row wB bS' 0 (fl xS) ∧ wA.heap.size ≤ bR' ∧ wA.heap.size ≤ bL' ∧ wA.heap.size ≤ bS' ∧ bR' ≠ bL' ∧ bR' ≠ bS' ∧ bL' ≠ bS' ∧ OF wA.heap.size wB (esR.map RiR.rd) PR ∧ (∀ i, i < nR → (PR.getD i BC.d).b ≠ bR') ∧ (∀ i, i < nR → (PR.getD i BC.d).b ≠ bL') ∧ (∀ i, i < nR → (PR.getD i BC.d).b ≠ bS') ∧ (∀ i j, i < nR → j < nL → (PR.getD i BC.d).b ≠ (PL.getD j BC.d).b) ∧ OF wA.heap.size wB (esL.map RiR.rd) PL ∧ (∀ i, i < nL → (PL.getD i BC.d).b ≠ bR') ∧ (∀ i, i < nL → (PL.getD i BC.d).b ≠ bL') ∧ (∀ i, i < nL → (PL.getD i BC.d).b ≠ bS') ∧ Mod [] wA wB) | _ => none) [0, 1, 2] [3, 4] [] (by kernel_rfl) (by kernel_rfl) ?_
 have md1 : Mod [] w8 w8.drew := (Mod.refl _ _).drew
 generalize w8.drew = w9 at md1 ⊢
 refine DR.det (i := 0) rfl rfl (by kernel_rfl) (.free rfl) rfl rfl (fun wD mD => op_loadA (i := 0) (cs := [vS bR'2 0 nR nR, vS bL'2 0 nL nL, vS bS'2 0 nS nS, vI k, vF kc0, vF kc1, vF kc2, vF ks0, vF ks1, .bool op, vF lo, vF re, vF sl]) rfl Try.isAgg33 Try.sizeOf33 (((r14.ext m8).ext md1).ext mD).rng rfl rfl rfl) ?_
 refine DR.det (i := 1) rfl rfl (by kernel_rfl) (.free rfl) rfl rfl (fun wD mD => op_loadA (i := 0) (cs := [.slice AR nR cR, .slice AL nL cL, .slice AS nS cS, vI k, vF kc0, vF kc1, vF kc2, vF ks0, vF ks1, .bool op, vF lo, vF re, vF sl]) rfl Try.isAgg50 Try.sizeOf50 ((((((r5.ext m5).ext m6).mod m7 (nC (lE (lL (lL r1.lt (lT (lT (lT m2.size m3.size) m4.size) m5.size)) lR)) nN)).ext m8).ext md1).ext mD).rng rfl rfl rfl) ?_
 refine DR.one (i := 2) rfl rfl (by kernel_rfl) (.free rfl) rfl (ltb rfl) (vs := [.func (.func 26) #[] #[], .agg #[.slice AR nR cR, .slice AL nL cL, .slice AS nS cS, vI k, vF kc0, vF kc1, vF kc2, vF ks0, vF ks1, .bool op, vF lo, vF re, vF sl]]) rfl ?_
 intro w10 m9
 refine ⟨oc_call (vs := [.agg #[.slice AR nR cR, .slice AL nL cL, .slice AS nS cS, vI k, vF kc0, vF kc1, vF kc2, vF ks0, vF ks1, .bool op, vF lo, vF re, vF sl]]) (cap := []) rfl rfl rfl Try.call26 (c_toPipe nR cR AR bR oR esR nL cL AL bL oL esL nS cS AS bS oS xS k kc0 kc1 kc2 ks0 ks1 op lo re sl lnR hAR lnL hAL lnS hAS (by first | assumption | omega) (by first | assumption | omega) (by first | assumption | omega) (by assumption) (by assumption) w10 ((((Rng.youngS rR ((r6.ext m5).ext m6) m7 (allge_cons (lT (lT (lT (lT (lT m1.size m2.size) m3.size) m4.size) m5.size) lR) allge_nil)).ext m8).ext md1).ext m9) ((((Rng.youngS rL ((r7.ext m5).ext m6) m7 (allge_cons (lT (lT (lT (lT (lT m1.size m2.size) m3.size) m4.size) m5.size) lR) allge_nil)).ext m8).ext md1).ext m9) ((((Rng.youngS rS ((r8.ext m5).ext m6) m7 (allge_cons (lT (lT (lT (lT (lT m1.size m2.size) m3.size) m4.size) m5.size) lR) allge_nil)).ext m8).ext md1).ext m9) ((((InF.mod hFesR ((((((hFesR.ext m1).ext m2).ext m3).ext m4).ext m5).ext m6) m7 (allge_cons (lT (lT (lT (lT (lT m1.size m2.size) m3.size) m4.size) m5.size) lR) allge_nil)).ext m8).ext md1).ext m9) ((((InF.mod hFesL ((((((hFesL.ext m1).ext m2).ext m3).ext m4).ext m5).ext m6) m7 (allge_cons (lT (lT (lT (lT (lT m1.size m2.size) m3.size) m4.size) m5.size) lR) allge_nil)).ext m8).ext md1).ext m9)), ?_⟩
 rintro _ w11 ⟨bR'3, PR3, bL'3, PL3, bS'3, rfl, h5, h6, r15, r16, r17, ge7, ge8, ge9, ne7, ne8, ne9, fm5, fn15, fn16, fn17, fn18, fm6, fn19, fn20, fn21, m10⟩
 refine ⟨(((Mod.refl [] w9).nt m9).nt m10), ?_⟩
 refine DR.done rfl ?_
 intro w12 m11
 have r18 := (((((((r9.ext m6).mod m7 (nC (lE (lL r9.lt lR)) nN)).ext m8).ext md1).ext m9).ext m10).ext m11)
 have r19 := (((((((r10.ext m6).mod m7 (nC (lE (lL r10.lt lR)) nN)).ext m8).ext md1).ext m9).ext m10).ext m11)
 have r20 := (((((((r11.ext m6).mod m7 (nC (lE (lL r11.lt lR)) nN)).ext m8).ext md1).ext m9).ext m10).ext m11)
 refine WO.call rfl (.free rfl) rfl (ltb rfl) (oc_call (vs := [.agg #[vS bR'2 0 nR nR, vS bL'2 0 nL nL, vS bS'2 0 nS nS, vI k, vF kc0, vF kc1, vF kc2, vF ks0, vF ks1, .bool op, vF lo, vF re, vF sl], .agg #[vS bR'3 0 nR nR, vS bL'3 0 nL nL, vS bS'3 0 nS nS, vI k, vF kc0, vF kc1, vF kc2, vF ks0, vF ks1, .bool op, vF lo, vF re, vF sl]]) (cap := []) rfl rfl rfl Try.call28 (c_eqPipe nR (esR.map RiR.rd) nL (esL.map RiR.rd) nS xS nR bR'2 PR2 w4.heap.size nL bL'2 PL2 w4.heap.size nS bS'2 nR bR'3 PR3 w10.heap.size nL bL'3 PL3 w10.heap.size nS bS'3 k kc0 kc1 kc2 ks0 ks1 op lo re sl (rd_len lnR) (rd_len lnL) lnS (by first | assumption | exact rd_small (by assumption) (by assumption) | exact markD_small (by first | assumption | exact rd_small (by assumption) (by assumption)) _) (by first | assumption | exact rd_small (by assumption) (by assumption) | exact markD_small (by first | assumption | exact rd_small (by assumption) (by assumption)) _) (by first | assumption | omega) (by first | assumption | omega) (by first | assumption | omega) h3 h4 h5 h6 w12 r18.rng r19.rng r20.rng (r15.ext m11).rng (r16.ext m11).rng (r17.ext m11).rng (((((((fm3.ext m6).mod m7 (fun j hj => (nC (lE (lL (OF.lt fm3 (Nat.lt_of_lt_of_eq (Nat.lt_of_lt_of_eq hj (rd_len lnR)) (rd_len lnR).symm)) lR)) nN))).ext m8).ext md1).ext m9).ext m10).ext m11) (((((((fm4.ext m6).mod m7 (fun j hj => (nC (lE (lL (OF.lt fm4 (Nat.lt_of_lt_of_eq (Nat.lt_of_lt_of_eq hj (rd_len lnL)) (rd_len lnL).symm)) lR)) nN))).ext m8).ext md1).ext m9).ext m10).ext m11) (fm5.ext m11) (fm6.ext m11))) ?_
 rintro _ w13 ⟨rfl, m12⟩
 refine WO.det (op_not rfl) rfl (.free rfl) rfl rfl ?_
 refine WO.end (NE.code ?_)
 refine CE.cond_f rfl rfl ?_
 refine CE.skip' (NE.code (CE.seq (CE.region ?_)))
 refine WL.det (op_assign rfl) rfl rfl rfl ?_
 refine WL.end (NE.code (CE.ret' ?_))
 refine XE.leave1 Try.results11 rfl ?_
 have sz1 := (lT (lT (lT (lT m1.size m2.size) m3.size) m4.size) m5.size)
 refine ⟨rfl, ((((((((((((((Mod.refl [] w).nt m1).nt m2).nt m3).nt m4).nt m5).nt m6).then m7 ((aC (.inr (lT sz1 lR)) aN))).nt m8).nt md1).nt m9).nt m10).nt m11).nt m12)⟩

theorem law_sil0 (nR : Nat) (cR : Nat) (AR : Option Addr) (bR : Nat) (oR : Nat) (esR : List RiR) (nL : Nat) (cL : Nat) (AL : Option Addr) (bL : Nat) (oL : Nat) (esL : List RiR) (cS : Nat) (AS : Option Addr) (bS : Nat) (oS : Nat) (xS : List Nat) (k : Int) (kc0 : Nat) (kc1 : Nat) (kc2 : Nat) (ks0 : Nat) (ks1 : Nat) (op : Bool) (lo : Nat) (re : Nat) (sl : Nat) (most : Nat) (rv : Int × Int) (lnR : esR.length = nR) (hAR : 0 < nR → AR = some ⟨bR, oR, none⟩) (lnL : esL.length = nL) (hAL : 0 < nL → AL = some ⟨bL, oL, none⟩) (lnS : xS.length = 0) (hAS : 0 < 0 → AS = some ⟨bS, oS, none⟩) (hT : nR + sumR esR nR + (nL + sumR esL nL) + 0 ≤ 1048576) (mR : nR ≤ 1048576) (mL : nL ≤ 1048576) (hzR : ∀ i, (esR.getD i RiR.d).n ≤ 1048576) (hzL : ∀ i, (esL.getD i RiR.d).n ≤ 1048576) (hs : 1 ≤ nR ∧ nR ≤ 3 ∧ nL = nR ∧ 0 + 1 = nR) (r3 : nR ≤ 3) (l3 : nL ≤ 3) (h0n : 0 < nR) (h0m : 0 < nL) (hpR : ∀ i, i < nR → 0 < ((esR.map RiR.rd).getD i RD.d).xs.length) (hpL : ∀ i, i < nL → 0 < ((esL.map RiR.rd).getD i RD.d).xs.length) (hm : most ≤ 100000) (hv : vPipe nR nL 0 (esR.map RiR.rd) (esL.map RiR.rd) xS k kc0 kc1 kc2 ks0 ks1 lo re sl = true) (gR : GoodD (esR.map RiR.rd) nR) (gL : GoodD (esL.map RiR.rd) nL) (lks0 : ks0 < wid .f32) (lks1 : ks1 < wid .f32) (erv : rv = silG (fun ii => pipeSil nR nL (pipeAt nR 0 xS k kc0 kc1 kc2 op lo re sl (PipeSt.mk (esR.map RiR.rd) (esL.map RiR.rd) ks0 ks1) (fun _ => 0) ii)) (most + 1) 0) (w : World) (rR : Rng w bR oR (cat RiR.cells esR)) (rL : Rng w bL oL (cat RiR.cells esL)) (rS : Rng w bS oS (fl xS)) (hFesR : InF w esR) (hFesL : InF w esL) : Cl Try.prog 11 #[.agg #[.slice AR nR cR, .slice AL nL cL, .slice AS 0 cS, vI k, vF kc0, vF kc1, vF kc2, vF ks0, vF ks1, .bool op, vF lo, vF re, vF sl], vI ((most : Nat) : Int)] w fun v w' => v = .bool true ∧ Mod [] w w' := by
 refine Cl.of Try.func11 Try.ntmps11 rfl rfl (ρ := [(0, .agg #[.slice AR nR cR, .slice AL nL cL, .slice AS 0 cS, vI k, vF kc0, vF kc1, vF kc2, vF ks0, vF ks1, .bool op, vF lo, vF re, vF sl]), (1, vI ((most : Nat) : Int))]) rfl ?_
 refine CE.seq (CE.region ?_)
 refine WL.op (op_box (cs := [.slice AR nR cR, .slice AL nL cL, .slice AS 0 cS, vI k, vF kc0, vF kc1, vF kc2, vF ks0, vF ks1, .bool op, vF lo, vF re, vF sl]) rfl rfl) rfl rfl (ltb rfl) ?_
 rintro _ w1 ⟨rfl, r1, m1, z1⟩
 refine WL.det (op_assign rfl) rfl rfl rfl ?_
 refine WL.end (NE.code (CE.seq (CE.region ?_)))
 refine WL.det (op_assign rfl) rfl rfl rfl ?_
 refine WL.end (NE.code (CE.seq (CE.region ?_)))
 refine WL.det (op_loadA (i := 0) (cs := [.slice AR nR cR, .slice AL nL cL, .slice AS 0 cS, vI k, vF kc0, vF kc1, vF kc2, vF ks0, vF ks1, .bool op, vF lo, vF re, vF sl]) rfl Try.isAgg50 Try.sizeOf50 r1.rng rfl rfl rfl) rfl rfl rfl ?_
 refine WL.det (op_move rfl) rfl rfl rfl ?_
 refine WL.call (oc_call (vs := [.agg #[.slice AR nR cR, .slice AL nL cL, .slice AS 0 cS, vI k, vF kc0, vF kc1, vF kc2, vF ks0, vF ks1, .bool op, vF lo, vF re, vF sl], vI 1048576]) (cap := []) rfl rfl rfl Try.call25 (c_szPipe 1048576 nR cR AR bR oR esR nL cL AL bL oL esL 0 cS AS bS oS xS k kc0 kc1 kc2 ks0 ks1 op lo re sl lnR hAR lnL hAL lnS hAS (by omega) (by omega) w1 (rR.ext m1) (rL.ext m1) (rS.ext m1) (hFesR.ext m1) (hFesL.ext m1))) rfl rfl (ltb rfl) ?_
 rintro _ w2 ⟨rfl, m2⟩
 refine WL.det (op_assign rfl) rfl rfl rfl ?_
 refine WL.end (NE.code (CE.seq (CE.seq (CE.region ?_))))
 refine WL.det (op_move rfl) rfl rfl rfl ?_
 refine WL.det (op_lti_f rfl rfl (Int.not_lt.2 (Int.natCast_nonneg _))) rfl rfl rfl ?_
 refine WL.end (NE.code ?_)
 refine CE.cond_f rfl rfl ?_
 refine CE.skip' (NE.code (CE.seq (CE.region ?_)))
 refine WL.det (op_loadA (i := 0) (cs := [.slice AR nR cR, .slice AL nL cL, .slice AS 0 cS, vI k, vF kc0, vF kc1, vF kc2, vF ks0, vF ks1, .bool op, vF lo, vF re, vF sl]) rfl Try.isAgg50 Try.sizeOf50 (r1.ext m2).rng rfl rfl rfl) rfl rfl rfl ?_
 refine WL.call (oc_call (vs := [.agg #[.slice AR nR cR, .slice AL nL cL, .slice AS 0 cS, vI k, vF kc0, vF kc1, vF kc2, vF ks0, vF ks1, .bool op, vF lo, vF re, vF sl]]) (cap := []) rfl rfl rfl Try.call26 (c_toPipe nR cR AR bR oR esR nL cL AL bL oL esL 0 cS AS bS oS xS k kc0 kc1 kc2 ks0 ks1 op lo re sl lnR hAR lnL hAL lnS hAS (by first | assumption | omega) (by first | assumption | omega) (by first | assumption | omega) (by assumption) (by assumption) w2 ((rR.ext m1).ext m2) ((rL.ext m1).ext m2) ((rS.ext m1).ext m2) ((hFesR.ext m1).ext m2) ((hFesL.ext m1).ext m2))) rfl rfl (ltb rfl) ?_
 rintro _ w3 ⟨bR'1, PR1, bL'1, PL1, bS'1, rfl, h1, h2, r2, r3, r4, ge1, ge2, ge3, ne1, ne2, ne3, fm1, fn1, fn2, fn3, fn4, fm2, fn5, fn6, fn7, m3⟩
 refine WL.det (op_move rfl) rfl rfl rfl ?_
 refine WL.call (oc_call (vs := [.agg #[vS bR'1 0 nR nR, vS bL'1 0 nL nL, vS bS'1 0 0 0, vI k, vF kc0, vF kc1, vF kc2, vF ks0, vF ks1, .bool op, vF lo, vF re, vF sl], vI ((most : Nat) : Int)]) (cap := []) rfl rfl rfl Try.call20 (c_sSilP0 nR (esR.map RiR.rd) nL (esL.map RiR.rd) xS nR bR'1 PR1 w2.heap.size nL bL'1 PL1 w2.heap.size 0 bS'1 k kc0 kc1 kc2 ks0 ks1 op lo re sl most rv (rd_len lnR) (rd_len lnL) lnS (by first | assumption | exact rd_small (by assumption) (by assumption) | exact markD_small (by first | assumption | exact rd_small (by assumption) (by assumption)) _) (by first | assumption | exact rd_small (by assumption) (by assumption) | exact markD_small (by first | assumption | exact rd_small (by assumption) (by assumption)) _) h1 h2 (by first | assumption | omega) (by first | assumption | omega) (by first | assumption | omega) (by first | assumption | omega) (by assumption) (by assumption) (by first | assumption | omega) (by assumption) (by assumption) (by first | assumption | exact W32.get (by assumption) _ | decide +kernel) (by first | assumption | exact W32.get (by assumption) _ | decide +kernel) (by omega) (by assumption) (by assumption) w3 r2.rng r3.rng r4.rng fm1 fm2)) rfl rfl (ltb rfl) ?_
 rintro _ w4 ⟨rfl, m4⟩
 refine WL.det (op_move rfl) rfl rfl rfl ?_
 iterate 2 refine WL.det (op_extract rfl rfl) rfl rfl rfl ?_
 iterate 2 refine WL.det (op_assign rfl) rfl rfl rfl ?_
 refine WL.end (NE.code (CE.seq (CE.region ?_)))
 have r5 := (((r1.ext m2).ext m3).ext m4)
 refine WL.det (op_loadA (i := 0) (cs := [.slice AR nR cR, .slice AL nL cL, .slice AS 0 cS, vI k, vF kc0, vF kc1, vF kc2, vF ks0, vF ks1, .bool op, vF lo, vF re, vF sl]) rfl Try.isAgg50 Try.sizeOf50 r5.rng rfl rfl rfl) rfl rfl rfl ?_
 have r6 := ((((rR.ext m1).ext m2).ext m3).ext m4)
 have r7 := ((((rL.ext m1).ext m2).ext m3).ext m4)
 have r8 := ((((rS.ext m1).ext m2).ext m3).ext m4)
 refine WL.call (oc_call (vs := [.agg #[.slice AR nR cR, .slice AL nL cL, .slice AS 0 cS, vI k, vF kc0, vF kc1, vF kc2, vF ks0, vF ks1, .bool op, vF lo, vF re, vF sl]]) (cap := []) rfl rfl rfl Try.call26 (c_toPipe nR cR AR bR oR esR nL cL AL bL oL esL 0 cS AS bS oS xS k kc0 kc1 kc2 ks0 ks1 op lo re sl lnR hAR lnL hAL lnS hAS (by first | assumption | omega) (by first | assumption | omega) (by first | assumption | omega) (by assumption) (by assumption) w4 r6 r7 r8 ((((hFesR.ext m1).ext m2).ext m3).ext m4) ((((hFesL.ext m1).ext m2).ext m3).ext m4))) rfl rfl (ltb rfl) ?_
 rintro _ w5 ⟨bR'2, PR2, bL'2, PL2, bS'2, rfl, h3, h4, r9, r10, r11, ge4, ge5, ge6, ne4, ne5, ne6, fm3, fn8, fn9, fn10, fn11, fm4, fn12, fn13, fn14, m5⟩
 refine WL.op (op_alloc (cs := [.slice none 0 0, .slice none 0 0, .slice none 0 0, vI 0, vF 0, vF 0, vF 0, vF 0, vF 0, .bool false, vF 0, vF 0, vF 0]) Try.zeroValue33 rfl) rfl rfl (ltb rfl) ?_
 rintro _ w6 ⟨rfl, r12, m6, z2⟩
 refine WL.op0 (op_store (i := 0) (cs := [vS bR'2 0 nR nR, vS bL'2 0 nL nL, vS bS'2 0 0 0, vI k, vF kc0, vF kc1, vF kc2, vF ks0, vF ks1, .bool op, vF lo, vF re, vF sl]) rfl rfl rfl Try.sizeOf33 rfl r12 rfl (lB rfl) rfl) rfl rfl ?_
 rintro _ w7 ⟨r13, m7, z3⟩
 have r14 : Row w7 w5.heap.size 0 [vS bR'2 0 nR nR, vS bL'2 0 nL nL, vS bS'2 0 0 0, vI k, vF kc0, vF kc1, vF kc2, vF ks0, vF ks1, .bool op, vF lo, vF re, vF sl] := Row.congr r13 rfl
 refine WL.end (NE.code (CE.seq (CE.region ?_)))
 refine WL.det (op_loadA (i := 0) (cs := [vS bR'2 0 nR nR, vS bL'2 0 nL nL, vS bS'2 0 0 0, vI k, vF kc0, vF kc1, vF kc2, vF ks0, vF ks1, .bool op, vF lo, vF re, vF sl]) rfl Try.isAgg33 Try.sizeOf33 r14.rng rfl rfl rfl) rfl rfl rfl ?_
 refine WL.det (op_move rfl) rfl rfl rfl ?_
 refine WL.call (oc_call (vs := [.agg #[vS bR'2 0 nR nR, vS bL'2 0 nL nL, vS bS'2 0 0 0, vI k, vF kc0, vF kc1, vF kc2, vF ks0, vF ks1, .bool op, vF lo, vF re, vF sl], vI ((most : Nat) : Int)]) (cap := []) rfl rfl rfl Try.call19 (c_iSilP0 nR (esR.map RiR.rd) nL (esL.map RiR.rd) xS nR bR'2 PR2 w4.heap.size nL bL'2 PL2 w4.heap.size 0 bS'2 k kc0 kc1 kc2 ks0 ks1 op lo re sl most rv (rd_len lnR) (rd_len lnL) lnS (by first | assumption | exact rd_small (by assumption) (by assumption) | exact markD_small (by first | assumption | exact rd_small (by assumption) (by assumption)) _) (by first | assumption | exact rd_small (by assumption) (by assumption) | exact markD_small (by first | assumption | exact rd_small (by assumption) (by assumption)) _) h3 h4 (by first | assumption | omega) (by first | assumption | omega) (by first | assumption | omega) (by first | assumption | omega) (by assumption) (by assumption) (by first | assumption | omega) (by assumption) (by assumption) (by first | assumption | exact W32.get (by assumption) _ | decide +kernel) (by first | assumption | exact W32.get (by assumption) _ | decide +kernel) (by omega) (by assumption) (by assumption) w7 ((r9.ext m6).mod m7 (nC (lE (lL r9.lt lR)) nN)).rng ((r10.ext m6).mod m7 (nC (lE (lL r10.lt lR)) nN)).rng ((r11.ext m6).mod m7 (nC (lE (lL r11.lt lR)) nN)).rng ((fm3.ext m6).mod m7 (fun j hj => (nC (lE (lL (OF.lt fm3 (Nat.lt_of_lt_of_eq (Nat.lt_of_lt_of_eq hj (rd_len lnR)) (rd_len lnR).symm)) lR)) nN))) ((fm4.ext m6).mod m7 (fun j hj => (nC (lE (lL (OF.lt fm4 (Nat.lt_of_lt_of_eq (Nat.lt_of_lt_of_eq hj (rd_len lnL)) (rd_len lnL).symm)) lR)) nN))))) rfl rfl (ltb rfl) ?_
 rintro _ w8 ⟨rfl, m8⟩
 refine WL.det (op_move rfl) rfl rfl rfl ?_
 iterate 2 refine WL.det (op_extract rfl rfl) rfl rfl rfl ?_
 iterate 2 refine WL.det (op_assign rfl) rfl rfl rfl ?_
 refine WL.end (NE.code (CE.seq (CE.seq (CE.region ?_))))
 iterate 2 refine WL.det (op_move rfl) rfl rfl rfl ?_
 refine WL.det (op_nei_f rfl rfl rfl) rfl rfl rfl ?_
 refine WL.det (op_move rfl) rfl rfl rfl ?_
 refine WL.yes rfl rfl rfl (ltb rfl) rfl rfl ?_
 refine WL.det (op_move rfl) rfl rfl rfl ?_
 refine WL.yes rfl rfl rfl (ltb rfl) rfl rfl ?_
 refine WL.det (op_move rfl) rfl rfl rfl ?_
 refine WL.yes rfl rfl rfl (ltb rfl) rfl rfl ?_
 refine WL.det (op_nei_f rfl rfl rfl) rfl rfl rfl ?_
 refine WL.det (op_pick_f rfl rfl rfl) rfl rfl rfl ?_
 refine WL.end (NE.code ?_)
 refine CE.cond_f rfl rfl ?_
 refine CE.skip' (NE.code (CE.seq (CE.seq ?_)))
 refine CE.draw (fun | 2 => some (fun _ wA uA wB => ∃ (bR' : Nat) (PR : List BC) (bL' : Nat) (PL : List BC) (bS' : Nat), uA = .agg #[vS bR' 0 nR nR, vS bL' 0 nL nL, vS bS' 0 0 0, vI k, vF kc0, vF kc1, vF kc2, vF ks0, vF ks1, .bool op, vF lo, vF re, vF sl] ∧ (PR.length = nR) ∧ (PL.length = nL) ∧ Row wB bR' 0 (olc (esR.map RiR.rd) PR) ∧ Row wB bL' 0 (olc (esL.map RiR.rd) PL) ∧ Row wB bS' 0 (fl xS) ∧ wA.heap.size ≤ bR' ∧ wA.heap.size ≤ bL' ∧ wA.heap.size ≤ bS' ∧ bR' ≠ bL' ∧ bR' ≠ bS' ∧ bL' ≠ bS' ∧ OF wA.heap.size wB (esR.map RiR.rd) PR ∧ (∀ i, i < nR → (PR.getD i BC.d).b ≠ bR') ∧ (∀ i, i < nR → (PR.getD i BC.d).b ≠ bL') ∧ (∀ i, i < nR → (PR.getD i BC.d).b ≠ bS') ∧ (∀ i j, i < nR → j < nL → (PR.getD i BC.d).b ≠ (PL.getD j BC.d).b) ∧ OF wA.heap.size wB (esL.map RiR.rd) PL ∧ (∀ i, i < nL → (PL.getD i BC.d).b ≠ bR') ∧ (∀ i, i < nL → (PL.getD i BC.d).b ≠ bL') ∧ (∀ i, i < nL → (PL.getD i BC.d).b ≠ bS') ∧ Mod [] wA wB) | _ => none) [0, 1, 2] [3, 4] [] (by kernel_rfl) (by kernel_rfl) ?_
 have md1 : Mod [] w8 w8.drew := (Mod.refl _ _).drew
 generalize w8.drew = w9 at md1 ⊢
 refine DR.det (i := 0) rfl rfl (by kernel_rfl) (.free rfl) rfl rfl (fun wD mD => op_loadA (i := 0) (cs := [vS bR'2 0 nR nR, vS bL'2 0 nL nL, vS bS'2 0 0 0, vI k, vF kc0, vF kc1, vF kc2, vF ks0, vF ks1, .bool op, vF lo, vF re, vF sl]) rfl Try.isAgg33 Try.sizeOf33 (((r14.ext m8).ext md1).ext mD).rng rfl rfl rfl) ?_
 refine DR.det (i := 1) rfl rfl (by kernel_rfl) (.free rfl) rfl rfl (fun wD mD => op_loadA (i := 0) (cs := [.slice AR nR cR, .slice AL nL cL, .slice AS 0 cS, vI k, vF kc0, vF kc1, vF kc2, vF ks0, vF ks1, .bool op, vF lo, vF re, vF sl]) rfl Try.isAgg50 Try.sizeOf50 ((((((r5.ext m5).ext m6).mod m7 (nC (lE (lL (lL r1.lt (lT (lT (lT m2.size m3.size) m4.size) m5.size)) lR)) nN)).ext m8).ext md1).ext mD).rng rfl rfl rfl) ?_
 refine DR.one (i := 2) rfl rfl (by kernel_rfl) (.free rfl) rfl (ltb rfl) (vs := [.func (.func 26) #[] #[], .agg #[.slice AR nR cR, .slice AL nL cL, .slice AS 0 cS, vI k, vF kc0, vF kc1, vF kc2, vF ks0, vF ks1, .bool op, vF lo, vF re, vF sl]]) rfl ?_
 intro w10 m9
 refine ⟨oc_call (vs := [.agg #[.slice AR nR cR, .slice AL nL cL, .slice AS 0 cS, vI k, vF kc0, vF kc1, vF kc2, vF ks0, vF ks1, .bool op, vF lo, vF re, vF sl]]) (cap := []) rfl rfl rfl Try.call26 (c_toPipe nR cR AR bR oR esR nL cL AL bL oL esL 0 cS AS bS oS xS k kc0 kc1 kc2 ks0 ks1 op lo re sl lnR hAR lnL hAL lnS hAS (by first | assumption | omega) (by first | assumption | omega) (by first | assumption | omega) (by assumption) (by assumption) w10 ((((Rng.youngS rR ((r6.ext m5).ext m6) m7 (allge_cons (lT (lT (lT (lT (lT m1.size m2.size) m3.size) m4.size) m5.size) lR) allge_nil)).ext m8).ext md1).ext m9) ((((Rng.youngS rL ((r7.ext m5).ext m6) m7 (allge_cons (lT (lT (lT (lT (lT m1.size m2.size) m3.size) m4.size) m5.size) lR) allge_nil)).ext m8).ext md1).ext m9) ((((Rng.youngS rS ((r8.ext m5).ext m6) m7 (allge_cons (lT (lT (lT (lT (lT m1.size m2.size) m3.size) m4.size) m5.size) lR) allge_nil)).ext m8).ext md1).ext m9) ((((InF.mod hFesR ((((((hFesR.ext m1).ext m2).ext m3).ext m4).ext m5).ext m6) m7 (allge_cons (lT (lT (lT (lT (lT m1.size m2.size) m3.size) m4.size) m5.size) lR) allge_nil)).ext m8).ext md1).ext m9) ((((InF.mod hFesL ((((((hFesL.ext m1).ext m2).ext m3).ext m4).ext m5).ext m6) m7 (allge_cons (lT (lT (lT (lT (lT m1.size m2.size) m3.size) m4.size) m5.size) lR) allge_nil)).ext m8).ext md1).ext m9)), ?_⟩
 rintro _ w11 ⟨bR'3, PR3, bL'3, PL3, bS'3, rfl, h5, h6, r15, r16, r17, ge7, ge8, ge9, ne7, ne8, ne9, fm5, fn15, fn16, fn17, fn18, fm6, fn19, fn20, fn21, m10⟩
 refine ⟨(((Mod.refl [] w9).nt m9).nt m10), ?_⟩
 refine DR.done rfl ?_
 intro w12 m11
 have r18 := (((((((r9.ext m6).mod m7 (nC (lE (lL r9.lt lR)) nN)).ext m8).ext md1).ext m9).ext m10).ext m11)
 have r19 := (((((((r10.ext m6).mod m7 (nC (lE (lL r10.lt lR)) nN)).ext m8).ext md1).ext m9).ext m10).ext m11)
 have r20 := (((((((r11.ext m6).mod m7 (nC (lE (lL r11.lt lR)) nN)).ext m8).ext md1).ext m9).ext m10).ext m11)
 refine WO.call rfl (.free rfl) rfl (ltb rfl) (oc_call (vs := [.agg #[vS bR'2 0 nR nR, vS bL'2 0 nL nL, vS bS'2 0 0 0, vI k, vF kc0, vF kc1, vF kc2, vF ks0, vF ks1, .bool op, vF lo, vF re, vF sl], .agg #[vS bR'3 0 nR nR, vS bL'3 0 nL nL, vS bS'3 0 0 0, vI k, vF kc0, vF kc1, vF kc2, vF ks0, vF ks1, .bool op, vF lo, vF re, vF sl]]) (cap := []) rfl rfl rfl Try.call28 (c_eqPipe nR (esR.map RiR.rd) nL (esL.map RiR.rd) 0 xS nR bR'2 PR2 w4.heap.size nL bL'2 PL2 w4.heap.size 0 bS'2 nR bR'3 PR3 w10.heap.size nL bL'3 PL3 w10.heap.size 0 bS'3 k kc0 kc1 kc2 ks0 ks1 op lo re sl (rd_len lnR) (rd_len lnL) lnS (by first | assumption | exact rd_small (by assumption) (by assumption) | exact markD_small (by first | assumption | exact rd_small (by assumption) (by assumption)) _) (by first | assumption | exact rd_small (by assumption) (by assumption) | exact markD_small (by first | assumption | exact rd_small (by assumption) (by assumption)) _) (by first | assumption | omega) (by first | assumption | omega) (by first | assumption | omega) h3 h4 h5 h6 w12 r18.rng r19.rng r20.rng (r15.ext m11).rng (r16.ext m11).rng (r17.ext m11).rng (((((((fm3.ext m6).mod m7 (fun j hj => (nC (lE (lL (OF.lt fm3 (Nat.lt_of_lt_of_eq (Nat.lt_of_lt_of_eq hj (rd_len lnR)) (rd_len lnR).symm)) lR)) nN))).ext m8).ext md1).ext m9).ext m10).ext m11) (((((((fm4.ext m6).mod m7 (fun j hj => (nC (lE (lL (OF.lt fm4 (Nat.lt_of_lt_of_eq (Nat.lt_of_lt_of_eq hj (rd_len lnL)) (rd_len lnL).symm)) lR)) nN))).ext m8).ext md1).ext m9).ext m10).ext m11) (fm5.ext m11) (fm6.ext m11))) ?_
 rintro _ w13 ⟨rfl, m12⟩
 refine WO.det (op_not rfl) rfl (.free rfl) rfl rfl ?_
 refine WO.end (NE.code ?_)
 refine CE.cond_f rfl rfl ?_
 refine CE.skip' (NE.code (CE.seq (CE.region ?_)))
 refine WL.det (op_assign rfl) rfl rfl rfl ?_
 refine WL.end (NE.code (CE.ret' ?_))
 refine XE.leave1 Try.results11 rfl ?_
 have sz1 := (lT (lT (lT (lT m1.size m2.size) m3.size) m4.size) m5.size)
 refine ⟨rfl, ((((((((((((((Mod.refl [] w).nt m1).nt m2).nt m3).nt m4).nt m5).nt m6).then m7 ((aC (.inr (lT sz1 lR)) aN))).nt m8).nt md1).nt m9).nt m10).nt m11).nt m12)⟩

end Go.Proofs.Ytnahhdnkbbdceaa
