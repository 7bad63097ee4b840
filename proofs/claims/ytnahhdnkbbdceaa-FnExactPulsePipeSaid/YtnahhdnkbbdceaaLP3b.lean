/- The law on a pulse, walked (no, inf). -/
import Derived.Test.YtnahhdnkbbdceaaS5
import Derived.Test.YtnahhdnkbbdceaaS9
import Derived.Test.YtnahhdnkbbdceaaT1
import Derived.Test.YtnahhdnkbbdceaaE8
import Derived.Test.YtnahhdnkbbdceaaE13
set_option linter.unusedVariables false
set_option linter.unusedSimpArgs false
set_option maxRecDepth 100000
set_option maxHeartbeats 8000000
namespace Go.Proofs.Ytnahhdnkbbdceaa

theorem law_pulse_no (nR : Nat) (cR : Nat) (AR : Option Addr) (bR : Nat) (oR : Nat) (esR : List RiR) (nL : Nat) (cL : Nat) (AL : Option Addr) (bL : Nat) (oL : Nat) (esL : List RiR) (nS : Nat) (cS : Nat) (AS : Option Addr) (bS : Nat) (oS : Nat) (xS : List Nat) (k : Int) (kc0 : Nat) (kc1 : Nat) (kc2 : Nat) (ks0 : Nat) (ks1 : Nat) (op : Bool) (lo : Nat) (re : Nat) (sl : Nat) (m : Int) (pl : Int) (a : Nat) (lnR : esR.length = nR) (hAR : 0 < nR → AR = some ⟨bR, oR, none⟩) (lnL : esL.length = nL) (hAL : 0 < nL → AL = some ⟨bL, oL, none⟩) (lnS : xS.length = nS) (hAS : 0 < nS → AS = some ⟨bS, oS, none⟩) (hT : nR + sumR esR nR + (nL + sumR esL nL) + nS ≤ 1048576) (mR : nR ≤ 1048576) (mL : nL ≤ 1048576) (mS : nS ≤ 1048576) (hzR : ∀ i, (esR.getD i RiR.d).n ≤ 1048576) (hzL : ∀ i, (esL.getD i RiR.d).n ≤ 1048576) (hs : 1 ≤ nR ∧ nR ≤ 3 ∧ nL = nR ∧ nS + 1 = nR) (nR_3 : nR ≤ 3) (nL_3 : nL ≤ 3) (hv : vPipe nR nL nS (esR.map RiR.rd) (esL.map RiR.rd) xS k kc0 kc1 kc2 ks0 ks1 lo re sl = true) (hf : (vIn m 0 (((nR : Nat) : Int) - (1 : Int)) && vIn pl 0 (((((esR.map RiR.rd).getD (m).toNat RD.d).xs.length : Nat) : Int) - (1 : Int))) = false) (la : a < wid .f32) (w : World) (rR : Rng w bR oR (cat RiR.cells esR)) (rL : Rng w bL oL (cat RiR.cells esL)) (rS : Rng w bS oS (fl xS)) (hFesR : InF w esR) (hFesL : InF w esL) : Cl Try.prog 8 #[.agg #[.slice AR nR cR, .slice AL nL cL, .slice AS nS cS, vI k, vF kc0, vF kc1, vF kc2, vF ks0, vF ks1, .bool op, vF lo, vF re, vF sl], vI m, vI pl, vF a] w fun v w' => v = .bool true ∧ Mod [] w w' := by
 refine Cl.of Try.func8 Try.ntmps8 rfl rfl (ρ := [(0, .agg #[.slice AR nR cR, .slice AL nL cL, .slice AS nS cS, vI k, vF kc0, vF kc1, vF kc2, vF ks0, vF ks1, .bool op, vF lo, vF re, vF sl]), (1, vI m), (2, vI pl), (3, vF a)]) rfl ?_
 refine CE.seq (CE.region ?_)
 refine WL.op (op_box (cs := [.slice AR nR cR, .slice AL nL cL, .slice AS nS cS, vI k, vF kc0, vF kc1, vF kc2, vF ks0, vF ks1, .bool op, vF lo, vF re, vF sl]) rfl rfl) rfl rfl (ltb rfl) ?_
 rintro _ w1 ⟨rfl, r1, m1, z1⟩
 refine WL.det (op_assign rfl) rfl rfl rfl ?_
 refine WL.end (NE.code (CE.seq (CE.region ?_)))
 refine WL.det (op_assign rfl) rfl rfl rfl ?_
 refine WL.end (NE.code (CE.seq (CE.region ?_)))
 refine WL.det (op_loadA (i := 0) (cs := [.slice AR nR cR, .slice AL nL cL, .slice AS nS cS, vI k, vF kc0, vF kc1, vF kc2, vF ks0, vF ks1, .bool op, vF lo, vF re, vF sl]) rfl Try.isAgg50 Try.sizeOf50 r1.rng rfl rfl rfl) rfl rfl rfl ?_
 refine WL.det (op_move rfl) rfl rfl rfl ?_
 refine WL.call (oc_call (vs := [.agg #[.slice AR nR cR, .slice AL nL cL, .slice AS nS cS, vI k, vF kc0, vF kc1, vF kc2, vF ks0, vF ks1, .bool op, vF lo, vF re, vF sl], vI 1048576]) (cap := []) rfl rfl rfl Try.call25 (c_szPipe 1048576 nR cR AR bR oR esR nL cL AL bL oL esL nS cS AS bS oS xS k kc0 kc1 kc2 ks0 ks1 op lo re sl lnR hAR lnL hAL lnS hAS hT (by omega) w1 (rR.ext m1) (rL.ext m1) (rS.ext m1) (hFesR.ext m1) (hFesL.ext m1))) rfl rfl (ltb rfl) ?_
 rintro _ w2 ⟨rfl, m2⟩
 refine WL.det (op_assign rfl) rfl rfl rfl ?_
 refine WL.end (NE.code (CE.seq (CE.seq (CE.region ?_))))
 refine WL.det (op_move rfl) rfl rfl rfl ?_
 refine WL.det (op_lti_f rfl rfl (Int.not_lt.2 (Int.natCast_nonneg _))) rfl rfl rfl ?_
 refine WL.end (NE.code ?_)
 refine CE.cond_f rfl rfl ?_
 refine CE.skip' (NE.code (CE.seq (CE.region ?_)))
 refine WL.det (op_loadA (i := 0) (cs := [.slice AR nR cR, .slice AL nL cL, .slice AS nS cS, vI k, vF kc0, vF kc1, vF kc2, vF ks0, vF ks1, .bool op, vF lo, vF re, vF sl]) rfl Try.isAgg50 Try.sizeOf50 (r1.ext m2).rng rfl rfl rfl) rfl rfl rfl ?_
 refine WL.call (oc_call (vs := [.agg #[.slice AR nR cR, .slice AL nL cL, .slice AS nS cS, vI k, vF kc0, vF kc1, vF kc2, vF ks0, vF ks1, .bool op, vF lo, vF re, vF sl]]) (cap := []) rfl rfl rfl Try.call26 (c_toPipe nR cR AR bR oR esR nL cL AL bL oL esL nS cS AS bS oS xS k kc0 kc1 kc2 ks0 ks1 op lo re sl lnR hAR lnL hAL lnS hAS mR mL mS hzR hzL w2 ((rR.ext m1).ext m2) ((rL.ext m1).ext m2) ((rS.ext m1).ext m2) ((hFesR.ext m1).ext m2) ((hFesL.ext m1).ext m2))) rfl rfl (ltb rfl) ?_
 rintro _ w3 ⟨bR'1, PR1, bL'1, PL1, bS'1, rfl, h1, h2, r2, r3, r4, ge1, ge2, ge3, ne1, ne2, ne3, fm1, fn1, fn2, fn3, fn4, fm2, fn5, fn6, fn7, m3⟩
 iterate 3 refine WL.det (op_move rfl) rfl rfl rfl ?_
 refine WL.call (oc_call (vs := [.agg #[vS bR'1 0 nR nR, vS bL'1 0 nL nL, vS bS'1 0 nS nS, vI k, vF kc0, vF kc1, vF kc2, vF ks0, vF ks1, .bool op, vF lo, vF re, vF sl], vI m, vI pl, vF a]) (cap := []) rfl rfl rfl Try.call36 (c_sPulseS_no nR (esR.map RiR.rd) nL (esL.map RiR.rd) nS xS nR bR'1 PR1 w2.heap.size nL bL'1 PL1 w2.heap.size nS bS'1 k kc0 kc1 kc2 ks0 ks1 op lo re sl m pl a (rd_len lnR) (rd_len lnL) lnS (rd_small hFesR hzR) (rd_small hFesL hzL) h1 h2 mR mL mS hs hv hf la (by first | assumption | omega) w3 r2.rng r3.rng r4.rng fm1 fm2)) rfl rfl (ltb rfl) ?_
 rintro _ w4 ⟨rfl, m4⟩
 refine WL.det (op_move rfl) rfl rfl rfl ?_
 iterate 2 refine WL.det (op_extract rfl rfl) rfl rfl rfl ?_
 refine WL.op (op_alloc (cs := [.slice none 0 0, .slice none 0 0, .slice none 0 0, vI 0, vF 0, vF 0, vF 0, vF 0, vF 0, .bool false, vF 0, vF 0, vF 0]) Try.zeroValue33 rfl) rfl rfl (ltb rfl) ?_
 rintro _ w5 ⟨rfl, r5, m5, z2⟩
 refine WL.op0 (op_store (i := 0) (cs := [.slice none 0 0, .slice none 0 0, .slice none 0 0, vI 0, vF 0, vF 0, vF 0, vF 0, vF 0, .bool false, vF 0, vF 0, vF 0]) rfl rfl rfl Try.sizeOf33 rfl r5 rfl (lB rfl) rfl) rfl rfl ?_
 rintro _ w6 ⟨r6, m6, z3⟩
 have r7 : Row w6 w4.heap.size 0 [.slice none 0 0, .slice none 0 0, .slice none 0 0, vI 0, vF 0, vF 0, vF 0, vF 0, vF 0, .bool false, vF 0, vF 0, vF 0] := Row.congr r6 rfl
 refine WL.det (op_assign rfl) rfl rfl rfl ?_
 refine WL.end (NE.code (CE.seq (CE.region ?_)))
 have sz1 := (lT (lT m2.size m3.size) m4.size)
 have r8 := (((((r1.ext m2).ext m3).ext m4).ext m5).mod m6 (nC (lE (lL (lL r1.lt sz1) lR)) nN))
 refine WL.det (op_loadA (i := 0) (cs := [.slice AR nR cR, .slice AL nL cL, .slice AS nS cS, vI k, vF kc0, vF kc1, vF kc2, vF ks0, vF ks1, .bool op, vF lo, vF re, vF sl]) rfl Try.isAgg50 Try.sizeOf50 r8.rng rfl rfl rfl) rfl rfl rfl ?_
 have sz2 := (lT (lT (lT m1.size m2.size) m3.size) m4.size)
 have r9 := (Rng.youngS rR (((((rR.ext m1).ext m2).ext m3).ext m4).ext m5) m6 (allge_cons (lT sz2 lR) allge_nil))
 have r10 := (Rng.youngS rL (((((rL.ext m1).ext m2).ext m3).ext m4).ext m5) m6 (allge_cons (lT sz2 lR) allge_nil))
 have r11 := (Rng.youngS rS (((((rS.ext m1).ext m2).ext m3).ext m4).ext m5) m6 (allge_cons (lT sz2 lR) allge_nil))
 refine WL.call (oc_call (vs := [.agg #[.slice AR nR cR, .slice AL nL cL, .slice AS nS cS, vI k, vF kc0, vF kc1, vF kc2, vF ks0, vF ks1, .bool op, vF lo, vF re, vF sl]]) (cap := []) rfl rfl rfl Try.call26 (c_toPipe nR cR AR bR oR esR nL cL AL bL oL esL nS cS AS bS oS xS k kc0 kc1 kc2 ks0 ks1 op lo re sl lnR hAR lnL hAL lnS hAS mR mL mS hzR hzL w6 r9 r10 r11 (InF.mod hFesR (((((hFesR.ext m1).ext m2).ext m3).ext m4).ext m5) m6 (allge_cons (lT sz2 lR) allge_nil)) (InF.mod hFesL (((((hFesL.ext m1).ext m2).ext m3).ext m4).ext m5) m6 (allge_cons (lT sz2 lR) allge_nil)))) rfl rfl (ltb rfl) ?_
 rintro _ w7 ⟨bR'2, PR2, bL'2, PL2, bS'2, rfl, h3, h4, r12, r13, r14, ge4, ge5, ge6, ne4, ne5, ne6, fm3, fn8, fn9, fn10, fn11, fm4, fn12, fn13, fn14, m7⟩
 refine WL.op (op_alloc (cs := [.slice none 0 0, .slice none 0 0, .slice none 0 0, vI 0, vF 0, vF 0, vF 0, vF 0, vF 0, .bool false, vF 0, vF 0, vF 0]) Try.zeroValue33 rfl) rfl rfl (ltb rfl) ?_
 rintro _ w8 ⟨rfl, r15, m8, z4⟩
 refine WL.op0 (op_store (i := 0) (cs := [vS bR'2 0 nR nR, vS bL'2 0 nL nL, vS bS'2 0 nS nS, vI k, vF kc0, vF kc1, vF kc2, vF ks0, vF ks1, .bool op, vF lo, vF re, vF sl]) rfl rfl rfl Try.sizeOf33 rfl r15 rfl (lB rfl) rfl) rfl rfl ?_
 rintro _ w9 ⟨r16, m9, z5⟩
 have r17 : Row w9 w7.heap.size 0 [vS bR'2 0 nR nR, vS bL'2 0 nL nL, vS bS'2 0 nS nS, vI k, vF kc0, vF kc1, vF kc2, vF ks0, vF ks1, .bool op, vF lo, vF re, vF sl] := Row.congr r16 rfl
 refine WL.end (NE.code (CE.seq (CE.region ?_)))
 refine WL.det (op_loadA (i := 0) (cs := [vS bR'2 0 nR nR, vS bL'2 0 nL nL, vS bS'2 0 nS nS, vI k, vF kc0, vF kc1, vF kc2, vF ks0, vF ks1, .bool op, vF lo, vF re, vF sl]) rfl Try.isAgg33 Try.sizeOf33 r17.rng rfl rfl rfl) rfl rfl rfl ?_
 iterate 3 refine WL.det (op_move rfl) rfl rfl rfl ?_
 refine WL.call (oc_call (vs := [.agg #[vS bR'2 0 nR nR, vS bL'2 0 nL nL, vS bS'2 0 nS nS, vI k, vF kc0, vF kc1, vF kc2, vF ks0, vF ks1, .bool op, vF lo, vF re, vF sl], vI m, vI pl, vF a]) (cap := []) rfl rfl rfl Try.call35 (c_iPulseS_no nR (esR.map RiR.rd) nL (esL.map RiR.rd) nS xS nR bR'2 PR2 w6.heap.size nL bL'2 PL2 w6.heap.size nS bS'2 k kc0 kc1 kc2 ks0 ks1 op lo re sl m pl a (rd_len lnR) (rd_len lnL) lnS (rd_small hFesR hzR) (rd_small hFesL hzL) h3 h4 mR mL mS hs hv hf la (by first | assumption | omega) w9 ((r12.ext m8).mod m9 (nC (lE (lL r12.lt lR)) nN)).rng ((r13.ext m8).mod m9 (nC (lE (lL r13.lt lR)) nN)).rng ((r14.ext m8).mod m9 (nC (lE (lL r14.lt lR)) nN)).rng ((fm3.ext m8).mod m9 (fun j hj => (nC (lE (lL (OF.lt fm3 (Nat.lt_of_lt_of_eq (Nat.lt_of_lt_of_eq hj (rd_len lnR)) (rd_len lnR).symm)) lR)) nN))) ((fm4.ext m8).mod m9 (fun j hj => (nC (lE (lL (OF.lt fm4 (Nat.lt_of_lt_of_eq (Nat.lt_of_lt_of_eq hj (rd_len lnL)) (rd_len lnL).symm)) lR)) nN))))) rfl rfl (ltb rfl) ?_
 rintro _ w10 ⟨rfl, m10⟩
 refine WL.det (op_move rfl) rfl rfl rfl ?_
 iterate 2 refine WL.det (op_extract rfl rfl) rfl rfl rfl ?_
 refine WL.op (op_alloc (cs := [.slice none 0 0, .slice none 0 0, .slice none 0 0, vI 0, vF 0, vF 0, vF 0, vF 0, vF 0, .bool false, vF 0, vF 0, vF 0]) Try.zeroValue33 rfl) rfl rfl (ltb rfl) ?_
 rintro _ w11 ⟨rfl, r18, m11, z6⟩
 refine WL.op0 (op_store (i := 0) (cs := [.slice none 0 0, .slice none 0 0, .slice none 0 0, vI 0, vF 0, vF 0, vF 0, vF 0, vF 0, .bool false, vF 0, vF 0, vF 0]) rfl rfl rfl Try.sizeOf33 rfl r18 rfl (lB rfl) rfl) rfl rfl ?_
 rintro _ w12 ⟨r19, m12, z7⟩
 have r20 : Row w12 w10.heap.size 0 [.slice none 0 0, .slice none 0 0, .slice none 0 0, vI 0, vF 0, vF 0, vF 0, vF 0, vF 0, .bool false, vF 0, vF 0, vF 0] := Row.congr r19 rfl
 refine WL.det (op_assign rfl) rfl rfl rfl ?_
 refine WL.end (NE.code (CE.seq (CE.seq (CE.region ?_))))
 refine WL.det (op_loadA (i := 0) (cs := [.slice none 0 0, .slice none 0 0, .slice none 0 0, vI 0, vF 0, vF 0, vF 0, vF 0, vF 0, .bool false, vF 0, vF 0, vF 0]) rfl Try.isAgg33 Try.sizeOf33 r20.rng rfl rfl rfl) rfl rfl rfl ?_
 have sz3 := (lT (lT (lT (lT m6.size m7.size) m8.size) m9.size) m10.size)
 have r21 := ((((((r7.ext m7).ext m8).mod m9 (nC (lE (lL (lL r5.lt (lT m6.size m7.size)) lR)) nN)).ext m10).ext m11).mod m12 (nC (lE (lL (lL r5.lt sz3) lR)) nN))
 refine WL.det (op_loadA (i := 0) (cs := [.slice none 0 0, .slice none 0 0, .slice none 0 0, vI 0, vF 0, vF 0, vF 0, vF 0, vF 0, .bool false, vF 0, vF 0, vF 0]) rfl Try.isAgg33 Try.sizeOf33 r21.rng rfl rfl rfl) rfl rfl rfl ?_
 refine WL.call (oc_call (vs := [.agg #[.slice none 0 0, .slice none 0 0, .slice none 0 0, vI 0, vF 0, vF 0, vF 0, vF 0, vF 0, .bool false, vF 0, vF 0, vF 0], .agg #[.slice none 0 0, .slice none 0 0, .slice none 0 0, vI 0, vF 0, vF 0, vF 0, vF 0, vF 0, .bool false, vF 0, vF 0, vF 0]]) (cap := []) rfl rfl rfl Try.call28 (c_eqPipe_nil w12)) rfl rfl (ltb rfl) ?_
 rintro _ w13 ⟨rfl, m13⟩
 refine WL.det (op_not rfl) rfl rfl rfl ?_
 refine WL.det (op_move rfl) rfl rfl rfl ?_
 refine WL.yes rfl rfl rfl (ltb rfl) rfl rfl ?_
 refine WL.det (op_move rfl) rfl rfl rfl ?_
 refine WL.yes rfl rfl rfl (ltb rfl) rfl rfl ?_
 refine WL.det (op_move rfl) rfl rfl rfl ?_
 refine WL.yes rfl rfl rfl (ltb rfl) rfl rfl ?_
 refine WL.det (op_nei rfl rfl) rfl rfl rfl ?_
 refine WL.det (op_pick_f rfl rfl rfl) rfl rfl rfl ?_
 refine WL.end (NE.code ?_)
 refine CE.cond_f rfl rfl ?_
 refine CE.skip' (NE.code (CE.seq (CE.seq ?_)))
 refine CE.draw (fun | 2 => some (fun _ wA uA wB => ∃ (bR' : Nat) (PR : List BC) (bL' : Nat) (PL : List BC) (bS' : Nat), uA = .agg #[vS bR' 0 nR nR, vS bL' 0 nL nL, vS bS' 0 nS nS, vI k, vF kc0, vF kc1, vF kc2, vF ks0, vF ks1, .bool op, vF lo, vF re, vF sl] ∧ (PR.length = nR) ∧ (PL.length = nL) ∧ Row wB bR' 0 (olc (esR.map RiR.rd) PR) ∧ Row wB bL' 0 (olc (esL.map RiR.rd) PL) ∧ Row wB bS' 0 (fl xS) ∧ wA.heap.size ≤ bR' ∧ wA.heap.size ≤ bL' ∧ wA.heap.size ≤ bS' ∧ bR' ≠ bL' ∧ bR' ≠ bS' ∧ bL' ≠ bS' ∧ OF wA.heap.size wB (esR.map RiR.rd) PR ∧ (∀ i, i < nR → (PR.getD i BC.d).b ≠ bR') ∧ (∀ i, i < nR → (PR.getD i BC.d).b ≠ bL') ∧ (∀ i, i < nR → (PR.getD i BC.d).b ≠ bS') ∧ (∀ i j, i < nR → j < nL → (PR.getD i BC.d).b ≠ (PL.getD j BC.d).b) ∧ OF wA.heap.size wB (esL.map RiR.rd) PL ∧ (∀ i, i < nL → (PL.getD i BC.d).b ≠ bR') ∧ (∀ i, i < nL → (PL.getD i BC.d).b ≠ bL') ∧ (∀ i, i < nL → (PL.getD i BC.d).b ≠ bS') ∧ Mod [] wA wB) | _ => none) [0, 1, 2] [3, 4] [] (by kernel_rfl) (by kernel_rfl) ?_
 have md1 : Mod [] w13 w13.drew := (Mod.refl _ _).drew
 generalize w13.drew = w14 at md1 ⊢
 refine DR.det (i := 0) rfl rfl (by kernel_rfl) (.free rfl) rfl rfl (fun wD mD => op_loadA (i := 0) (cs := [vS bR'2 0 nR nR, vS bL'2 0 nL nL, vS bS'2 0 nS nS, vI k, vF kc0, vF kc1, vF kc2, vF ks0, vF ks1, .bool op, vF lo, vF re, vF sl]) rfl Try.isAgg33 Try.sizeOf33 ((((((r17.ext m10).ext m11).mod m12 (nC (lE (lL (lL r15.lt (lT m9.size m10.size)) lR)) nN)).ext m13).ext md1).ext mD).rng rfl rfl rfl) ?_
 refine DR.det (i := 1) rfl rfl (by kernel_rfl) (.free rfl) rfl rfl (fun wD mD => op_loadA (i := 0) (cs := [.slice AR nR cR, .slice AL nL cL, .slice AS nS cS, vI k, vF kc0, vF kc1, vF kc2, vF ks0, vF ks1, .bool op, vF lo, vF re, vF sl]) rfl Try.isAgg50 Try.sizeOf50 (((((((((r8.ext m7).ext m8).mod m9 (nC (lE (lL (lL r1.lt (lT (lT (lT sz1 m5.size) m6.size) m7.size)) lR)) nN)).ext m10).ext m11).mod m12 (nC (lE (lL (lL r1.lt (lT (lT (lT (lT (lT (lT sz1 m5.size) m6.size) m7.size) m8.size) m9.size) m10.size)) lR)) nN)).ext m13).ext md1).ext mD).rng rfl rfl rfl) ?_
 refine DR.one (i := 2) rfl rfl (by kernel_rfl) (.free rfl) rfl (ltb rfl) (vs := [.func (.func 26) #[] #[], .agg #[.slice AR nR cR, .slice AL nL cL, .slice AS nS cS, vI k, vF kc0, vF kc1, vF kc2, vF ks0, vF ks1, .bool op, vF lo, vF re, vF sl]]) rfl ?_
 intro w15 m14
 refine ⟨oc_call (vs := [.agg #[.slice AR nR cR, .slice AL nL cL, .slice AS nS cS, vI k, vF kc0, vF kc1, vF kc2, vF ks0, vF ks1, .bool op, vF lo, vF re, vF sl]]) (cap := []) rfl rfl rfl Try.call26 (c_toPipe nR cR AR bR oR esR nL cL AL bL oL esL nS cS AS bS oS xS k kc0 kc1 kc2 ks0 ks1 op lo re sl lnR hAR lnL hAL lnS hAS mR mL mS hzR hzL w15 ((((Rng.youngS rR (((Rng.youngS rR ((r9.ext m7).ext m8) m9 (allge_cons (lT (lT (lT (lT sz2 m5.size) m6.size) m7.size) lR) allge_nil)).ext m10).ext m11) m12 (allge_cons (lT (lT (lT (lT (lT (lT (lT sz2 m5.size) m6.size) m7.size) m8.size) m9.size) m10.size) lR) allge_nil)).ext m13).ext md1).ext m14) ((((Rng.youngS rL (((Rng.youngS rL ((r10.ext m7).ext m8) m9 (allge_cons (lT (lT (lT (lT sz2 m5.size) m6.size) m7.size) lR) allge_nil)).ext m10).ext m11) m12 (allge_cons (lT (lT (lT (lT (lT (lT (lT sz2 m5.size) m6.size) m7.size) m8.size) m9.size) m10.size) lR) allge_nil)).ext m13).ext md1).ext m14) ((((Rng.youngS rS (((Rng.youngS rS ((r11.ext m7).ext m8) m9 (allge_cons (lT (lT (lT (lT sz2 m5.size) m6.size) m7.size) lR) allge_nil)).ext m10).ext m11) m12 (allge_cons (lT (lT (lT (lT (lT (lT (lT sz2 m5.size) m6.size) m7.size) m8.size) m9.size) m10.size) lR) allge_nil)).ext m13).ext md1).ext m14) ((((InF.mod hFesR (((InF.mod hFesR (((InF.mod hFesR (((((hFesR.ext m1).ext m2).ext m3).ext m4).ext m5) m6 (allge_cons (lT sz2 lR) allge_nil)).ext m7).ext m8) m9 (allge_cons (lT (lT (lT (lT sz2 m5.size) m6.size) m7.size) lR) allge_nil)).ext m10).ext m11) m12 (allge_cons (lT (lT (lT (lT (lT (lT (lT sz2 m5.size) m6.size) m7.size) m8.size) m9.size) m10.size) lR) allge_nil)).ext m13).ext md1).ext m14) ((((InF.mod hFesL (((InF.mod hFesL (((InF.mod hFesL (((((hFesL.ext m1).ext m2).ext m3).ext m4).ext m5) m6 (allge_cons (lT sz2 lR) allge_nil)).ext m7).ext m8) m9 (allge_cons (lT (lT (lT (lT sz2 m5.size) m6.size) m7.size) lR) allge_nil)).ext m10).ext m11) m12 (allge_cons (lT (lT (lT (lT (lT (lT (lT sz2 m5.size) m6.size) m7.size) m8.size) m9.size) m10.size) lR) allge_nil)).ext m13).ext md1).ext m14)), ?_⟩
 rintro _ w16 ⟨bR'3, PR3, bL'3, PL3, bS'3, rfl, h5, h6, r22, r23, r24, ge7, ge8, ge9, ne7, ne8, ne9, fm5, fn15, fn16, fn17, fn18, fm6, fn19, fn20, fn21, m15⟩
 refine ⟨(((Mod.refl [] w14).nt m14).nt m15), ?_⟩
 refine DR.done rfl ?_
 intro w17 m16
 have sz4 := (lT (lT m8.size m9.size) m10.size)
 have r25 := ((((((((((r12.ext m8).mod m9 (nC (lE (lL r12.lt lR)) nN)).ext m10).ext m11).mod m12 (nC (lE (lL (lL r12.lt sz4) lR)) nN)).ext m13).ext md1).ext m14).ext m15).ext m16)
 have r26 := ((((((((((r13.ext m8).mod m9 (nC (lE (lL r13.lt lR)) nN)).ext m10).ext m11).mod m12 (nC (lE (lL (lL r13.lt sz4) lR)) nN)).ext m13).ext md1).ext m14).ext m15).ext m16)
 have r27 := ((((((((((r14.ext m8).mod m9 (nC (lE (lL r14.lt lR)) nN)).ext m10).ext m11).mod m12 (nC (lE (lL (lL r14.lt sz4) lR)) nN)).ext m13).ext md1).ext m14).ext m15).ext m16)
 refine WO.call rfl (.free rfl) rfl (ltb rfl) (oc_call (vs := [.agg #[vS bR'2 0 nR nR, vS bL'2 0 nL nL, vS bS'2 0 nS nS, vI k, vF kc0, vF kc1, vF kc2, vF ks0, vF ks1, .bool op, vF lo, vF re, vF sl], .agg #[vS bR'3 0 nR nR, vS bL'3 0 nL nL, vS bS'3 0 nS nS, vI k, vF kc0, vF kc1, vF kc2, vF ks0, vF ks1, .bool op, vF lo, vF re, vF sl]]) (cap := []) rfl rfl rfl Try.call28 (c_eqPipe nR (esR.map RiR.rd) nL (esL.map RiR.rd) nS xS nR bR'2 PR2 w6.heap.size nL bL'2 PL2 w6.heap.size nS bS'2 nR bR'3 PR3 w15.heap.size nL bL'3 PL3 w15.heap.size nS bS'3 k kc0 kc1 kc2 ks0 ks1 op lo re sl (rd_len lnR) (rd_len lnL) lnS (rd_small hFesR hzR) (rd_small hFesL hzL) mR mL mS h3 h4 h5 h6 w17 r25.rng r26.rng r27.rng (r22.ext m16).rng (r23.ext m16).rng (r24.ext m16).rng ((((((((((fm3.ext m8).mod m9 (fun j hj => (nC (lE (lL (OF.lt fm3 (Nat.lt_of_lt_of_eq (Nat.lt_of_lt_of_eq hj (rd_len lnR)) (rd_len lnR).symm)) lR)) nN))).ext m10).ext m11).mod m12 (fun j hj => (nC (lE (lL (OF.lt fm3 (Nat.lt_of_lt_of_eq (Nat.lt_of_lt_of_eq hj (rd_len lnR)) (rd_len lnR).symm)) (lT sz4 lR))) nN))).ext m13).ext md1).ext m14).ext m15).ext m16) ((((((((((fm4.ext m8).mod m9 (fun j hj => (nC (lE (lL (OF.lt fm4 (Nat.lt_of_lt_of_eq (Nat.lt_of_lt_of_eq hj (rd_len lnL)) (rd_len lnL).symm)) lR)) nN))).ext m10).ext m11).mod m12 (fun j hj => (nC (lE (lL (OF.lt fm4 (Nat.lt_of_lt_of_eq (Nat.lt_of_lt_of_eq hj (rd_len lnL)) (rd_len lnL).symm)) (lT sz4 lR))) nN))).ext m13).ext md1).ext m14).ext m15).ext m16) (fm5.ext m16) (fm6.ext m16))) ?_
 rintro _ w18 ⟨rfl, m17⟩
 refine WO.det (op_not rfl) rfl (.free rfl) rfl rfl ?_
 refine WO.end (NE.code ?_)
 refine CE.cond_f rfl rfl ?_
 refine CE.skip' (NE.code (CE.seq (CE.region ?_)))
 refine WL.det (op_assign rfl) rfl rfl rfl ?_
 refine WL.end (NE.code (CE.seq (CE.region ?_)))
 have r28 := (((((((((r17.ext m10).ext m11).mod m12 (nC (lE (lL (lL r15.lt (lT m9.size m10.size)) lR)) nN)).ext m13).ext md1).ext m14).ext m15).ext m16).ext m17)
 refine WL.det (op_loadA (i := 0) (cs := [vS bR'2 0 nR nR, vS bL'2 0 nL nL, vS bS'2 0 nS nS, vI k, vF kc0, vF kc1, vF kc2, vF ks0, vF ks1, .bool op, vF lo, vF re, vF sl]) rfl Try.isAgg33 Try.sizeOf33 r28.rng rfl rfl rfl) rfl rfl rfl ?_
 refine WL.det (op_move rfl) rfl rfl rfl ?_
 refine WL.call (oc_call (vs := [.agg #[vS bR'2 0 nR nR, vS bL'2 0 nL nL, vS bS'2 0 nS nS, vI k, vF kc0, vF kc1, vF kc2, vF ks0, vF ks1, .bool op, vF lo, vF re, vF sl], vI 1]) (cap := []) rfl rfl rfl Try.call29 (c_markPipe_x nR (esR.map RiR.rd) nL (esL.map RiR.rd) nS xS nR bR'2 PR2 w6.heap.size nL bL'2 PL2 w6.heap.size nS bS'2 k kc0 kc1 kc2 ks0 ks1 op lo re sl 1 (rd_len lnR) (rd_len lnL) lnS (rd_small hFesR hzR) (rd_small hFesL hzL) h3 h4 nR_3 nL_3 mS (by first | decide | omega) w18 (r25.ext m17) (r26.ext m17) (r27.ext m17) ne4 ne5 ne6 (((((((((((fm3.ext m8).mod m9 (fun j hj => (nC (lE (lL (OF.lt fm3 (Nat.lt_of_lt_of_eq (Nat.lt_of_lt_of_eq hj (rd_len lnR)) (rd_len lnR).symm)) lR)) nN))).ext m10).ext m11).mod m12 (fun j hj => (nC (lE (lL (OF.lt fm3 (Nat.lt_of_lt_of_eq (Nat.lt_of_lt_of_eq hj (rd_len lnR)) (rd_len lnR).symm)) (lT sz4 lR))) nN))).ext m13).ext md1).ext m14).ext m15).ext m16).ext m17) (fun j hj => (fn8 j hj)) (fun j hj => (fn9 j hj)) (fun j hj => (fn10 j hj)) (fun j q hj hq => (fn11 j q hj hq)) (((((((((((fm4.ext m8).mod m9 (fun j hj => (nC (lE (lL (OF.lt fm4 (Nat.lt_of_lt_of_eq (Nat.lt_of_lt_of_eq hj (rd_len lnL)) (rd_len lnL).symm)) lR)) nN))).ext m10).ext m11).mod m12 (fun j hj => (nC (lE (lL (OF.lt fm4 (Nat.lt_of_lt_of_eq (Nat.lt_of_lt_of_eq hj (rd_len lnL)) (rd_len lnL).symm)) (lT sz4 lR))) nN))).ext m13).ext md1).ext m14).ext m15).ext m16).ext m17) (fun j hj => (fn12 j hj)) (fun j hj => (fn13 j hj)) (fun j hj => (fn14 j hj)))) rfl rfl (ltb rfl) ?_
 rintro _ w19 ⟨rfl, r29, r30, r31, fm7, fm8, m18⟩
 refine WL.det (op_assign rfl) rfl rfl rfl ?_
 refine WL.end (NE.code (CE.seq (CE.seq (CE.region ?_))))
 refine WL.det (op_move rfl) rfl rfl rfl ?_
 refine WL.det (op_lti_f rfl rfl (Int.not_lt.2 (Int.natCast_nonneg _))) rfl rfl rfl ?_
 refine WL.det (op_move rfl) rfl rfl rfl ?_
 have r32 := (((((((r20.ext m13).ext md1).ext m14).ext m15).ext m16).ext m17).mod m18 (nC (lG (lL (lL r12.lt sz4) lR)) (nC (lG (lL (lL r13.lt sz4) lR)) (nC (lG (lL (lL r14.lt sz4) lR)) (nA h3 (fun j hj => (lE (lL (OF.lt fm3 (Nat.lt_of_lt_of_eq hj (rd_len lnR).symm)) (lT sz4 lR)))) (nA h4 (fun j hj => (lE (lL (OF.lt fm4 (Nat.lt_of_lt_of_eq hj (rd_len lnL).symm)) (lT sz4 lR)))) nN))))))
 refine WL.yes rfl rfl rfl (ltb rfl) rfl rfl ?_
 refine WL.det (op_loadA (i := 0) (cs := [.slice none 0 0, .slice none 0 0, .slice none 0 0, vI 0, vF 0, vF 0, vF 0, vF 0, vF 0, .bool false, vF 0, vF 0, vF 0]) rfl Try.isAgg33 Try.sizeOf33 r32.rng rfl rfl rfl) rfl rfl rfl ?_
 have r33 := (((((((r21.ext m13).ext md1).ext m14).ext m15).ext m16).ext m17).mod m18 (nC (lE (lL (lL r5.lt m6.size) ge4)) (nC (lE (lL (lL r5.lt m6.size) ge5)) (nC (lE (lL (lL r5.lt m6.size) ge6)) (nA h3 (fun j hj => (lG (lL (lL r5.lt m6.size) (fm7.ge j (Nat.lt_of_lt_of_eq hj (markD_len (rd_len lnR) nR).symm))))) (nA h4 (fun j hj => (lG (lL (lL r5.lt m6.size) (fm8.ge j (Nat.lt_of_lt_of_eq hj (markD_len (rd_len lnL) nL).symm))))) nN))))))
 refine WL.yes rfl rfl rfl (ltb rfl) rfl rfl ?_
 refine WL.det (op_loadA (i := 0) (cs := [.slice none 0 0, .slice none 0 0, .slice none 0 0, vI 0, vF 0, vF 0, vF 0, vF 0, vF 0, .bool false, vF 0, vF 0, vF 0]) rfl Try.isAgg33 Try.sizeOf33 r33.rng rfl rfl rfl) rfl rfl rfl ?_
 refine WL.yes rfl rfl rfl (ltb rfl) rfl rfl ?_
 refine WL.call (oc_call (vs := [.agg #[.slice none 0 0, .slice none 0 0, .slice none 0 0, vI 0, vF 0, vF 0, vF 0, vF 0, vF 0, .bool false, vF 0, vF 0, vF 0], .agg #[.slice none 0 0, .slice none 0 0, .slice none 0 0, vI 0, vF 0, vF 0, vF 0, vF 0, vF 0, .bool false, vF 0, vF 0, vF 0]]) (cap := []) rfl rfl rfl Try.call28 (c_eqPipe_nil w19)) rfl rfl (ltb rfl) ?_
 rintro _ w20 ⟨rfl, m19⟩
 refine WL.yes rfl rfl rfl (ltb rfl) rfl rfl ?_
 refine WL.det (op_not rfl) rfl rfl rfl ?_
 refine WL.det (op_pick_f rfl rfl rfl) rfl rfl rfl ?_
 refine WL.det (op_move rfl) rfl rfl rfl ?_
 refine WL.yes rfl rfl rfl (ltb rfl) rfl rfl ?_
 refine WL.det (op_move rfl) rfl rfl rfl ?_
 refine WL.yes rfl rfl rfl (ltb rfl) rfl rfl ?_
 refine WL.det (op_move rfl) rfl rfl rfl ?_
 refine WL.yes rfl rfl rfl (ltb rfl) rfl rfl ?_
 refine WL.det (op_nei rfl rfl) rfl rfl rfl ?_
 refine WL.det (op_pick_f rfl rfl rfl) rfl rfl rfl ?_
 refine WL.end (NE.code ?_)
 refine CE.cond_f rfl rfl ?_
 refine CE.skip' (NE.code (CE.seq (CE.region ?_)))
 refine WL.det (op_assign rfl) rfl rfl rfl ?_
 refine WL.end (NE.code (CE.seq (CE.region ?_)))
 refine WL.det (op_loadA (i := 0) (cs := [.slice none 0 0, .slice none 0 0, .slice none 0 0, vI 0, vF 0, vF 0, vF 0, vF 0, vF 0, .bool false, vF 0, vF 0, vF 0]) rfl Try.isAgg33 Try.sizeOf33 (r32.ext m19).rng rfl rfl rfl) rfl rfl rfl ?_
 refine WL.det (op_move rfl) rfl rfl rfl ?_
 refine WL.call (oc_call (vs := [.agg #[.slice none 0 0, .slice none 0 0, .slice none 0 0, vI 0, vF 0, vF 0, vF 0, vF 0, vF 0, .bool false, vF 0, vF 0, vF 0], vI 1]) (cap := []) rfl rfl rfl Try.call29 (c_markPipe_nil 1 (by omega) w20)) rfl rfl (ltb rfl) ?_
 rintro _ w21 ⟨rfl, m20⟩
 refine WL.det (op_assign rfl) rfl rfl rfl ?_
 refine WL.end (NE.code (CE.seq (CE.region ?_)))
 refine WL.det (op_assign rfl) rfl rfl rfl ?_
 refine WL.end (NE.code (CE.seq (CE.region ?_)))
 refine WL.det (op_loadA (i := 0) (cs := [.slice none 0 0, .slice none 0 0, .slice none 0 0, vI 0, vF 0, vF 0, vF 0, vF 0, vF 0, .bool false, vF 0, vF 0, vF 0]) rfl Try.isAgg33 Try.sizeOf33 ((r32.ext m19).ext m20).rng rfl rfl rfl) rfl rfl rfl ?_
 refine WL.det (op_move rfl) rfl rfl rfl ?_
 refine WL.call (oc_call (vs := [.agg #[.slice none 0 0, .slice none 0 0, .slice none 0 0, vI 0, vF 0, vF 0, vF 0, vF 0, vF 0, .bool false, vF 0, vF 0, vF 0], vI 1]) (cap := []) rfl rfl rfl Try.call30 (c_heldPipe_nil 1 (by omega) w21)) rfl rfl (ltb rfl) ?_
 rintro _ w22 ⟨rfl, m21⟩
 refine WL.det (op_assign rfl) rfl rfl rfl ?_
 refine WL.end (NE.code (CE.seq (CE.seq (CE.region ?_))))
 refine WL.det (op_move rfl) rfl rfl rfl ?_
 refine WL.det (op_lti rfl rfl) rfl rfl rfl ?_
 refine WL.end (NE.code ?_)
 refine CE.cond_f rfl rfl ?_
 refine CE.skip' (NE.code (CE.seq (CE.seq (CE.region ?_))))
 iterate 2 refine WL.det (op_move rfl) rfl rfl rfl ?_
 refine WL.det (op_nei rfl rfl) rfl rfl rfl ?_
 refine WL.end (NE.code ?_)
 refine CE.cond_f rfl rfl ?_
 refine CE.skip' (NE.code (CE.seq (CE.region ?_)))
 have sz5 := (lT (lT (lT sz1 m5.size) m6.size) m7.size)
 have sz6 := (lT (lT (lT sz5 m8.size) m9.size) m10.size)
 have sz7 := (lT (lT sz1 m5.size) m6.size)
 have r34 := ((((((((((((((((r8.ext m7).ext m8).mod m9 (nC (lE (lL (lL r1.lt sz5) lR)) nN)).ext m10).ext m11).mod m12 (nC (lE (lL (lL r1.lt sz6) lR)) nN)).ext m13).ext md1).ext m14).ext m15).ext m16).ext m17).mod m18 (nC (lE (lL (lL r1.lt sz7) ge4)) (nC (lE (lL (lL r1.lt sz7) ge5)) (nC (lE (lL (lL r1.lt sz7) ge6)) (nA h3 (fun j hj => (lG (lL (lL r1.lt sz7) (fm7.ge j (Nat.lt_of_lt_of_eq hj (markD_len (rd_len lnR) nR).symm))))) (nA h4 (fun j hj => (lG (lL (lL r1.lt sz7) (fm8.ge j (Nat.lt_of_lt_of_eq hj (markD_len (rd_len lnL) nL).symm))))) nN)))))).ext m19).ext m20).ext m21)
 refine WL.det (op_loadA (i := 0) (cs := [.slice AR nR cR, .slice AL nL cL, .slice AS nS cS, vI k, vF kc0, vF kc1, vF kc2, vF ks0, vF ks1, .bool op, vF lo, vF re, vF sl]) rfl Try.isAgg50 Try.sizeOf50 r34.rng rfl rfl rfl) rfl rfl rfl ?_
 have sz8 := (lT (lT (lT sz2 m5.size) m6.size) m7.size)
 have sz9 := (lT (lT (lT sz8 m8.size) m9.size) m10.size)
 have sz10 := (lT (lT sz2 m5.size) m6.size)
 have r35 := ((((Rng.youngS rR (((((((Rng.youngS rR (((Rng.youngS rR ((r9.ext m7).ext m8) m9 (allge_cons (lT sz8 lR) allge_nil)).ext m10).ext m11) m12 (allge_cons (lT sz9 lR) allge_nil)).ext m13).ext md1).ext m14).ext m15).ext m16).ext m17) m18 (allge_cons (lT sz10 ge4) (allge_cons (lT sz10 ge5) (allge_cons (lT sz10 ge6) (gA h3 (fun j hj => (lT sz10 (fm7.ge j (Nat.lt_of_lt_of_eq hj (markD_len (rd_len lnR) nR).symm)))) (gA h4 (fun j hj => (lT sz10 (fm8.ge j (Nat.lt_of_lt_of_eq hj (markD_len (rd_len lnL) nL).symm)))) allge_nil)))))).ext m19).ext m20).ext m21)
 have r36 := ((((Rng.youngS rL (((((((Rng.youngS rL (((Rng.youngS rL ((r10.ext m7).ext m8) m9 (allge_cons (lT sz8 lR) allge_nil)).ext m10).ext m11) m12 (allge_cons (lT sz9 lR) allge_nil)).ext m13).ext md1).ext m14).ext m15).ext m16).ext m17) m18 (allge_cons (lT sz10 ge4) (allge_cons (lT sz10 ge5) (allge_cons (lT sz10 ge6) (gA h3 (fun j hj => (lT sz10 (fm7.ge j (Nat.lt_of_lt_of_eq hj (markD_len (rd_len lnR) nR).symm)))) (gA h4 (fun j hj => (lT sz10 (fm8.ge j (Nat.lt_of_lt_of_eq hj (markD_len (rd_len lnL) nL).symm)))) allge_nil)))))).ext m19).ext m20).ext m21)
 have r37 := ((((Rng.youngS rS (((((((Rng.youngS rS (((Rng.youngS rS ((r11.ext m7).ext m8) m9 (allge_cons (lT sz8 lR) allge_nil)).ext m10).ext m11) m12 (allge_cons (lT sz9 lR) allge_nil)).ext m13).ext md1).ext m14).ext m15).ext m16).ext m17) m18 (allge_cons (lT sz10 ge4) (allge_cons (lT sz10 ge5) (allge_cons (lT sz10 ge6) (gA h3 (fun j hj => (lT sz10 (fm7.ge j (Nat.lt_of_lt_of_eq hj (markD_len (rd_len lnR) nR).symm)))) (gA h4 (fun j hj => (lT sz10 (fm8.ge j (Nat.lt_of_lt_of_eq hj (markD_len (rd_len lnL) nL).symm)))) allge_nil)))))).ext m19).ext m20).ext m21)
 refine WL.call (oc_call (vs := [.agg #[.slice AR nR cR, .slice AL nL cL, .slice AS nS cS, vI k, vF kc0, vF kc1, vF kc2, vF ks0, vF ks1, .bool op, vF lo, vF re, vF sl]]) (cap := []) rfl rfl rfl Try.call26 (c_toPipe nR cR AR bR oR esR nL cL AL bL oL esL nS cS AS bS oS xS k kc0 kc1 kc2 ks0 ks1 op lo re sl lnR hAR lnL hAL lnS hAS mR mL mS hzR hzL w22 r35 r36 r37 ((((InF.mod hFesR (((((((InF.mod hFesR (((InF.mod hFesR (((InF.mod hFesR (((((hFesR.ext m1).ext m2).ext m3).ext m4).ext m5) m6 (allge_cons (lT sz2 lR) allge_nil)).ext m7).ext m8) m9 (allge_cons (lT sz8 lR) allge_nil)).ext m10).ext m11) m12 (allge_cons (lT sz9 lR) allge_nil)).ext m13).ext md1).ext m14).ext m15).ext m16).ext m17) m18 (allge_cons (lT sz10 ge4) (allge_cons (lT sz10 ge5) (allge_cons (lT sz10 ge6) (gA h3 (fun j hj => (lT sz10 (fm7.ge j (Nat.lt_of_lt_of_eq hj (markD_len (rd_len lnR) nR).symm)))) (gA h4 (fun j hj => (lT sz10 (fm8.ge j (Nat.lt_of_lt_of_eq hj (markD_len (rd_len lnL) nL).symm)))) allge_nil)))))).ext m19).ext m20).ext m21) ((((InF.mod hFesL (((((((InF.mod hFesL (((InF.mod hFesL (((InF.mod hFesL (((((hFesL.ext m1).ext m2).ext m3).ext m4).ext m5) m6 (allge_cons (lT sz2 lR) allge_nil)).ext m7).ext m8) m9 (allge_cons (lT sz8 lR) allge_nil)).ext m10).ext m11) m12 (allge_cons (lT sz9 lR) allge_nil)).ext m13).ext md1).ext m14).ext m15).ext m16).ext m17) m18 (allge_cons (lT sz10 ge4) (allge_cons (lT sz10 ge5) (allge_cons (lT sz10 ge6) (gA h3 (fun j hj => (lT sz10 (fm7.ge j (Nat.lt_of_lt_of_eq hj (markD_len (rd_len lnR) nR).symm)))) (gA h4 (fun j hj => (lT sz10 (fm8.ge j (Nat.lt_of_lt_of_eq hj (markD_len (rd_len lnL) nL).symm)))) allge_nil)))))).ext m19).ext m20).ext m21))) rfl rfl (ltb rfl) ?_
 rintro _ w23 ⟨bR'4, PR4, bL'4, PL4, bS'4, rfl, h7, h8, r38, r39, r40, ge10, ge11, ge12, ne10, ne11, ne12, fm9, fn22, fn23, fn24, fn25, fm10, fn26, fn27, fn28, m22⟩
 iterate 3 refine WL.det (op_move rfl) rfl rfl rfl ?_
 refine WL.call (oc_call (vs := [.agg #[vS bR'4 0 nR nR, vS bL'4 0 nL nL, vS bS'4 0 nS nS, vI k, vF kc0, vF kc1, vF kc2, vF ks0, vF ks1, .bool op, vF lo, vF re, vF sl], vI m, vI pl, vF a]) (cap := []) rfl rfl rfl Try.call35 (c_iPulseS_no nR (esR.map RiR.rd) nL (esL.map RiR.rd) nS xS nR bR'4 PR4 w22.heap.size nL bL'4 PL4 w22.heap.size nS bS'4 k kc0 kc1 kc2 ks0 ks1 op lo re sl m pl a (rd_len lnR) (rd_len lnL) lnS (rd_small hFesR hzR) (rd_small hFesL hzL) h7 h8 mR mL mS hs hv hf la (by first | assumption | omega) w23 r38.rng r39.rng r40.rng fm9 fm10)) rfl rfl (ltb rfl) ?_
 rintro _ w24 ⟨rfl, m23⟩
 refine WL.det (op_move rfl) rfl rfl rfl ?_
 iterate 2 refine WL.det (op_extract rfl rfl) rfl rfl rfl ?_
 refine WL.op (op_alloc (cs := [.slice none 0 0, .slice none 0 0, .slice none 0 0, vI 0, vF 0, vF 0, vF 0, vF 0, vF 0, .bool false, vF 0, vF 0, vF 0]) Try.zeroValue33 rfl) rfl rfl (ltb rfl) ?_
 rintro _ w25 ⟨rfl, r41, m24, z8⟩
 refine WL.op0 (op_store (i := 0) (cs := [.slice none 0 0, .slice none 0 0, .slice none 0 0, vI 0, vF 0, vF 0, vF 0, vF 0, vF 0, .bool false, vF 0, vF 0, vF 0]) rfl rfl rfl Try.sizeOf33 rfl r41 rfl (lB rfl) rfl) rfl rfl ?_
 rintro _ w26 ⟨r42, m25, z9⟩
 have r43 : Row w26 w24.heap.size 0 [.slice none 0 0, .slice none 0 0, .slice none 0 0, vI 0, vF 0, vF 0, vF 0, vF 0, vF 0, .bool false, vF 0, vF 0, vF 0] := Row.congr r42 rfl
 refine WL.det (op_assign rfl) rfl rfl rfl ?_
 refine WL.end (NE.code (CE.seq (CE.seq (CE.region ?_))))
 refine WL.det (op_loadA (i := 0) (cs := [.slice none 0 0, .slice none 0 0, .slice none 0 0, vI 0, vF 0, vF 0, vF 0, vF 0, vF 0, .bool false, vF 0, vF 0, vF 0]) rfl Try.isAgg33 Try.sizeOf33 r43.rng rfl rfl rfl) rfl rfl rfl ?_
 have sz11 := (lT (lT (lT (lT (lT (lT (lT (lT (lT (lT (lT (lT (lT (lT sz3 m11.size) m12.size) m13.size) md1.size) m14.size) m15.size) m16.size) m17.size) m18.size) m19.size) m20.size) m21.size) m22.size) m23.size)
 have r44 := (((((((r33.ext m19).ext m20).ext m21).ext m22).ext m23).ext m24).mod m25 (nC (lE (lL (lL r5.lt sz11) lR)) nN))
 refine WL.det (op_loadA (i := 0) (cs := [.slice none 0 0, .slice none 0 0, .slice none 0 0, vI 0, vF 0, vF 0, vF 0, vF 0, vF 0, .bool false, vF 0, vF 0, vF 0]) rfl Try.isAgg33 Try.sizeOf33 r44.rng rfl rfl rfl) rfl rfl rfl ?_
 refine WL.call (oc_call (vs := [.agg #[.slice none 0 0, .slice none 0 0, .slice none 0 0, vI 0, vF 0, vF 0, vF 0, vF 0, vF 0, .bool false, vF 0, vF 0, vF 0], .agg #[.slice none 0 0, .slice none 0 0, .slice none 0 0, vI 0, vF 0, vF 0, vF 0, vF 0, vF 0, .bool false, vF 0, vF 0, vF 0]]) (cap := []) rfl rfl rfl Try.call28 (c_eqPipe_nil w26)) rfl rfl (ltb rfl) ?_
 rintro _ w27 ⟨rfl, m26⟩
 refine WL.det (op_not rfl) rfl rfl rfl ?_
 refine WL.det (op_move rfl) rfl rfl rfl ?_
 refine WL.yes rfl rfl rfl (ltb rfl) rfl rfl ?_
 refine WL.det (op_move rfl) rfl rfl rfl ?_
 refine WL.yes rfl rfl rfl (ltb rfl) rfl rfl ?_
 refine WL.det (op_move rfl) rfl rfl rfl ?_
 refine WL.yes rfl rfl rfl (ltb rfl) rfl rfl ?_
 refine WL.det (op_nei rfl rfl) rfl rfl rfl ?_
 refine WL.det (op_pick_f rfl rfl rfl) rfl rfl rfl ?_
 refine WL.end (NE.code ?_)
 refine CE.cond_f rfl rfl ?_
 refine CE.skip' (NE.code (CE.seq (CE.region ?_)))
 refine WL.det (op_assign rfl) rfl rfl rfl ?_
 refine WL.end (NE.code (CE.seq (CE.region ?_)))
 have sz12 := (lT (lT (lT (lT (lT (lT (lT (lT (lT (lT (lT (lT m12.size m13.size) md1.size) m14.size) m15.size) m16.size) m17.size) m18.size) m19.size) m20.size) m21.size) m22.size) m23.size)
 have r45 := ((((((((r32.ext m19).ext m20).ext m21).ext m22).ext m23).ext m24).mod m25 (nC (lE (lL (lL r18.lt sz12) lR)) nN)).ext m26)
 refine WL.det (op_loadA (i := 0) (cs := [.slice none 0 0, .slice none 0 0, .slice none 0 0, vI 0, vF 0, vF 0, vF 0, vF 0, vF 0, .bool false, vF 0, vF 0, vF 0]) rfl Try.isAgg33 Try.sizeOf33 r45.rng rfl rfl rfl) rfl rfl rfl ?_
 refine WL.det (op_move rfl) rfl rfl rfl ?_
 refine WL.call (oc_call (vs := [.agg #[.slice none 0 0, .slice none 0 0, .slice none 0 0, vI 0, vF 0, vF 0, vF 0, vF 0, vF 0, .bool false, vF 0, vF 0, vF 0], vI 1]) (cap := []) rfl rfl rfl Try.call30 (c_heldPipe_nil 1 (by omega) w27)) rfl rfl (ltb rfl) ?_
 rintro _ w28 ⟨rfl, m27⟩
 refine WL.det (op_assign rfl) rfl rfl rfl ?_
 refine WL.end (NE.code (CE.seq (CE.seq (CE.region ?_))))
 refine WL.det (op_move rfl) rfl rfl rfl ?_
 refine WL.det (op_lti rfl rfl) rfl rfl rfl ?_
 refine WL.end (NE.code ?_)
 refine CE.cond_f rfl rfl ?_
 refine CE.skip' (NE.code (CE.seq (CE.seq (CE.region ?_))))
 iterate 2 refine WL.det (op_move rfl) rfl rfl rfl ?_
 refine WL.det (op_nei rfl rfl) rfl rfl rfl ?_
 refine WL.end (NE.code ?_)
 refine CE.cond_f rfl rfl ?_
 refine CE.skip' (NE.code (CE.seq (CE.region ?_)))
 refine WL.det (op_assign rfl) rfl rfl rfl ?_
 refine WL.end (NE.code (CE.ret' ?_))
 refine XE.leave1 Try.results8 rfl ?_
 have sz13 := (lT (lT (lT (lT (lT (lT (lT (lT (lT (lT (lT (lT (lT (lT sz9 m11.size) m12.size) m13.size) md1.size) m14.size) m15.size) m16.size) m17.size) m18.size) m19.size) m20.size) m21.size) m22.size) m23.size)
 refine ⟨rfl, (((((((((((((((((((((((((((((Mod.refl [] w).nt m1).nt m2).nt m3).nt m4).nt m5).then m6 ((aC (.inr (lT sz2 lR)) aN))).nt m7).nt m8).then m9 ((aC (.inr (lT sz8 lR)) aN))).nt m10).nt m11).then m12 ((aC (.inr (lT sz9 lR)) aN))).nt m13).nt md1).nt m14).nt m15).nt m16).nt m17).then m18 ((aC (.inr (lT sz10 ge4)) (aC (.inr (lT sz10 ge5)) (aC (.inr (lT sz10 ge6)) (aA h3 (fun j hj => (lT sz10 (fm7.ge j (Nat.lt_of_lt_of_eq hj (markD_len (rd_len lnR) nR).symm)))) (aA h4 (fun j hj => (lT sz10 (fm8.ge j (Nat.lt_of_lt_of_eq hj (markD_len (rd_len lnL) nL).symm)))) aN))))))).nt m19).nt m20).nt m21).nt m22).nt m23).nt m24).then m25 ((aC (.inr (lT sz13 lR)) aN))).nt m26).nt m27)⟩

theorem law_pulse_inf (nR : Nat) (cR : Nat) (AR : Option Addr) (bR : Nat) (oR : Nat) (esR : List RiR) (nL : Nat) (cL : Nat) (AL : Option Addr) (bL : Nat) (oL : Nat) (esL : List RiR) (nS : Nat) (cS : Nat) (AS : Option Addr) (bS : Nat) (oS : Nat) (xS : List Nat) (k : Int) (kc0 : Nat) (kc1 : Nat) (kc2 : Nat) (ks0 : Nat) (ks1 : Nat) (op : Bool) (lo : Nat) (re : Nat) (sl : Nat) (m : Nat) (pl : Nat) (a : Nat) (aR : Nat) (aL : Nat) (lnR : esR.length = nR) (hAR : 0 < nR → AR = some ⟨bR, oR, none⟩) (lnL : esL.length = nL) (hAL : 0 < nL → AL = some ⟨bL, oL, none⟩) (lnS : xS.length = nS) (hAS : 0 < nS → AS = some ⟨bS, oS, none⟩) (hT : nR + sumR esR nR + (nL + sumR esL nL) + nS ≤ 1048576) (mR : nR ≤ 1048576) (mL : nL ≤ 1048576) (mS : nS ≤ 1048576) (hzR : ∀ i, (esR.getD i RiR.d).n ≤ 1048576) (hzL : ∀ i, (esL.getD i RiR.d).n ≤ 1048576) (hs : 1 ≤ nR ∧ nR ≤ 3 ∧ nL = nR ∧ nS + 1 = nR) (nR_3 : nR ≤ 3) (nL_3 : nL ≤ 3) (hv : vPipe nR nL nS (esR.map RiR.rd) (esL.map RiR.rd) xS k kc0 kc1 kc2 ks0 ks1 lo re sl = true) (hf : finF a = false) (hm : m < nR) (hpl : pl < ((esR.map RiR.rd).getD m RD.d).xs.length) (heR : ((esR.map RiR.rd).getD m RD.d).at_ = ((aR : Nat) : Int)) (heL : ((esL.map RiR.rd).getD m RD.d).at_ = ((aL : Nat) : Int)) (hlR : aR < ((esR.map RiR.rd).getD m RD.d).xs.length) (hlL : aL < ((esL.map RiR.rd).getD m RD.d).xs.length) (hll : ((esR.map RiR.rd).getD m RD.d).xs.length = ((esL.map RiR.rd).getD m RD.d).xs.length) (wR : W32 ((esR.map RiR.rd).getD m RD.d).xs) (wL : W32 ((esL.map RiR.rd).getD m RD.d).xs) (la : a < wid .f32) (w : World) (rR : Rng w bR oR (cat RiR.cells esR)) (rL : Rng w bL oL (cat RiR.cells esL)) (rS : Rng w bS oS (fl xS)) (hFesR : InF w esR) (hFesL : InF w esL) : Cl Try.prog 8 #[.agg #[.slice AR nR cR, .slice AL nL cL, .slice AS nS cS, vI k, vF kc0, vF kc1, vF kc2, vF ks0, vF ks1, .bool op, vF lo, vF re, vF sl], vI ((m : Nat) : Int), vI ((pl : Nat) : Int), vF a] w fun v w' => v = .bool true ∧ Mod [] w w' := by
 refine Cl.of Try.func8 Try.ntmps8 rfl rfl (ρ := [(0, .agg #[.slice AR nR cR, .slice AL nL cL, .slice AS nS cS, vI k, vF kc0, vF kc1, vF kc2, vF ks0, vF ks1, .bool op, vF lo, vF re, vF sl]), (1, vI ((m : Nat) : Int)), (2, vI ((pl : Nat) : Int)), (3, vF a)]) rfl ?_
 refine CE.seq (CE.region ?_)
 refine WL.op (op_box (cs := [.slice AR nR cR, .slice AL nL cL, .slice AS nS cS, vI k, vF kc0, vF kc1, vF kc2, vF ks0, vF ks1, .bool op, vF lo, vF re, vF sl]) rfl rfl) rfl rfl (ltb rfl) ?_
 rintro _ w1 ⟨rfl, r1, m1, z1⟩
 refine WL.det (op_assign rfl) rfl rfl rfl ?_
 refine WL.end (NE.code (CE.seq (CE.region ?_)))
 refine WL.det (op_assign rfl) rfl rfl rfl ?_
 refine WL.end (NE.code (CE.seq (CE.region ?_)))
 refine WL.det (op_loadA (i := 0) (cs := [.slice AR nR cR, .slice AL nL cL, .slice AS nS cS, vI k, vF kc0, vF kc1, vF kc2, vF ks0, vF ks1, .bool op, vF lo, vF re, vF sl]) rfl Try.isAgg50 Try.sizeOf50 r1.rng rfl rfl rfl) rfl rfl rfl ?_
 refine WL.det (op_move rfl) rfl rfl rfl ?_
 refine WL.call (oc_call (vs := [.agg #[.slice AR nR cR, .slice AL nL cL, .slice AS nS cS, vI k, vF kc0, vF kc1, vF kc2, vF ks0, vF ks1, .bool op, vF lo, vF re, vF sl], vI 1048576]) (cap := []) rfl rfl rfl Try.call25 (c_szPipe 1048576 nR cR AR bR oR esR nL cL AL bL oL esL nS cS AS bS oS xS k kc0 kc1 kc2 ks0 ks1 op lo re sl lnR hAR lnL hAL lnS hAS hT (by omega) w1 (rR.ext m1) (rL.ext m1) (rS.ext m1) (hFesR.ext m1) (hFesL.ext m1))) rfl rfl (ltb rfl) ?_
 rintro _ w2 ⟨rfl, m2⟩
 refine WL.det (op_assign rfl) rfl rfl rfl ?_
 refine WL.end (NE.code (CE.seq (CE.seq (CE.region ?_))))
 refine WL.det (op_move rfl) rfl rfl rfl ?_
 refine WL.det (op_lti_f rfl rfl (Int.not_lt.2 (Int.natCast_nonneg _))) rfl rfl rfl ?_
 refine WL.end (NE.code ?_)
 refine CE.cond_f rfl rfl ?_
 refine CE.skip' (NE.code (CE.seq (CE.region ?_)))
 refine WL.det (op_loadA (i := 0) (cs := [.slice AR nR cR, .slice AL nL cL, .slice AS nS cS, vI k, vF kc0, vF kc1, vF kc2, vF ks0, vF ks1, .bool op, vF lo, vF re, vF sl]) rfl Try.isAgg50 Try.sizeOf50 (r1.ext m2).rng rfl rfl rfl) rfl rfl rfl ?_
 refine WL.call (oc_call (vs := [.agg #[.slice AR nR cR, .slice AL nL cL, .slice AS nS cS, vI k, vF kc0, vF kc1, vF kc2, vF ks0, vF ks1, .bool op, vF lo, vF re, vF sl]]) (cap := []) rfl rfl rfl Try.call26 (c_toPipe nR cR AR bR oR esR nL cL AL bL oL esL nS cS AS bS oS xS k kc0 kc1 kc2 ks0 ks1 op lo re sl lnR hAR lnL hAL lnS hAS mR mL mS hzR hzL w2 ((rR.ext m1).ext m2) ((rL.ext m1).ext m2) ((rS.ext m1).ext m2) ((hFesR.ext m1).ext m2) ((hFesL.ext m1).ext m2))) rfl rfl (ltb rfl) ?_
 rintro _ w3 ⟨bR'1, PR1, bL'1, PL1, bS'1, rfl, h1, h2, r2, r3, r4, ge1, ge2, ge3, ne1, ne2, ne3, fm1, fn1, fn2, fn3, fn4, fm2, fn5, fn6, fn7, m3⟩
 iterate 3 refine WL.det (op_move rfl) rfl rfl rfl ?_
 refine WL.call (oc_call (vs := [.agg #[vS bR'1 0 nR nR, vS bL'1 0 nL nL, vS bS'1 0 nS nS, vI k, vF kc0, vF kc1, vF kc2, vF ks0, vF ks1, .bool op, vF lo, vF re, vF sl], vI ((m : Nat) : Int), vI ((pl : Nat) : Int), vF a]) (cap := []) rfl rfl rfl Try.call36 (c_sPulseS_inf nR (esR.map RiR.rd) nL (esL.map RiR.rd) nS xS nR bR'1 PR1 w2.heap.size nL bL'1 PL1 w2.heap.size nS bS'1 k kc0 kc1 kc2 ks0 ks1 op lo re sl m pl a aR aL (rd_len lnR) (rd_len lnL) lnS (rd_small hFesR hzR) (rd_small hFesL hzL) h1 h2 mR mL mS hs hm (by first | assumption | omega) hpl heR heL hlR hlL hll wR wL hv hf la w3 r2.rng r3.rng r4.rng fm1 fm2)) rfl rfl (ltb rfl) ?_
 rintro _ w4 ⟨rfl, m4⟩
 refine WL.det (op_move rfl) rfl rfl rfl ?_
 iterate 2 refine WL.det (op_extract rfl rfl) rfl rfl rfl ?_
 refine WL.op (op_alloc (cs := [.slice none 0 0, .slice none 0 0, .slice none 0 0, vI 0, vF 0, vF 0, vF 0, vF 0, vF 0, .bool false, vF 0, vF 0, vF 0]) Try.zeroValue33 rfl) rfl rfl (ltb rfl) ?_
 rintro _ w5 ⟨rfl, r5, m5, z2⟩
 refine WL.op0 (op_store (i := 0) (cs := [.slice none 0 0, .slice none 0 0, .slice none 0 0, vI 0, vF 0, vF 0, vF 0, vF 0, vF 0, .bool false, vF 0, vF 0, vF 0]) rfl rfl rfl Try.sizeOf33 rfl r5 rfl (lB rfl) rfl) rfl rfl ?_
 rintro _ w6 ⟨r6, m6, z3⟩
 have r7 : Row w6 w4.heap.size 0 [.slice none 0 0, .slice none 0 0, .slice none 0 0, vI 0, vF 0, vF 0, vF 0, vF 0, vF 0, .bool false, vF 0, vF 0, vF 0] := Row.congr r6 rfl
 refine WL.det (op_assign rfl) rfl rfl rfl ?_
 refine WL.end (NE.code (CE.seq (CE.region ?_)))
 have sz1 := (lT (lT m2.size m3.size) m4.size)
 have r8 := (((((r1.ext m2).ext m3).ext m4).ext m5).mod m6 (nC (lE (lL (lL r1.lt sz1) lR)) nN))
 refine WL.det (op_loadA (i := 0) (cs := [.slice AR nR cR, .slice AL nL cL, .slice AS nS cS, vI k, vF kc0, vF kc1, vF kc2, vF ks0, vF ks1, .bool op, vF lo, vF re, vF sl]) rfl Try.isAgg50 Try.sizeOf50 r8.rng rfl rfl rfl) rfl rfl rfl ?_
 have sz2 := (lT (lT (lT m1.size m2.size) m3.size) m4.size)
 have r9 := (Rng.youngS rR (((((rR.ext m1).ext m2).ext m3).ext m4).ext m5) m6 (allge_cons (lT sz2 lR) allge_nil))
 have r10 := (Rng.youngS rL (((((rL.ext m1).ext m2).ext m3).ext m4).ext m5) m6 (allge_cons (lT sz2 lR) allge_nil))
 have r11 := (Rng.youngS rS (((((rS.ext m1).ext m2).ext m3).ext m4).ext m5) m6 (allge_cons (lT sz2 lR) allge_nil))
 refine WL.call (oc_call (vs := [.agg #[.slice AR nR cR, .slice AL nL cL, .slice AS nS cS, vI k, vF kc0, vF kc1, vF kc2, vF ks0, vF ks1, .bool op, vF lo, vF re, vF sl]]) (cap := []) rfl rfl rfl Try.call26 (c_toPipe nR cR AR bR oR esR nL cL AL bL oL esL nS cS AS bS oS xS k kc0 kc1 kc2 ks0 ks1 op lo re sl lnR hAR lnL hAL lnS hAS mR mL mS hzR hzL w6 r9 r10 r11 (InF.mod hFesR (((((hFesR.ext m1).ext m2).ext m3).ext m4).ext m5) m6 (allge_cons (lT sz2 lR) allge_nil)) (InF.mod hFesL (((((hFesL.ext m1).ext m2).ext m3).ext m4).ext m5) m6 (allge_cons (lT sz2 lR) allge_nil)))) rfl rfl (ltb rfl) ?_
 rintro _ w7 ⟨bR'2, PR2, bL'2, PL2, bS'2, rfl, h3, h4, r12, r13, r14, ge4, ge5, ge6, ne4, ne5, ne6, fm3, fn8, fn9, fn10, fn11, fm4, fn12, fn13, fn14, m7⟩
 refine WL.op (op_alloc (cs := [.slice none 0 0, .slice none 0 0, .slice none 0 0, vI 0, vF 0, vF 0, vF 0, vF 0, vF 0, .bool false, vF 0, vF 0, vF 0]) Try.zeroValue33 rfl) rfl rfl (ltb rfl) ?_
 rintro _ w8 ⟨rfl, r15, m8, z4⟩
 refine WL.op0 (op_store (i := 0) (cs := [vS bR'2 0 nR nR, vS bL'2 0 nL nL, vS bS'2 0 nS nS, vI k, vF kc0, vF kc1, vF kc2, vF ks0, vF ks1, .bool op, vF lo, vF re, vF sl]) rfl rfl rfl Try.sizeOf33 rfl r15 rfl (lB rfl) rfl) rfl rfl ?_
 rintro _ w9 ⟨r16, m9, z5⟩
 have r17 : Row w9 w7.heap.size 0 [vS bR'2 0 nR nR, vS bL'2 0 nL nL, vS bS'2 0 nS nS, vI k, vF kc0, vF kc1, vF kc2, vF ks0, vF ks1, .bool op, vF lo, vF re, vF sl] := Row.congr r16 rfl
 refine WL.end (NE.code (CE.seq (CE.region ?_)))
 refine WL.det (op_loadA (i := 0) (cs := [vS bR'2 0 nR nR, vS bL'2 0 nL nL, vS bS'2 0 nS nS, vI k, vF kc0, vF kc1, vF kc2, vF ks0, vF ks1, .bool op, vF lo, vF re, vF sl]) rfl Try.isAgg33 Try.sizeOf33 r17.rng rfl rfl rfl) rfl rfl rfl ?_
 iterate 3 refine WL.det (op_move rfl) rfl rfl rfl ?_
 refine WL.call (oc_call (vs := [.agg #[vS bR'2 0 nR nR, vS bL'2 0 nL nL, vS bS'2 0 nS nS, vI k, vF kc0, vF kc1, vF kc2, vF ks0, vF ks1, .bool op, vF lo, vF re, vF sl], vI ((m : Nat) : Int), vI ((pl : Nat) : Int), vF a]) (cap := []) rfl rfl rfl Try.call35 (c_iPulseS_inf nR (esR.map RiR.rd) nL (esL.map RiR.rd) nS xS nR bR'2 PR2 w6.heap.size nL bL'2 PL2 w6.heap.size nS bS'2 k kc0 kc1 kc2 ks0 ks1 op lo re sl m pl a aR aL (rd_len lnR) (rd_len lnL) lnS (rd_small hFesR hzR) (rd_small hFesL hzL) h3 h4 mR mL mS hs hm (by first | assumption | omega) hpl heR heL hlR hlL hll wR wL hv hf la w9 ((r12.ext m8).mod m9 (nC (lE (lL r12.lt lR)) nN)).rng ((r13.ext m8).mod m9 (nC (lE (lL r13.lt lR)) nN)).rng ((r14.ext m8).mod m9 (nC (lE (lL r14.lt lR)) nN)).rng ((fm3.ext m8).mod m9 (fun j hj => (nC (lE (lL (OF.lt fm3 (Nat.lt_of_lt_of_eq (Nat.lt_of_lt_of_eq hj (rd_len lnR)) (rd_len lnR).symm)) lR)) nN))) ((fm4.ext m8).mod m9 (fun j hj => (nC (lE (lL (OF.lt fm4 (Nat.lt_of_lt_of_eq (Nat.lt_of_lt_of_eq hj (rd_len lnL)) (rd_len lnL).symm)) lR)) nN))))) rfl rfl (ltb rfl) ?_
 rintro _ w10 ⟨rfl, m10⟩
 refine WL.det (op_move rfl) rfl rfl rfl ?_
 iterate 2 refine WL.det (op_extract rfl rfl) rfl rfl rfl ?_
 refine WL.op (op_alloc (cs := [.slice none 0 0, .slice none 0 0, .slice none 0 0, vI 0, vF 0, vF 0, vF 0, vF 0, vF 0, .bool false, vF 0, vF 0, vF 0]) Try.zeroValue33 rfl) rfl rfl (ltb rfl) ?_
 rintro _ w11 ⟨rfl, r18, m11, z6⟩
 refine WL.op0 (op_store (i := 0) (cs := [.slice none 0 0, .slice none 0 0, .slice none 0 0, vI 0, vF 0, vF 0, vF 0, vF 0, vF 0, .bool false, vF 0, vF 0, vF 0]) rfl rfl rfl Try.sizeOf33 rfl r18 rfl (lB rfl) rfl) rfl rfl ?_
 rintro _ w12 ⟨r19, m12, z7⟩
 have r20 : Row w12 w10.heap.size 0 [.slice none 0 0, .slice none 0 0, .slice none 0 0, vI 0, vF 0, vF 0, vF 0, vF 0, vF 0, .bool false, vF 0, vF 0, vF 0] := Row.congr r19 rfl
 refine WL.det (op_assign rfl) rfl rfl rfl ?_
 refine WL.end (NE.code (CE.seq (CE.seq (CE.region ?_))))
 refine WL.det (op_loadA (i := 0) (cs := [.slice none 0 0, .slice none 0 0, .slice none 0 0, vI 0, vF 0, vF 0, vF 0, vF 0, vF 0, .bool false, vF 0, vF 0, vF 0]) rfl Try.isAgg33 Try.sizeOf33 r20.rng rfl rfl rfl) rfl rfl rfl ?_
 have sz3 := (lT (lT (lT (lT m6.size m7.size) m8.size) m9.size) m10.size)
 have r21 := ((((((r7.ext m7).ext m8).mod m9 (nC (lE (lL (lL r5.lt (lT m6.size m7.size)) lR)) nN)).ext m10).ext m11).mod m12 (nC (lE (lL (lL r5.lt sz3) lR)) nN))
 refine WL.det (op_loadA (i := 0) (cs := [.slice none 0 0, .slice none 0 0, .slice none 0 0, vI 0, vF 0, vF 0, vF 0, vF 0, vF 0, .bool false, vF 0, vF 0, vF 0]) rfl Try.isAgg33 Try.sizeOf33 r21.rng rfl rfl rfl) rfl rfl rfl ?_
 refine WL.call (oc_call (vs := [.agg #[.slice none 0 0, .slice none 0 0, .slice none 0 0, vI 0, vF 0, vF 0, vF 0, vF 0, vF 0, .bool false, vF 0, vF 0, vF 0], .agg #[.slice none 0 0, .slice none 0 0, .slice none 0 0, vI 0, vF 0, vF 0, vF 0, vF 0, vF 0, .bool false, vF 0, vF 0, vF 0]]) (cap := []) rfl rfl rfl Try.call28 (c_eqPipe_nil w12)) rfl rfl (ltb rfl) ?_
 rintro _ w13 ⟨rfl, m13⟩
 refine WL.det (op_not rfl) rfl rfl rfl ?_
 refine WL.det (op_move rfl) rfl rfl rfl ?_
 refine WL.yes rfl rfl rfl (ltb rfl) rfl rfl ?_
 refine WL.det (op_move rfl) rfl rfl rfl ?_
 refine WL.yes rfl rfl rfl (ltb rfl) rfl rfl ?_
 refine WL.det (op_move rfl) rfl rfl rfl ?_
 refine WL.yes rfl rfl rfl (ltb rfl) rfl rfl ?_
 refine WL.det (op_nei rfl rfl) rfl rfl rfl ?_
 refine WL.det (op_pick_f rfl rfl rfl) rfl rfl rfl ?_
 refine WL.end (NE.code ?_)
 refine CE.cond_f rfl rfl ?_
 refine CE.skip' (NE.code (CE.seq (CE.seq ?_)))
 refine CE.draw (fun | 2 => some (fun _ wA uA wB => ∃ (bR' : Nat) (PR : List BC) (bL' : Nat) (PL : List BC) (bS' : Nat), uA = .agg #[vS bR' 0 nR nR, vS bL' 0 nL nL, vS bS' 0 nS nS, vI k, vF kc0, vF kc1, vF kc2, vF ks0, vF ks1, .bool op, vF lo, vF re, vF sl] ∧ (PR.length = nR) ∧ (PL.length = nL) ∧ Row wB bR' 0 (olc (esR.map RiR.rd) PR) ∧ Row wB bL' 0 (olc (esL.map RiR.rd) PL) ∧ Row wB bS' 0 (fl xS) ∧ wA.heap.size ≤ bR' ∧ wA.heap.size ≤ bL' ∧ wA.heap.size ≤ bS' ∧ bR' ≠ bL' ∧ bR' ≠ bS' ∧ bL' ≠ bS' ∧ OF wA.heap.size wB (esR.map RiR.rd) PR ∧ (∀ i, i < nR → (PR.getD i BC.d).b ≠ bR') ∧ (∀ i, i < nR → (PR.getD i BC.d).b ≠ bL') ∧ (∀ i, i < nR → (PR.getD i BC.d).b ≠ bS') ∧ (∀ i j, i < nR → j < nL → (PR.getD i BC.d).b ≠ (PL.getD j BC.d).b) ∧ OF wA.heap.size wB (esL.map RiR.rd) PL ∧ (∀ i, i < nL → (PL.getD i BC.d).b ≠ bR') ∧ (∀ i, i < nL → (PL.getD i BC.d).b ≠ bL') ∧ (∀ i, i < nL → (PL.getD i BC.d).b ≠ bS') ∧ Mod [] wA wB) | _ => none) [0, 1, 2] [3, 4] [] (by kernel_rfl) (by kernel_rfl) ?_
 have md1 : Mod [] w13 w13.drew := (Mod.refl _ _).drew
 generalize w13.drew = w14 at md1 ⊢
 refine DR.det (i := 0) rfl rfl (by kernel_rfl) (.free rfl) rfl rfl (fun wD mD => op_loadA (i := 0) (cs := [vS bR'2 0 nR nR, vS bL'2 0 nL nL, vS bS'2 0 nS nS, vI k, vF kc0, vF kc1, vF kc2, vF ks0, vF ks1, .bool op, vF lo, vF re, vF sl]) rfl Try.isAgg33 Try.sizeOf33 ((((((r17.ext m10).ext m11).mod m12 (nC (lE (lL (lL r15.lt (lT m9.size m10.size)) lR)) nN)).ext m13).ext md1).ext mD).rng rfl rfl rfl) ?_
 refine DR.det (i := 1) rfl rfl (by kernel_rfl) (.free rfl) rfl rfl (fun wD mD => op_loadA (i := 0) (cs := [.slice AR nR cR, .slice AL nL cL, .slice AS nS cS, vI k, vF kc0, vF kc1, vF kc2, vF ks0, vF ks1, .bool op, vF lo, vF re, vF sl]) rfl Try.isAgg50 Try.sizeOf50 (((((((((r8.ext m7).ext m8).mod m9 (nC (lE (lL (lL r1.lt (lT (lT (lT sz1 m5.size) m6.size) m7.size)) lR)) nN)).ext m10).ext m11).mod m12 (nC (lE (lL (lL r1.lt (lT (lT (lT (lT (lT (lT sz1 m5.size) m6.size) m7.size) m8.size) m9.size) m10.size)) lR)) nN)).ext m13).ext md1).ext mD).rng rfl rfl rfl) ?_
 refine DR.one (i := 2) rfl rfl (by kernel_rfl) (.free rfl) rfl (ltb rfl) (vs := [.func (.func 26) #[] #[], .agg #[.slice AR nR cR, .slice AL nL cL, .slice AS nS cS, vI k, vF kc0, vF kc1, vF kc2, vF ks0, vF ks1, .bool op, vF lo, vF re, vF sl]]) rfl ?_
 intro w15 m14
 refine ⟨oc_call (vs := [.agg #[.slice AR nR cR, .slice AL nL cL, .slice AS nS cS, vI k, vF kc0, vF kc1, vF kc2, vF ks0, vF ks1, .bool op, vF lo, vF re, vF sl]]) (cap := []) rfl rfl rfl Try.call26 (c_toPipe nR cR AR bR oR esR nL cL AL bL oL esL nS cS AS bS oS xS k kc0 kc1 kc2 ks0 ks1 op lo re sl lnR hAR lnL hAL lnS hAS mR mL mS hzR hzL w15 ((((Rng.youngS rR (((Rng.youngS rR ((r9.ext m7).ext m8) m9 (allge_cons (lT (lT (lT (lT sz2 m5.size) m6.size) m7.size) lR) allge_nil)).ext m10).ext m11) m12 (allge_cons (lT (lT (lT (lT (lT (lT (lT sz2 m5.size) m6.size) m7.size) m8.size) m9.size) m10.size) lR) allge_nil)).ext m13).ext md1).ext m14) ((((Rng.youngS rL (((Rng.youngS rL ((r10.ext m7).ext m8) m9 (allge_cons (lT (lT (lT (lT sz2 m5.size) m6.size) m7.size) lR) allge_nil)).ext m10).ext m11) m12 (allge_cons (lT (lT (lT (lT (lT (lT (lT sz2 m5.size) m6.size) m7.size) m8.size) m9.size) m10.size) lR) allge_nil)).ext m13).ext md1).ext m14) ((((Rng.youngS rS (((Rng.youngS rS ((r11.ext m7).ext m8) m9 (allge_cons (lT (lT (lT (lT sz2 m5.size) m6.size) m7.size) lR) allge_nil)).ext m10).ext m11) m12 (allge_cons (lT (lT (lT (lT (lT (lT (lT sz2 m5.size) m6.size) m7.size) m8.size) m9.size) m10.size) lR) allge_nil)).ext m13).ext md1).ext m14) ((((InF.mod hFesR (((InF.mod hFesR (((InF.mod hFesR (((((hFesR.ext m1).ext m2).ext m3).ext m4).ext m5) m6 (allge_cons (lT sz2 lR) allge_nil)).ext m7).ext m8) m9 (allge_cons (lT (lT (lT (lT sz2 m5.size) m6.size) m7.size) lR) allge_nil)).ext m10).ext m11) m12 (allge_cons (lT (lT (lT (lT (lT (lT (lT sz2 m5.size) m6.size) m7.size) m8.size) m9.size) m10.size) lR) allge_nil)).ext m13).ext md1).ext m14) ((((InF.mod hFesL (((InF.mod hFesL (((InF.mod hFesL (((((hFesL.ext m1).ext m2).ext m3).ext m4).ext m5) m6 (allge_cons (lT sz2 lR) allge_nil)).ext m7).ext m8) m9 (allge_cons (lT (lT (lT (lT sz2 m5.size) m6.size) m7.size) lR) allge_nil)).ext m10).ext m11) m12 (allge_cons (lT (lT (lT (lT (lT (lT (lT sz2 m5.size) m6.size) m7.size) m8.size) m9.size) m10.size) lR) allge_nil)).ext m13).ext md1).ext m14)), ?_⟩
 rintro _ w16 ⟨bR'3, PR3, bL'3, PL3, bS'3, rfl, h5, h6, r22, r23, r24, ge7, ge8, ge9, ne7, ne8, ne9, fm5, fn15, fn16, fn17, fn18, fm6, fn19, fn20, fn21, m15⟩
 refine ⟨(((Mod.refl [] w14).nt m14).nt m15), ?_⟩
 refine DR.done rfl ?_
 intro w17 m16
 have sz4 := (lT (lT m8.size m9.size) m10.size)
 have r25 := ((((((((((r12.ext m8).mod m9 (nC (lE (lL r12.lt lR)) nN)).ext m10).ext m11).mod m12 (nC (lE (lL (lL r12.lt sz4) lR)) nN)).ext m13).ext md1).ext m14).ext m15).ext m16)
 have r26 := ((((((((((r13.ext m8).mod m9 (nC (lE (lL r13.lt lR)) nN)).ext m10).ext m11).mod m12 (nC (lE (lL (lL r13.lt sz4) lR)) nN)).ext m13).ext md1).ext m14).ext m15).ext m16)
 have r27 := ((((((((((r14.ext m8).mod m9 (nC (lE (lL r14.lt lR)) nN)).ext m10).ext m11).mod m12 (nC (lE (lL (lL r14.lt sz4) lR)) nN)).ext m13).ext md1).ext m14).ext m15).ext m16)
 refine WO.call rfl (.free rfl) rfl (ltb rfl) (oc_call (vs := [.agg #[vS bR'2 0 nR nR, vS bL'2 0 nL nL, vS bS'2 0 nS nS, vI k, vF kc0, vF kc1, vF kc2, vF ks0, vF ks1, .bool op, vF lo, vF re, vF sl], .agg #[vS bR'3 0 nR nR, vS bL'3 0 nL nL, vS bS'3 0 nS nS, vI k, vF kc0, vF kc1, vF kc2, vF ks0, vF ks1, .bool op, vF lo, vF re, vF sl]]) (cap := []) rfl rfl rfl Try.call28 (c_eqPipe nR (esR.map RiR.rd) nL (esL.map RiR.rd) nS xS nR bR'2 PR2 w6.heap.size nL bL'2 PL2 w6.heap.size nS bS'2 nR bR'3 PR3 w15.heap.size nL bL'3 PL3 w15.heap.size nS bS'3 k kc0 kc1 kc2 ks0 ks1 op lo re sl (rd_len lnR) (rd_len lnL) lnS (rd_small hFesR hzR) (rd_small hFesL hzL) mR mL mS h3 h4 h5 h6 w17 r25.rng r26.rng r27.rng (r22.ext m16).rng (r23.ext m16).rng (r24.ext m16).rng ((((((((((fm3.ext m8).mod m9 (fun j hj => (nC (lE (lL (OF.lt fm3 (Nat.lt_of_lt_of_eq (Nat.lt_of_lt_of_eq hj (rd_len lnR)) (rd_len lnR).symm)) lR)) nN))).ext m10).ext m11).mod m12 (fun j hj => (nC (lE (lL (OF.lt fm3 (Nat.lt_of_lt_of_eq (Nat.lt_of_lt_of_eq hj (rd_len lnR)) (rd_len lnR).symm)) (lT sz4 lR))) nN))).ext m13).ext md1).ext m14).ext m15).ext m16) ((((((((((fm4.ext m8).mod m9 (fun j hj => (nC (lE (lL (OF.lt fm4 (Nat.lt_of_lt_of_eq (Nat.lt_of_lt_of_eq hj (rd_len lnL)) (rd_len lnL).symm)) lR)) nN))).ext m10).ext m11).mod m12 (fun j hj => (nC (lE (lL (OF.lt fm4 (Nat.lt_of_lt_of_eq (Nat.lt_of_lt_of_eq hj (rd_len lnL)) (rd_len lnL).symm)) (lT sz4 lR))) nN))).ext m13).ext md1).ext m14).ext m15).ext m16) (fm5.ext m16) (fm6.ext m16))) ?_
 rintro _ w18 ⟨rfl, m17⟩
 refine WO.det (op_not rfl) rfl (.free rfl) rfl rfl ?_
 refine WO.end (NE.code ?_)
 refine CE.cond_f rfl rfl ?_
 refine CE.skip' (NE.code (CE.seq (CE.region ?_)))
 refine WL.det (op_assign rfl) rfl rfl rfl ?_
 refine WL.end (NE.code (CE.seq (CE.region ?_)))
 have r28 := (((((((((r17.ext m10).ext m11).mod m12 (nC (lE (lL (lL r15.lt (lT m9.size m10.size)) lR)) nN)).ext m13).ext md1).ext m14).ext m15).ext m16).ext m17)
 refine WL.det (op_loadA (i := 0) (cs := [vS bR'2 0 nR nR, vS bL'2 0 nL nL, vS bS'2 0 nS nS, vI k, vF kc0, vF kc1, vF kc2, vF ks0, vF ks1, .bool op, vF lo, vF re, vF sl]) rfl Try.isAgg33 Try.sizeOf33 r28.rng rfl rfl rfl) rfl rfl rfl ?_
 refine WL.det (op_move rfl) rfl rfl rfl ?_
 refine WL.call (oc_call (vs := [.agg #[vS bR'2 0 nR nR, vS bL'2 0 nL nL, vS bS'2 0 nS nS, vI k, vF kc0, vF kc1, vF kc2, vF ks0, vF ks1, .bool op, vF lo, vF re, vF sl], vI 1]) (cap := []) rfl rfl rfl Try.call29 (c_markPipe_x nR (esR.map RiR.rd) nL (esL.map RiR.rd) nS xS nR bR'2 PR2 w6.heap.size nL bL'2 PL2 w6.heap.size nS bS'2 k kc0 kc1 kc2 ks0 ks1 op lo re sl 1 (rd_len lnR) (rd_len lnL) lnS (rd_small hFesR hzR) (rd_small hFesL hzL) h3 h4 nR_3 nL_3 mS (by first | decide | omega) w18 (r25.ext m17) (r26.ext m17) (r27.ext m17) ne4 ne5 ne6 (((((((((((fm3.ext m8).mod m9 (fun j hj => (nC (lE (lL (OF.lt fm3 (Nat.lt_of_lt_of_eq (Nat.lt_of_lt_of_eq hj (rd_len lnR)) (rd_len lnR).symm)) lR)) nN))).ext m10).ext m11).mod m12 (fun j hj => (nC (lE (lL (OF.lt fm3 (Nat.lt_of_lt_of_eq (Nat.lt_of_lt_of_eq hj (rd_len lnR)) (rd_len lnR).symm)) (lT sz4 lR))) nN))).ext m13).ext md1).ext m14).ext m15).ext m16).ext m17) (fun j hj => (fn8 j hj)) (fun j hj => (fn9 j hj)) (fun j hj => (fn10 j hj)) (fun j q hj hq => (fn11 j q hj hq)) (((((((((((fm4.ext m8).mod m9 (fun j hj => (nC (lE (lL (OF.lt fm4 (Nat.lt_of_lt_of_eq (Nat.lt_of_lt_of_eq hj (rd_len lnL)) (rd_len lnL).symm)) lR)) nN))).ext m10).ext m11).mod m12 (fun j hj => (nC (lE (lL (OF.lt fm4 (Nat.lt_of_lt_of_eq (Nat.lt_of_lt_of_eq hj (rd_len lnL)) (rd_len lnL).symm)) (lT sz4 lR))) nN))).ext m13).ext md1).ext m14).ext m15).ext m16).ext m17) (fun j hj => (fn12 j hj)) (fun j hj => (fn13 j hj)) (fun j hj => (fn14 j hj)))) rfl rfl (ltb rfl) ?_
 rintro _ w19 ⟨rfl, r29, r30, r31, fm7, fm8, m18⟩
 refine WL.det (op_assign rfl) rfl rfl rfl ?_
 refine WL.end (NE.code (CE.seq (CE.seq (CE.region ?_))))
 refine WL.det (op_move rfl) rfl rfl rfl ?_
 refine WL.det (op_lti_f rfl rfl (Int.not_lt.2 (Int.natCast_nonneg _))) rfl rfl rfl ?_
 refine WL.det (op_move rfl) rfl rfl rfl ?_
 have r32 := (((((((r20.ext m13).ext md1).ext m14).ext m15).ext m16).ext m17).mod m18 (nC (lG (lL (lL r12.lt sz4) lR)) (nC (lG (lL (lL r13.lt sz4) lR)) (nC (lG (lL (lL r14.lt sz4) lR)) (nA h3 (fun j hj => (lE (lL (OF.lt fm3 (Nat.lt_of_lt_of_eq hj (rd_len lnR).symm)) (lT sz4 lR)))) (nA h4 (fun j hj => (lE (lL (OF.lt fm4 (Nat.lt_of_lt_of_eq hj (rd_len lnL).symm)) (lT sz4 lR)))) nN))))))
 refine WL.yes rfl rfl rfl (ltb rfl) rfl rfl ?_
 refine WL.det (op_loadA (i := 0) (cs := [.slice none 0 0, .slice none 0 0, .slice none 0 0, vI 0, vF 0, vF 0, vF 0, vF 0, vF 0, .bool false, vF 0, vF 0, vF 0]) rfl Try.isAgg33 Try.sizeOf33 r32.rng rfl rfl rfl) rfl rfl rfl ?_
 have r33 := (((((((r21.ext m13).ext md1).ext m14).ext m15).ext m16).ext m17).mod m18 (nC (lE (lL (lL r5.lt m6.size) ge4)) (nC (lE (lL (lL r5.lt m6.size) ge5)) (nC (lE (lL (lL r5.lt m6.size) ge6)) (nA h3 (fun j hj => (lG (lL (lL r5.lt m6.size) (fm7.ge j (Nat.lt_of_lt_of_eq hj (markD_len (rd_len lnR) nR).symm))))) (nA h4 (fun j hj => (lG (lL (lL r5.lt m6.size) (fm8.ge j (Nat.lt_of_lt_of_eq hj (markD_len (rd_len lnL) nL).symm))))) nN))))))
 refine WL.yes rfl rfl rfl (ltb rfl) rfl rfl ?_
 refine WL.det (op_loadA (i := 0) (cs := [.slice none 0 0, .slice none 0 0, .slice none 0 0, vI 0, vF 0, vF 0, vF 0, vF 0, vF 0, .bool false, vF 0, vF 0, vF 0]) rfl Try.isAgg33 Try.sizeOf33 r33.rng rfl rfl rfl) rfl rfl rfl ?_
 refine WL.yes rfl rfl rfl (ltb rfl) rfl rfl ?_
 refine WL.call (oc_call (vs := [.agg #[.slice none 0 0, .slice none 0 0, .slice none 0 0, vI 0, vF 0, vF 0, vF 0, vF 0, vF 0, .bool false, vF 0, vF 0, vF 0], .agg #[.slice none 0 0, .slice none 0 0, .slice none 0 0, vI 0, vF 0, vF 0, vF 0, vF 0, vF 0, .bool false, vF 0, vF 0, vF 0]]) (cap := []) rfl rfl rfl Try.call28 (c_eqPipe_nil w19)) rfl rfl (ltb rfl) ?_
 rintro _ w20 ⟨rfl, m19⟩
 refine WL.yes rfl rfl rfl (ltb rfl) rfl rfl ?_
 refine WL.det (op_not rfl) rfl rfl rfl ?_
 refine WL.det (op_pick_f rfl rfl rfl) rfl rfl rfl ?_
 refine WL.det (op_move rfl) rfl rfl rfl ?_
 refine WL.yes rfl rfl rfl (ltb rfl) rfl rfl ?_
 refine WL.det (op_move rfl) rfl rfl rfl ?_
 refine WL.yes rfl rfl rfl (ltb rfl) rfl rfl ?_
 refine WL.det (op_move rfl) rfl rfl rfl ?_
 refine WL.yes rfl rfl rfl (ltb rfl) rfl rfl ?_
 refine WL.det (op_nei rfl rfl) rfl rfl rfl ?_
 refine WL.det (op_pick_f rfl rfl rfl) rfl rfl rfl ?_
 refine WL.end (NE.code ?_)
 refine CE.cond_f rfl rfl ?_
 refine CE.skip' (NE.code (CE.seq (CE.region ?_)))
 refine WL.det (op_assign rfl) rfl rfl rfl ?_
 refine WL.end (NE.code (CE.seq (CE.region ?_)))
 refine WL.det (op_loadA (i := 0) (cs := [.slice none 0 0, .slice none 0 0, .slice none 0 0, vI 0, vF 0, vF 0, vF 0, vF 0, vF 0, .bool false, vF 0, vF 0, vF 0]) rfl Try.isAgg33 Try.sizeOf33 (r32.ext m19).rng rfl rfl rfl) rfl rfl rfl ?_
 refine WL.det (op_move rfl) rfl rfl rfl ?_
 refine WL.call (oc_call (vs := [.agg #[.slice none 0 0, .slice none 0 0, .slice none 0 0, vI 0, vF 0, vF 0, vF 0, vF 0, vF 0, .bool false, vF 0, vF 0, vF 0], vI 1]) (cap := []) rfl rfl rfl Try.call29 (c_markPipe_nil 1 (by omega) w20)) rfl rfl (ltb rfl) ?_
 rintro _ w21 ⟨rfl, m20⟩
 refine WL.det (op_assign rfl) rfl rfl rfl ?_
 refine WL.end (NE.code (CE.seq (CE.region ?_)))
 refine WL.det (op_assign rfl) rfl rfl rfl ?_
 refine WL.end (NE.code (CE.seq (CE.region ?_)))
 refine WL.det (op_loadA (i := 0) (cs := [.slice none 0 0, .slice none 0 0, .slice none 0 0, vI 0, vF 0, vF 0, vF 0, vF 0, vF 0, .bool false, vF 0, vF 0, vF 0]) rfl Try.isAgg33 Try.sizeOf33 ((r32.ext m19).ext m20).rng rfl rfl rfl) rfl rfl rfl ?_
 refine WL.det (op_move rfl) rfl rfl rfl ?_
 refine WL.call (oc_call (vs := [.agg #[.slice none 0 0, .slice none 0 0, .slice none 0 0, vI 0, vF 0, vF 0, vF 0, vF 0, vF 0, .bool false, vF 0, vF 0, vF 0], vI 1]) (cap := []) rfl rfl rfl Try.call30 (c_heldPipe_nil 1 (by omega) w21)) rfl rfl (ltb rfl) ?_
 rintro _ w22 ⟨rfl, m21⟩
 refine WL.det (op_assign rfl) rfl rfl rfl ?_
 refine WL.end (NE.code (CE.seq (CE.seq (CE.region ?_))))
 refine WL.det (op_move rfl) rfl rfl rfl ?_
 refine WL.det (op_lti rfl rfl) rfl rfl rfl ?_
 refine WL.end (NE.code ?_)
 refine CE.cond_f rfl rfl ?_
 refine CE.skip' (NE.code (CE.seq (CE.seq (CE.region ?_))))
 iterate 2 refine WL.det (op_move rfl) rfl rfl rfl ?_
 refine WL.det (op_nei rfl rfl) rfl rfl rfl ?_
 refine WL.end (NE.code ?_)
 refine CE.cond_f rfl rfl ?_
 refine CE.skip' (NE.code (CE.seq (CE.region ?_)))
 have sz5 := (lT (lT (lT sz1 m5.size) m6.size) m7.size)
 have sz6 := (lT (lT (lT sz5 m8.size) m9.size) m10.size)
 have sz7 := (lT (lT sz1 m5.size) m6.size)
 have r34 := ((((((((((((((((r8.ext m7).ext m8).mod m9 (nC (lE (lL (lL r1.lt sz5) lR)) nN)).ext m10).ext m11).mod m12 (nC (lE (lL (lL r1.lt sz6) lR)) nN)).ext m13).ext md1).ext m14).ext m15).ext m16).ext m17).mod m18 (nC (lE (lL (lL r1.lt sz7) ge4)) (nC (lE (lL (lL r1.lt sz7) ge5)) (nC (lE (lL (lL r1.lt sz7) ge6)) (nA h3 (fun j hj => (lG (lL (lL r1.lt sz7) (fm7.ge j (Nat.lt_of_lt_of_eq hj (markD_len (rd_len lnR) nR).symm))))) (nA h4 (fun j hj => (lG (lL (lL r1.lt sz7) (fm8.ge j (Nat.lt_of_lt_of_eq hj (markD_len (rd_len lnL) nL).symm))))) nN)))))).ext m19).ext m20).ext m21)
 refine WL.det (op_loadA (i := 0) (cs := [.slice AR nR cR, .slice AL nL cL, .slice AS nS cS, vI k, vF kc0, vF kc1, vF kc2, vF ks0, vF ks1, .bool op, vF lo, vF re, vF sl]) rfl Try.isAgg50 Try.sizeOf50 r34.rng rfl rfl rfl) rfl rfl rfl ?_
 have sz8 := (lT (lT (lT sz2 m5.size) m6.size) m7.size)
 have sz9 := (lT (lT (lT sz8 m8.size) m9.size) m10.size)
 have sz10 := (lT (lT sz2 m5.size) m6.size)
 have r35 := ((((Rng.youngS rR (((((((Rng.youngS rR (((Rng.youngS rR ((r9.ext m7).ext m8) m9 (allge_cons (lT sz8 lR) allge_nil)).ext m10).ext m11) m12 (allge_cons (lT sz9 lR) allge_nil)).ext m13).ext md1).ext m14).ext m15).ext m16).ext m17) m18 (allge_cons (lT sz10 ge4) (allge_cons (lT sz10 ge5) (allge_cons (lT sz10 ge6) (gA h3 (fun j hj => (lT sz10 (fm7.ge j (Nat.lt_of_lt_of_eq hj (markD_len (rd_len lnR) nR).symm)))) (gA h4 (fun j hj => (lT sz10 (fm8.ge j (Nat.lt_of_lt_of_eq hj (markD_len (rd_len lnL) nL).symm)))) allge_nil)))))).ext m19).ext m20).ext m21)
 have r36 := ((((Rng.youngS rL (((((((Rng.youngS rL (((Rng.youngS rL ((r10.ext m7).ext m8) m9 (allge_cons (lT sz8 lR) allge_nil)).ext m10).ext m11) m12 (allge_cons (lT sz9 lR) allge_nil)).ext m13).ext md1).ext m14).ext m15).ext m16).ext m17) m18 (allge_cons (lT sz10 ge4) (allge_cons (lT sz10 ge5) (allge_cons (lT sz10 ge6) (gA h3 (fun j hj => (lT sz10 (fm7.ge j (Nat.lt_of_lt_of_eq hj (markD_len (rd_len lnR) nR).symm)))) (gA h4 (fun j hj => (lT sz10 (fm8.ge j (Nat.lt_of_lt_of_eq hj (markD_len (rd_len lnL) nL).symm)))) allge_nil)))))).ext m19).ext m20).ext m21)
 have r37 := ((((Rng.youngS rS (((((((Rng.youngS rS (((Rng.youngS rS ((r11.ext m7).ext m8) m9 (allge_cons (lT sz8 lR) allge_nil)).ext m10).ext m11) m12 (allge_cons (lT sz9 lR) allge_nil)).ext m13).ext md1).ext m14).ext m15).ext m16).ext m17) m18 (allge_cons (lT sz10 ge4) (allge_cons (lT sz10 ge5) (allge_cons (lT sz10 ge6) (gA h3 (fun j hj => (lT sz10 (fm7.ge j (Nat.lt_of_lt_of_eq hj (markD_len (rd_len lnR) nR).symm)))) (gA h4 (fun j hj => (lT sz10 (fm8.ge j (Nat.lt_of_lt_of_eq hj (markD_len (rd_len lnL) nL).symm)))) allge_nil)))))).ext m19).ext m20).ext m21)
 refine WL.call (oc_call (vs := [.agg #[.slice AR nR cR, .slice AL nL cL, .slice AS nS cS, vI k, vF kc0, vF kc1, vF kc2, vF ks0, vF ks1, .bool op, vF lo, vF re, vF sl]]) (cap := []) rfl rfl rfl Try.call26 (c_toPipe nR cR AR bR oR esR nL cL AL bL oL esL nS cS AS bS oS xS k kc0 kc1 kc2 ks0 ks1 op lo re sl lnR hAR lnL hAL lnS hAS mR mL mS hzR hzL w22 r35 r36 r37 ((((InF.mod hFesR (((((((InF.mod hFesR (((InF.mod hFesR (((InF.mod hFesR (((((hFesR.ext m1).ext m2).ext m3).ext m4).ext m5) m6 (allge_cons (lT sz2 lR) allge_nil)).ext m7).ext m8) m9 (allge_cons (lT sz8 lR) allge_nil)).ext m10).ext m11) m12 (allge_cons (lT sz9 lR) allge_nil)).ext m13).ext md1).ext m14).ext m15).ext m16).ext m17) m18 (allge_cons (lT sz10 ge4) (allge_cons (lT sz10 ge5) (allge_cons (lT sz10 ge6) (gA h3 (fun j hj => (lT sz10 (fm7.ge j (Nat.lt_of_lt_of_eq hj (markD_len (rd_len lnR) nR).symm)))) (gA h4 (fun j hj => (lT sz10 (fm8.ge j (Nat.lt_of_lt_of_eq hj (markD_len (rd_len lnL) nL).symm)))) allge_nil)))))).ext m19).ext m20).ext m21) ((((InF.mod hFesL (((((((InF.mod hFesL (((InF.mod hFesL (((InF.mod hFesL (((((hFesL.ext m1).ext m2).ext m3).ext m4).ext m5) m6 (allge_cons (lT sz2 lR) allge_nil)).ext m7).ext m8) m9 (allge_cons (lT sz8 lR) allge_nil)).ext m10).ext m11) m12 (allge_cons (lT sz9 lR) allge_nil)).ext m13).ext md1).ext m14).ext m15).ext m16).ext m17) m18 (allge_cons (lT sz10 ge4) (allge_cons (lT sz10 ge5) (allge_cons (lT sz10 ge6) (gA h3 (fun j hj => (lT sz10 (fm7.ge j (Nat.lt_of_lt_of_eq hj (markD_len (rd_len lnR) nR).symm)))) (gA h4 (fun j hj => (lT sz10 (fm8.ge j (Nat.lt_of_lt_of_eq hj (markD_len (rd_len lnL) nL).symm)))) allge_nil)))))).ext m19).ext m20).ext m21))) rfl rfl (ltb rfl) ?_
 rintro _ w23 ⟨bR'4, PR4, bL'4, PL4, bS'4, rfl, h7, h8, r38, r39, r40, ge10, ge11, ge12, ne10, ne11, ne12, fm9, fn22, fn23, fn24, fn25, fm10, fn26, fn27, fn28, m22⟩
 iterate 3 refine WL.det (op_move rfl) rfl rfl rfl ?_
 refine WL.call (oc_call (vs := [.agg #[vS bR'4 0 nR nR, vS bL'4 0 nL nL, vS bS'4 0 nS nS, vI k, vF kc0, vF kc1, vF kc2, vF ks0, vF ks1, .bool op, vF lo, vF re, vF sl], vI ((m : Nat) : Int), vI ((pl : Nat) : Int), vF a]) (cap := []) rfl rfl rfl Try.call35 (c_iPulseS_inf nR (esR.map RiR.rd) nL (esL.map RiR.rd) nS xS nR bR'4 PR4 w22.heap.size nL bL'4 PL4 w22.heap.size nS bS'4 k kc0 kc1 kc2 ks0 ks1 op lo re sl m pl a aR aL (rd_len lnR) (rd_len lnL) lnS (rd_small hFesR hzR) (rd_small hFesL hzL) h7 h8 mR mL mS hs hm (by first | assumption | omega) hpl heR heL hlR hlL hll wR wL hv hf la w23 r38.rng r39.rng r40.rng fm9 fm10)) rfl rfl (ltb rfl) ?_
 rintro _ w24 ⟨rfl, m23⟩
 refine WL.det (op_move rfl) rfl rfl rfl ?_
 iterate 2 refine WL.det (op_extract rfl rfl) rfl rfl rfl ?_
 refine WL.op (op_alloc (cs := [.slice none 0 0, .slice none 0 0, .slice none 0 0, vI 0, vF 0, vF 0, vF 0, vF 0, vF 0, .bool false, vF 0, vF 0, vF 0]) Try.zeroValue33 rfl) rfl rfl (ltb rfl) ?_
 rintro _ w25 ⟨rfl, r41, m24, z8⟩
 refine WL.op0 (op_store (i := 0) (cs := [.slice none 0 0, .slice none 0 0, .slice none 0 0, vI 0, vF 0, vF 0, vF 0, vF 0, vF 0, .bool false, vF 0, vF 0, vF 0]) rfl rfl rfl Try.sizeOf33 rfl r41 rfl (lB rfl) rfl) rfl rfl ?_
 rintro _ w26 ⟨r42, m25, z9⟩
 have r43 : Row w26 w24.heap.size 0 [.slice none 0 0, .slice none 0 0, .slice none 0 0, vI 0, vF 0, vF 0, vF 0, vF 0, vF 0, .bool false, vF 0, vF 0, vF 0] := Row.congr r42 rfl
 refine WL.det (op_assign rfl) rfl rfl rfl ?_
 refine WL.end (NE.code (CE.seq (CE.seq (CE.region ?_))))
 refine WL.det (op_loadA (i := 0) (cs := [.slice none 0 0, .slice none 0 0, .slice none 0 0, vI 0, vF 0, vF 0, vF 0, vF 0, vF 0, .bool false, vF 0, vF 0, vF 0]) rfl Try.isAgg33 Try.sizeOf33 r43.rng rfl rfl rfl) rfl rfl rfl ?_
 have sz11 := (lT (lT (lT (lT (lT (lT (lT (lT (lT (lT (lT (lT (lT (lT sz3 m11.size) m12.size) m13.size) md1.size) m14.size) m15.size) m16.size) m17.size) m18.size) m19.size) m20.size) m21.size) m22.size) m23.size)
 have r44 := (((((((r33.ext m19).ext m20).ext m21).ext m22).ext m23).ext m24).mod m25 (nC (lE (lL (lL r5.lt sz11) lR)) nN))
 refine WL.det (op_loadA (i := 0) (cs := [.slice none 0 0, .slice none 0 0, .slice none 0 0, vI 0, vF 0, vF 0, vF 0, vF 0, vF 0, .bool false, vF 0, vF 0, vF 0]) rfl Try.isAgg33 Try.sizeOf33 r44.rng rfl rfl rfl) rfl rfl rfl ?_
 refine WL.call (oc_call (vs := [.agg #[.slice none 0 0, .slice none 0 0, .slice none 0 0, vI 0, vF 0, vF 0, vF 0, vF 0, vF 0, .bool false, vF 0, vF 0, vF 0], .agg #[.slice none 0 0, .slice none 0 0, .slice none 0 0, vI 0, vF 0, vF 0, vF 0, vF 0, vF 0, .bool false, vF 0, vF 0, vF 0]]) (cap := []) rfl rfl rfl Try.call28 (c_eqPipe_nil w26)) rfl rfl (ltb rfl) ?_
 rintro _ w27 ⟨rfl, m26⟩
 refine WL.det (op_not rfl) rfl rfl rfl ?_
 refine WL.det (op_move rfl) rfl rfl rfl ?_
 refine WL.yes rfl rfl rfl (ltb rfl) rfl rfl ?_
 refine WL.det (op_move rfl) rfl rfl rfl ?_
 refine WL.yes rfl rfl rfl (ltb rfl) rfl rfl ?_
 refine WL.det (op_move rfl) rfl rfl rfl ?_
 refine WL.yes rfl rfl rfl (ltb rfl) rfl rfl ?_
 refine WL.det (op_nei rfl rfl) rfl rfl rfl ?_
 refine WL.det (op_pick_f rfl rfl rfl) rfl rfl rfl ?_
 refine WL.end (NE.code ?_)
 refine CE.cond_f rfl rfl ?_
 refine CE.skip' (NE.code (CE.seq (CE.region ?_)))
 refine WL.det (op_assign rfl) rfl rfl rfl ?_
 refine WL.end (NE.code (CE.seq (CE.region ?_)))
 have sz12 := (lT (lT (lT (lT (lT (lT (lT (lT (lT (lT (lT (lT m12.size m13.size) md1.size) m14.size) m15.size) m16.size) m17.size) m18.size) m19.size) m20.size) m21.size) m22.size) m23.size)
 have r45 := ((((((((r32.ext m19).ext m20).ext m21).ext m22).ext m23).ext m24).mod m25 (nC (lE (lL (lL r18.lt sz12) lR)) nN)).ext m26)
 refine WL.det (op_loadA (i := 0) (cs := [.slice none 0 0, .slice none 0 0, .slice none 0 0, vI 0, vF 0, vF 0, vF 0, vF 0, vF 0, .bool false, vF 0, vF 0, vF 0]) rfl Try.isAgg33 Try.sizeOf33 r45.rng rfl rfl rfl) rfl rfl rfl ?_
 refine WL.det (op_move rfl) rfl rfl rfl ?_
 refine WL.call (oc_call (vs := [.agg #[.slice none 0 0, .slice none 0 0, .slice none 0 0, vI 0, vF 0, vF 0, vF 0, vF 0, vF 0, .bool false, vF 0, vF 0, vF 0], vI 1]) (cap := []) rfl rfl rfl Try.call30 (c_heldPipe_nil 1 (by omega) w27)) rfl rfl (ltb rfl) ?_
 rintro _ w28 ⟨rfl, m27⟩
 refine WL.det (op_assign rfl) rfl rfl rfl ?_
 refine WL.end (NE.code (CE.seq (CE.seq (CE.region ?_))))
 refine WL.det (op_move rfl) rfl rfl rfl ?_
 refine WL.det (op_lti rfl rfl) rfl rfl rfl ?_
 refine WL.end (NE.code ?_)
 refine CE.cond_f rfl rfl ?_
 refine CE.skip' (NE.code (CE.seq (CE.seq (CE.region ?_))))
 iterate 2 refine WL.det (op_move rfl) rfl rfl rfl ?_
 refine WL.det (op_nei rfl rfl) rfl rfl rfl ?_
 refine WL.end (NE.code ?_)
 refine CE.cond_f rfl rfl ?_
 refine CE.skip' (NE.code (CE.seq (CE.region ?_)))
 refine WL.det (op_assign rfl) rfl rfl rfl ?_
 refine WL.end (NE.code (CE.ret' ?_))
 refine XE.leave1 Try.results8 rfl ?_
 have sz13 := (lT (lT (lT (lT (lT (lT (lT (lT (lT (lT (lT (lT (lT (lT sz9 m11.size) m12.size) m13.size) md1.size) m14.size) m15.size) m16.size) m17.size) m18.size) m19.size) m20.size) m21.size) m22.size) m23.size)
 refine ⟨rfl, (((((((((((((((((((((((((((((Mod.refl [] w).nt m1).nt m2).nt m3).nt m4).nt m5).then m6 ((aC (.inr (lT sz2 lR)) aN))).nt m7).nt m8).then m9 ((aC (.inr (lT sz8 lR)) aN))).nt m10).nt m11).then m12 ((aC (.inr (lT sz9 lR)) aN))).nt m13).nt md1).nt m14).nt m15).nt m16).nt m17).then m18 ((aC (.inr (lT sz10 ge4)) (aC (.inr (lT sz10 ge5)) (aC (.inr (lT sz10 ge6)) (aA h3 (fun j hj => (lT sz10 (fm7.ge j (Nat.lt_of_lt_of_eq hj (markD_len (rd_len lnR) nR).symm)))) (aA h4 (fun j hj => (lT sz10 (fm8.ge j (Nat.lt_of_lt_of_eq hj (markD_len (rd_len lnL) nL).symm)))) aN))))))).nt m19).nt m20).nt m21).nt m22).nt m23).nt m24).then m25 ((aC (.inr (lT sz13 lR)) aN))).nt m26).nt m27)⟩

end Go.Proofs.Ytnahhdnkbbdceaa
