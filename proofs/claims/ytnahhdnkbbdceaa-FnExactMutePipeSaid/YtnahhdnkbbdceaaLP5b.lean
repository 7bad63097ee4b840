/- The law on muting, walked (good). -/
import Derived.Test.YtnahhdnkbbdceaaS5
import Derived.Test.YtnahhdnkbbdceaaT5
import Derived.Test.YtnahhdnkbbdceaaE8
import Derived.Test.YtnahhdnkbbdceaaE13
set_option linter.unusedVariables false
set_option linter.unusedSimpArgs false
namespace Go.Proofs.Ytnahhdnkbbdceaa

set_option maxRecDepth 100000 in
set_option maxHeartbeats 8000000 in
theorem law_mute (nR : Nat) (cR : Nat) (AR : Option Addr) (bR : Nat) (oR : Nat) (esR : List RiR) (nL : Nat) (cL : Nat) (AL : Option Addr) (bL : Nat) (oL : Nat) (esL : List RiR) (nS : Nat) (cS : Nat) (AS : Option Addr) (bS : Nat) (oS : Nat) (xS : List Nat) (k : Int) (kc0 : Nat) (kc1 : Nat) (kc2 : Nat) (ks0 : Nat) (ks1 : Nat) (op : Bool) (lo : Nat) (re : Nat) (sl : Nat) (ZR : List RD) (ZL : List RD) (lnR : esR.length = nR) (hAR : 0 < nR → AR = some ⟨bR, oR, none⟩) (lnL : esL.length = nL) (hAL : 0 < nL → AL = some ⟨bL, oL, none⟩) (lnS : xS.length = nS) (hAS : 0 < nS → AS = some ⟨bS, oS, none⟩) (hT : nR + sumR esR nR + (nL + sumR esL nL) + nS ≤ 1048576) (mR : nR ≤ 1048576) (mL : nL ≤ 1048576) (mS : nS ≤ 1048576) (hzR : ∀ i, (esR.getD i RiR.d).n ≤ 1048576) (hzL : ∀ i, (esL.getD i RiR.d).n ≤ 1048576) (hs : 1 ≤ nR ∧ nR ≤ 3 ∧ nL = nR ∧ nS + 1 = nR) (r3 : nR ≤ 3) (l3 : nL ≤ 3) (h0n : 0 < nR) (h0m : 0 < nL) (hpR : ∀ i, i < nR → 0 < ((esR.map RiR.rd).getD i RD.d).xs.length) (hpL : ∀ i, i < nL → 0 < ((esL.map RiR.rd).getD i RD.d).xs.length) (h0s : 0 < nS) (hv : vPipe nR nL nS (esR.map RiR.rd) (esL.map RiR.rd) xS k kc0 kc1 kc2 ks0 ks1 lo re sl = true) (eZR : ZR = muteD (esR.map RiR.rd)) (eZL : ZL = muteD (esL.map RiR.rd)) (lZR : ZR.length = nR) (lZL : ZL.length = nL) (hzZR : ∀ i, (ZR.getD i RD.d).xs.length ≤ 1048576) (hzZL : ∀ i, (ZL.getD i RD.d).xs.length ≤ 1048576) (w : World) (rR : Rng w bR oR (cat RiR.cells esR)) (rL : Rng w bL oL (cat RiR.cells esL)) (rS : Rng w bS oS (fl xS)) (hFesR : InF w esR) (hFesL : InF w esL) : Cl Try.prog 6 #[.agg #[.slice AR nR cR, .slice AL nL cL, .slice AS nS cS, vI k, vF kc0, vF kc1, vF kc2, vF ks0, vF ks1, .bool op, vF lo, vF re, vF sl]] w fun v w' => v = .bool true ∧ Mod [] w w' := by
  refine Cl.of Try.func6 Try.ntmps6 rfl rfl (ρ := [(0, .agg #[.slice AR nR cR, .slice AL nL cL, .slice AS nS cS, vI k, vF kc0, vF kc1, vF kc2, vF ks0, vF ks1, .bool op, vF lo, vF re, vF sl])]) rfl ?_
  refine CE.seq ?_
  refine CE.region ?_
  refine WL.op (op_box (cs := [.slice AR nR cR, .slice AL nL cL, .slice AS nS cS, vI k, vF kc0, vF kc1, vF kc2, vF ks0, vF ks1, .bool op, vF lo, vF re, vF sl]) rfl rfl) rfl rfl (ltb rfl) ?_
  rintro _ w1 ⟨rfl, r1, m1, z1⟩
  refine WL.det (op_assign rfl) rfl rfl rfl ?_
  refine WL.end ?_
  refine NE.code ?_
  refine CE.seq ?_
  refine CE.region ?_
  refine WL.det (op_assign rfl) rfl rfl rfl ?_
  refine WL.end ?_
  refine NE.code ?_
  refine CE.seq ?_
  refine CE.region ?_
  refine WL.det (op_loadA (i := 0) (cs := [.slice AR nR cR, .slice AL nL cL, .slice AS nS cS, vI k, vF kc0, vF kc1, vF kc2, vF ks0, vF ks1, .bool op, vF lo, vF re, vF sl]) rfl Try.isAgg50 Try.sizeOf50 r1.rng rfl rfl rfl) rfl rfl rfl ?_
  refine WL.det (op_move rfl) rfl rfl rfl ?_
  refine WL.call (oc_call (vs := [.agg #[.slice AR nR cR, .slice AL nL cL, .slice AS nS cS, vI k, vF kc0, vF kc1, vF kc2, vF ks0, vF ks1, .bool op, vF lo, vF re, vF sl], vI 1048576]) (cap := []) rfl rfl rfl Try.call25 (c_szPipe 1048576 nR cR AR bR oR esR nL cL AL bL oL esL nS cS AS bS oS xS k kc0 kc1 kc2 ks0 ks1 op lo re sl lnR hAR lnL hAL lnS hAS (by omega) (by omega) w1 (rR.ext m1) (rL.ext m1) (rS.ext m1) (hFesR.ext m1) (hFesL.ext m1))) rfl rfl (ltb rfl) ?_
  rintro _ w2 ⟨rfl, m2⟩
  refine WL.det (op_assign rfl) rfl rfl rfl ?_
  refine WL.end ?_
  refine NE.code ?_
  iterate 2 refine CE.seq ?_
  refine CE.region ?_
  refine WL.det (op_move rfl) rfl rfl rfl ?_
  refine WL.det (op_lti_f rfl rfl (Int.not_lt.2 (Int.natCast_nonneg _))) rfl rfl rfl ?_
  refine WL.end ?_
  refine NE.code ?_
  refine CE.cond_f rfl rfl ?_
  refine CE.skip' ?_
  refine NE.code ?_
  refine CE.seq ?_
  refine CE.region ?_
  refine WL.det (op_loadA (i := 0) (cs := [.slice AR nR cR, .slice AL nL cL, .slice AS nS cS, vI k, vF kc0, vF kc1, vF kc2, vF ks0, vF ks1, .bool op, vF lo, vF re, vF sl]) rfl Try.isAgg50 Try.sizeOf50 (r1.ext m2).rng rfl rfl rfl) rfl rfl rfl ?_
  refine WL.call (oc_call (vs := [.agg #[.slice AR nR cR, .slice AL nL cL, .slice AS nS cS, vI k, vF kc0, vF kc1, vF kc2, vF ks0, vF ks1, .bool op, vF lo, vF re, vF sl]]) (cap := []) rfl rfl rfl Try.call26 (c_toPipe nR cR AR bR oR esR nL cL AL bL oL esL nS cS AS bS oS xS k kc0 kc1 kc2 ks0 ks1 op lo re sl lnR hAR lnL hAL lnS hAS (by first | assumption | omega) (by first | assumption | omega) (by first | assumption | omega) (by assumption) (by assumption) w2 ((rR.ext m1).ext m2) ((rL.ext m1).ext m2) ((rS.ext m1).ext m2) ((hFesR.ext m1).ext m2) ((hFesL.ext m1).ext m2))) rfl rfl (ltb rfl) ?_
  rintro _ w3 ⟨bR'1, PR1, bL'1, PL1, bS'1, rfl, h1, h2, r2, r3, r4, ge1, ge2, ge3, ne1, ne2, ne3, fm1, fn1, fn2, fn3, fn4, fm2, fn5, fn6, fn7, m3⟩
  refine WL.call (oc_call (vs := [.agg #[vS bR'1 0 nR nR, vS bL'1 0 nL nL, vS bS'1 0 nS nS, vI k, vF kc0, vF kc1, vF kc2, vF ks0, vF ks1, .bool op, vF lo, vF re, vF sl]]) (cap := []) rfl rfl rfl Try.call31 (c_sMuteS nR (esR.map RiR.rd) nL (esL.map RiR.rd) nS xS nR bR'1 PR1 w2.heap.size nL bL'1 PL1 w2.heap.size nS bS'1 k kc0 kc1 kc2 ks0 ks1 op lo re sl ZR ZL (rd_len lnR) (rd_len lnL) lnS (by first | assumption | exact rd_small (by assumption) (by assumption) | exact markD_small (by first | assumption | exact rd_small (by assumption) (by assumption)) _) (by first | assumption | exact rd_small (by assumption) (by assumption) | exact markD_small (by first | assumption | exact rd_small (by assumption) (by assumption)) _) h1 h2 (by first | assumption | omega) (by first | assumption | omega) (by first | assumption | omega) (by first | assumption | omega) (by first | assumption | omega) (by assumption) (by assumption) (by first | assumption | omega) (by first | assumption | omega) (by assumption) (by assumption) (by assumption) (by assumption) (by assumption) w3 r2.rng r3.rng r4.rng fm1 fm2)) rfl rfl (ltb rfl) ?_
  rintro _ w4 ⟨bR'2, cR'1, PR'1, bL'2, cL'1, PL'1, bS'2, cS'1, rfl, h3, h4, r5, r6, r7, ge4, ge5, ge6, ne4, ne5, ne6, fm3, fn8, fn9, fn10, fn11, fm4, fn12, fn13, fn14, m4⟩
  refine WL.det (op_move rfl) rfl rfl rfl ?_
  iterate 2 refine WL.det (op_extract rfl rfl) rfl rfl rfl ?_
  refine WL.op (op_alloc (cs := [.slice none 0 0, .slice none 0 0, .slice none 0 0, vI 0, vF 0, vF 0, vF 0, vF 0, vF 0, .bool false, vF 0, vF 0, vF 0]) Try.zeroValue33 rfl) rfl rfl (ltb rfl) ?_
  rintro _ w5 ⟨rfl, r8, m5, z2⟩
  refine WL.op0 (op_store (i := 0) (cs := [vS bR'2 0 nR cR'1, vS bL'2 0 nL cL'1, vS bS'2 0 nS cS'1, vI k, vF kc0, vF kc1, vF kc2, vF 0, vF 0, .bool op, vF lo, vF re, vF sl]) rfl rfl rfl Try.sizeOf33 rfl r8 rfl (lB rfl) rfl) rfl rfl ?_
  rintro _ w6 ⟨r9, m6, z3⟩
  have r10 : Row w6 w4.heap.size 0 [vS bR'2 0 nR cR'1, vS bL'2 0 nL cL'1, vS bS'2 0 nS cS'1, vI k, vF kc0, vF kc1, vF kc2, vF 0, vF 0, .bool op, vF lo, vF re, vF sl] := Row.congr r9 rfl
  refine WL.det (op_assign rfl) rfl rfl rfl ?_
  refine WL.end ?_
  refine NE.code ?_
  refine CE.seq ?_
  refine CE.region ?_
  have sz1 := (lT (lT m2.size m3.size) m4.size)
  have r11 := (((((r1.ext m2).ext m3).ext m4).ext m5).mod m6 (nC (lE (lL (lL r1.lt sz1) lR)) nN))
  refine WL.det (op_loadA (i := 0) (cs := [.slice AR nR cR, .slice AL nL cL, .slice AS nS cS, vI k, vF kc0, vF kc1, vF kc2, vF ks0, vF ks1, .bool op, vF lo, vF re, vF sl]) rfl Try.isAgg50 Try.sizeOf50 r11.rng rfl rfl rfl) rfl rfl rfl ?_
  have sz2 := (lT (lT (lT m1.size m2.size) m3.size) m4.size)
  have r12 := (Rng.youngS rR (((((rR.ext m1).ext m2).ext m3).ext m4).ext m5) m6 (allge_cons (lT sz2 lR) allge_nil))
  have r13 := (Rng.youngS rL (((((rL.ext m1).ext m2).ext m3).ext m4).ext m5) m6 (allge_cons (lT sz2 lR) allge_nil))
  have r14 := (Rng.youngS rS (((((rS.ext m1).ext m2).ext m3).ext m4).ext m5) m6 (allge_cons (lT sz2 lR) allge_nil))
  refine WL.call (oc_call (vs := [.agg #[.slice AR nR cR, .slice AL nL cL, .slice AS nS cS, vI k, vF kc0, vF kc1, vF kc2, vF ks0, vF ks1, .bool op, vF lo, vF re, vF sl]]) (cap := []) rfl rfl rfl Try.call26 (c_toPipe nR cR AR bR oR esR nL cL AL bL oL esL nS cS AS bS oS xS k kc0 kc1 kc2 ks0 ks1 op lo re sl lnR hAR lnL hAL lnS hAS (by first | assumption | omega) (by first | assumption | omega) (by first | assumption | omega) (by assumption) (by assumption) w6 r12 r13 r14 (InF.mod hFesR (((((hFesR.ext m1).ext m2).ext m3).ext m4).ext m5) m6 (allge_cons (lT sz2 lR) allge_nil)) (InF.mod hFesL (((((hFesL.ext m1).ext m2).ext m3).ext m4).ext m5) m6 (allge_cons (lT sz2 lR) allge_nil)))) rfl rfl (ltb rfl) ?_
  rintro _ w7 ⟨bR'3, PR2, bL'3, PL2, bS'3, rfl, h5, h6, r15, r16, r17, ge7, ge8, ge9, ne7, ne8, ne9, fm5, fn15, fn16, fn17, fn18, fm6, fn19, fn20, fn21, m7⟩
  refine WL.op (op_alloc (cs := [.slice none 0 0, .slice none 0 0, .slice none 0 0, vI 0, vF 0, vF 0, vF 0, vF 0, vF 0, .bool false, vF 0, vF 0, vF 0]) Try.zeroValue33 rfl) rfl rfl (ltb rfl) ?_
  rintro _ w8 ⟨rfl, r18, m8, z4⟩
  refine WL.op0 (op_store (i := 0) (cs := [vS bR'3 0 nR nR, vS bL'3 0 nL nL, vS bS'3 0 nS nS, vI k, vF kc0, vF kc1, vF kc2, vF ks0, vF ks1, .bool op, vF lo, vF re, vF sl]) rfl rfl rfl Try.sizeOf33 rfl r18 rfl (lB rfl) rfl) rfl rfl ?_
  rintro _ w9 ⟨r19, m9, z5⟩
  have r20 : Row w9 w7.heap.size 0 [vS bR'3 0 nR nR, vS bL'3 0 nL nL, vS bS'3 0 nS nS, vI k, vF kc0, vF kc1, vF kc2, vF ks0, vF ks1, .bool op, vF lo, vF re, vF sl] := Row.congr r19 rfl
  refine WL.end ?_
  refine NE.code ?_
  refine CE.seq ?_
  refine CE.region ?_
  refine WL.det (op_loadA (i := 0) (cs := [vS bR'3 0 nR nR, vS bL'3 0 nL nL, vS bS'3 0 nS nS, vI k, vF kc0, vF kc1, vF kc2, vF ks0, vF ks1, .bool op, vF lo, vF re, vF sl]) rfl Try.isAgg33 Try.sizeOf33 r20.rng rfl rfl rfl) rfl rfl rfl ?_
  refine WL.call (oc_call (vs := [.agg #[vS bR'3 0 nR nR, vS bL'3 0 nL nL, vS bS'3 0 nS nS, vI k, vF kc0, vF kc1, vF kc2, vF ks0, vF ks1, .bool op, vF lo, vF re, vF sl]]) (cap := []) rfl rfl rfl Try.call32 (c_iMuteS nR (esR.map RiR.rd) nL (esL.map RiR.rd) nS xS nR bR'3 PR2 w6.heap.size nL bL'3 PL2 w6.heap.size nS bS'3 k kc0 kc1 kc2 ks0 ks1 op lo re sl ZR ZL (rd_len lnR) (rd_len lnL) lnS (by first | assumption | exact rd_small (by assumption) (by assumption) | exact markD_small (by first | assumption | exact rd_small (by assumption) (by assumption)) _) (by first | assumption | exact rd_small (by assumption) (by assumption) | exact markD_small (by first | assumption | exact rd_small (by assumption) (by assumption)) _) h5 h6 (by first | assumption | omega) (by first | assumption | omega) (by first | assumption | omega) (by first | assumption | omega) (by first | assumption | omega) (by assumption) (by assumption) (by first | assumption | omega) (by first | assumption | omega) (by assumption) (by assumption) (by assumption) (by assumption) (by assumption) w9 ((r15.ext m8).mod m9 (nC (lE (lL r15.lt lR)) nN)).rng ((r16.ext m8).mod m9 (nC (lE (lL r16.lt lR)) nN)).rng ((r17.ext m8).mod m9 (nC (lE (lL r17.lt lR)) nN)).rng ((fm5.ext m8).mod m9 (fun j hj => (nC (lE (lL (OF.lt fm5 (Nat.lt_of_lt_of_eq (Nat.lt_of_lt_of_eq hj (rd_len lnR)) (rd_len lnR).symm)) lR)) nN))) ((fm6.ext m8).mod m9 (fun j hj => (nC (lE (lL (OF.lt fm6 (Nat.lt_of_lt_of_eq (Nat.lt_of_lt_of_eq hj (rd_len lnL)) (rd_len lnL).symm)) lR)) nN))))) rfl rfl (ltb rfl) ?_
  rintro _ w10 ⟨bR'4, cR'2, PR'2, bL'4, cL'2, PL'2, bS'4, cS'2, rfl, h7, h8, r21, r22, r23, ge10, ge11, ge12, ne10, ne11, ne12, fm7, fn22, fn23, fn24, fn25, fm8, fn26, fn27, fn28, m10⟩
  refine WL.det (op_move rfl) rfl rfl rfl ?_
  iterate 2 refine WL.det (op_extract rfl rfl) rfl rfl rfl ?_
  refine WL.op (op_alloc (cs := [.slice none 0 0, .slice none 0 0, .slice none 0 0, vI 0, vF 0, vF 0, vF 0, vF 0, vF 0, .bool false, vF 0, vF 0, vF 0]) Try.zeroValue33 rfl) rfl rfl (ltb rfl) ?_
  rintro _ w11 ⟨rfl, r24, m11, z6⟩
  refine WL.op0 (op_store (i := 0) (cs := [vS bR'4 0 nR cR'2, vS bL'4 0 nL cL'2, vS bS'4 0 nS cS'2, vI k, vF kc0, vF kc1, vF kc2, vF 0, vF 0, .bool op, vF lo, vF re, vF sl]) rfl rfl rfl Try.sizeOf33 rfl r24 rfl (lB rfl) rfl) rfl rfl ?_
  rintro _ w12 ⟨r25, m12, z7⟩
  have r26 : Row w12 w10.heap.size 0 [vS bR'4 0 nR cR'2, vS bL'4 0 nL cL'2, vS bS'4 0 nS cS'2, vI k, vF kc0, vF kc1, vF kc2, vF 0, vF 0, .bool op, vF lo, vF re, vF sl] := Row.congr r25 rfl
  refine WL.det (op_assign rfl) rfl rfl rfl ?_
  refine WL.end ?_
  refine NE.code ?_
  iterate 2 refine CE.seq ?_
  refine CE.region ?_
  refine WL.det (op_loadA (i := 0) (cs := [vS bR'4 0 nR cR'2, vS bL'4 0 nL cL'2, vS bS'4 0 nS cS'2, vI k, vF kc0, vF kc1, vF kc2, vF 0, vF 0, .bool op, vF lo, vF re, vF sl]) rfl Try.isAgg33 Try.sizeOf33 r26.rng rfl rfl rfl) rfl rfl rfl ?_
  have sz3 := (lT (lT (lT (lT m6.size m7.size) m8.size) m9.size) m10.size)
  have r27 := ((((((r10.ext m7).ext m8).mod m9 (nC (lE (lL (lL r8.lt (lT m6.size m7.size)) lR)) nN)).ext m10).ext m11).mod m12 (nC (lE (lL (lL r8.lt sz3) lR)) nN))
  refine WL.det (op_loadA (i := 0) (cs := [vS bR'2 0 nR cR'1, vS bL'2 0 nL cL'1, vS bS'2 0 nS cS'1, vI k, vF kc0, vF kc1, vF kc2, vF 0, vF 0, .bool op, vF lo, vF re, vF sl]) rfl Try.isAgg33 Try.sizeOf33 r27.rng rfl rfl rfl) rfl rfl rfl ?_
  have sz4 := (lT (lT m5.size m6.size) m7.size)
  have sz5 := (lT (lT (lT sz4 m8.size) m9.size) m10.size)
  have r28 := ((((((((r5.ext m5).mod m6 (nC (lE (lL r5.lt lR)) nN)).ext m7).ext m8).mod m9 (nC (lE (lL (lL r5.lt sz4) lR)) nN)).ext m10).ext m11).mod m12 (nC (lE (lL (lL r5.lt sz5) lR)) nN))
  have r29 := ((((((((r6.ext m5).mod m6 (nC (lE (lL r6.lt lR)) nN)).ext m7).ext m8).mod m9 (nC (lE (lL (lL r6.lt sz4) lR)) nN)).ext m10).ext m11).mod m12 (nC (lE (lL (lL r6.lt sz5) lR)) nN))
  have r30 := ((((((((r7.ext m5).mod m6 (nC (lE (lL r7.lt lR)) nN)).ext m7).ext m8).mod m9 (nC (lE (lL (lL r7.lt sz4) lR)) nN)).ext m10).ext m11).mod m12 (nC (lE (lL (lL r7.lt sz5) lR)) nN))
  refine WL.call (oc_call (vs := [.agg #[vS bR'4 0 nR cR'2, vS bL'4 0 nL cL'2, vS bS'4 0 nS cS'2, vI k, vF kc0, vF kc1, vF kc2, vF 0, vF 0, .bool op, vF lo, vF re, vF sl], .agg #[vS bR'2 0 nR cR'1, vS bL'2 0 nL cL'1, vS bS'2 0 nS cS'1, vI k, vF kc0, vF kc1, vF kc2, vF 0, vF 0, .bool op, vF lo, vF re, vF sl]]) (cap := []) rfl rfl rfl Try.call28 (c_eqPipe nR ZR nL ZL nS xS cR'2 bR'4 PR'2 w9.heap.size cL'2 bL'4 PL'2 w9.heap.size cS'2 bS'4 cR'1 bR'2 PR'1 w3.heap.size cL'1 bL'2 PL'1 w3.heap.size cS'1 bS'2 k kc0 kc1 kc2 0 0 op lo re sl lZR lZL lnS (by first | assumption | exact rd_small (by assumption) (by assumption) | exact markD_small (by first | assumption | exact rd_small (by assumption) (by assumption)) _) (by first | assumption | exact rd_small (by assumption) (by assumption) | exact markD_small (by first | assumption | exact rd_small (by assumption) (by assumption)) _) (by first | assumption | omega) (by first | assumption | omega) (by first | assumption | omega) h7 h8 h3 h4 w12 ((r21.ext m11).mod m12 (nC (lE (lL r21.lt lR)) nN)).rng ((r22.ext m11).mod m12 (nC (lE (lL r22.lt lR)) nN)).rng ((r23.ext m11).mod m12 (nC (lE (lL r23.lt lR)) nN)).rng r28.rng r29.rng r30.rng ((fm7.ext m11).mod m12 (fun j hj => (nC (lE (lL (OF.lt fm7 (Nat.lt_of_lt_of_eq (Nat.lt_of_lt_of_eq hj lZR) lZR.symm)) lR)) nN))) ((fm8.ext m11).mod m12 (fun j hj => (nC (lE (lL (OF.lt fm8 (Nat.lt_of_lt_of_eq (Nat.lt_of_lt_of_eq hj lZL) lZL.symm)) lR)) nN))) ((((((((fm3.ext m5).mod m6 (fun j hj => (nC (lE (lL (OF.lt fm3 (Nat.lt_of_lt_of_eq (Nat.lt_of_lt_of_eq hj lZR) lZR.symm)) lR)) nN))).ext m7).ext m8).mod m9 (fun j hj => (nC (lE (lL (OF.lt fm3 (Nat.lt_of_lt_of_eq (Nat.lt_of_lt_of_eq hj lZR) lZR.symm)) (lT sz4 lR))) nN))).ext m10).ext m11).mod m12 (fun j hj => (nC (lE (lL (OF.lt fm3 (Nat.lt_of_lt_of_eq (Nat.lt_of_lt_of_eq hj lZR) lZR.symm)) (lT sz5 lR))) nN))) ((((((((fm4.ext m5).mod m6 (fun j hj => (nC (lE (lL (OF.lt fm4 (Nat.lt_of_lt_of_eq (Nat.lt_of_lt_of_eq hj lZL) lZL.symm)) lR)) nN))).ext m7).ext m8).mod m9 (fun j hj => (nC (lE (lL (OF.lt fm4 (Nat.lt_of_lt_of_eq (Nat.lt_of_lt_of_eq hj lZL) lZL.symm)) (lT sz4 lR))) nN))).ext m10).ext m11).mod m12 (fun j hj => (nC (lE (lL (OF.lt fm4 (Nat.lt_of_lt_of_eq (Nat.lt_of_lt_of_eq hj lZL) lZL.symm)) (lT sz5 lR))) nN))))) rfl rfl (ltb rfl) ?_
  rintro _ w13 ⟨rfl, m13⟩
  refine WL.det (op_not rfl) rfl rfl rfl ?_
  refine WL.det (op_move rfl) rfl rfl rfl ?_
  refine WL.yes rfl rfl rfl (ltb rfl) rfl rfl ?_
  refine WL.det (op_move rfl) rfl rfl rfl ?_
  refine WL.yes rfl rfl rfl (ltb rfl) rfl rfl ?_
  refine WL.det (op_move rfl) rfl rfl rfl ?_
  refine WL.yes rfl rfl rfl (ltb rfl) rfl rfl ?_
  refine WL.det (op_nei rfl rfl) rfl rfl rfl ?_
  refine WL.det (op_pick_f rfl rfl rfl) rfl rfl rfl ?_
  refine WL.end ?_
  refine NE.code ?_
  refine CE.cond_f rfl rfl ?_
  refine CE.skip' ?_
  refine NE.code ?_
  iterate 2 refine CE.seq ?_
  refine CE.draw (fun | 2 => some (fun _ wA uA wB => ∃ (bR' : Nat) (PR : List BC) (bL' : Nat) (PL : List BC) (bS' : Nat), uA = .agg #[vS bR' 0 nR nR, vS bL' 0 nL nL, vS bS' 0 nS nS, vI k, vF kc0, vF kc1, vF kc2, vF ks0, vF ks1, .bool op, vF lo, vF re, vF sl] ∧ (PR.length = nR) ∧ (PL.length = nL) ∧ Row wB bR' 0 (olc (esR.map RiR.rd) PR) ∧ Row wB bL' 0 (olc (esL.map RiR.rd) PL) ∧ Row wB bS' 0 (fl xS) ∧ wA.heap.size ≤ bR' ∧ wA.heap.size ≤ bL' ∧ wA.heap.size ≤ bS' ∧ bR' ≠ bL' ∧ bR' ≠ bS' ∧ bL' ≠ bS' ∧ OF wA.heap.size wB (esR.map RiR.rd) PR ∧ (∀ i, i < nR → (PR.getD i BC.d).b ≠ bR') ∧ (∀ i, i < nR → (PR.getD i BC.d).b ≠ bL') ∧ (∀ i, i < nR → (PR.getD i BC.d).b ≠ bS') ∧ (∀ i j, i < nR → j < nL → (PR.getD i BC.d).b ≠ (PL.getD j BC.d).b) ∧ OF wA.heap.size wB (esL.map RiR.rd) PL ∧ (∀ i, i < nL → (PL.getD i BC.d).b ≠ bR') ∧ (∀ i, i < nL → (PL.getD i BC.d).b ≠ bL') ∧ (∀ i, i < nL → (PL.getD i BC.d).b ≠ bS') ∧ Mod [] wA wB) | _ => none) [0, 1, 2] [3, 4] [] (by kernel_rfl) (by kernel_rfl) ?_
  have md1 : Mod [] w13 w13.drew := (Mod.refl _ _).drew
  generalize w13.drew = w14 at md1 ⊢
  refine DR.det (i := 0) rfl rfl (by kernel_rfl) (.free rfl) rfl rfl (fun wD mD => op_loadA (i := 0) (cs := [vS bR'3 0 nR nR, vS bL'3 0 nL nL, vS bS'3 0 nS nS, vI k, vF kc0, vF kc1, vF kc2, vF ks0, vF ks1, .bool op, vF lo, vF re, vF sl]) rfl Try.isAgg33 Try.sizeOf33 ((((((r20.ext m10).ext m11).mod m12 (nC (lE (lL (lL r18.lt (lT m9.size m10.size)) lR)) nN)).ext m13).ext md1).ext mD).rng rfl rfl rfl) ?_
  refine DR.det (i := 1) rfl rfl (by kernel_rfl) (.free rfl) rfl rfl (fun wD mD => op_loadA (i := 0) (cs := [.slice AR nR cR, .slice AL nL cL, .slice AS nS cS, vI k, vF kc0, vF kc1, vF kc2, vF ks0, vF ks1, .bool op, vF lo, vF re, vF sl]) rfl Try.isAgg50 Try.sizeOf50 (((((((((r11.ext m7).ext m8).mod m9 (nC (lE (lL (lL r1.lt (lT (lT (lT sz1 m5.size) m6.size) m7.size)) lR)) nN)).ext m10).ext m11).mod m12 (nC (lE (lL (lL r1.lt (lT (lT (lT (lT (lT (lT sz1 m5.size) m6.size) m7.size) m8.size) m9.size) m10.size)) lR)) nN)).ext m13).ext md1).ext mD).rng rfl rfl rfl) ?_
  refine DR.one (i := 2) rfl rfl (by kernel_rfl) (.free rfl) rfl (ltb rfl) (vs := [.func (.func 26) #[] #[], .agg #[.slice AR nR cR, .slice AL nL cL, .slice AS nS cS, vI k, vF kc0, vF kc1, vF kc2, vF ks0, vF ks1, .bool op, vF lo, vF re, vF sl]]) rfl ?_
  intro w15 m14
  refine ⟨oc_call (vs := [.agg #[.slice AR nR cR, .slice AL nL cL, .slice AS nS cS, vI k, vF kc0, vF kc1, vF kc2, vF ks0, vF ks1, .bool op, vF lo, vF re, vF sl]]) (cap := []) rfl rfl rfl Try.call26 (c_toPipe nR cR AR bR oR esR nL cL AL bL oL esL nS cS AS bS oS xS k kc0 kc1 kc2 ks0 ks1 op lo re sl lnR hAR lnL hAL lnS hAS (by first | assumption | omega) (by first | assumption | omega) (by first | assumption | omega) (by assumption) (by assumption) w15 ((((Rng.youngS rR (((Rng.youngS rR ((r12.ext m7).ext m8) m9 (allge_cons (lT (lT (lT (lT sz2 m5.size) m6.size) m7.size) lR) allge_nil)).ext m10).ext m11) m12 (allge_cons (lT (lT (lT (lT (lT (lT (lT sz2 m5.size) m6.size) m7.size) m8.size) m9.size) m10.size) lR) allge_nil)).ext m13).ext md1).ext m14) ((((Rng.youngS rL (((Rng.youngS rL ((r13.ext m7).ext m8) m9 (allge_cons (lT (lT (lT (lT sz2 m5.size) m6.size) m7.size) lR) allge_nil)).ext m10).ext m11) m12 (allge_cons (lT (lT (lT (lT (lT (lT (lT sz2 m5.size) m6.size) m7.size) m8.size) m9.size) m10.size) lR) allge_nil)).ext m13).ext md1).ext m14) ((((Rng.youngS rS (((Rng.youngS rS ((r14.ext m7).ext m8) m9 (allge_cons (lT (lT (lT (lT sz2 m5.size) m6.size) m7.size) lR) allge_nil)).ext m10).ext m11) m12 (allge_cons (lT (lT (lT (lT (lT (lT (lT sz2 m5.size) m6.size) m7.size) m8.size) m9.size) m10.size) lR) allge_nil)).ext m13).ext md1).ext m14) ((((InF.mod hFesR (((InF.mod hFesR (((InF.mod hFesR (((((hFesR.ext m1).ext m2).ext m3).ext m4).ext m5) m6 (allge_cons (lT sz2 lR) allge_nil)).ext m7).ext m8) m9 (allge_cons (lT (lT (lT (lT sz2 m5.size) m6.size) m7.size) lR) allge_nil)).ext m10).ext m11) m12 (allge_cons (lT (lT (lT (lT (lT (lT (lT sz2 m5.size) m6.size) m7.size) m8.size) m9.size) m10.size) lR) allge_nil)).ext m13).ext md1).ext m14) ((((InF.mod hFesL (((InF.mod hFesL (((InF.mod hFesL (((((hFesL.ext m1).ext m2).ext m3).ext m4).ext m5) m6 (allge_cons (lT sz2 lR) allge_nil)).ext m7).ext m8) m9 (allge_cons (lT (lT (lT (lT sz2 m5.size) m6.size) m7.size) lR) allge_nil)).ext m10).ext m11) m12 (allge_cons (lT (lT (lT (lT (lT (lT (lT sz2 m5.size) m6.size) m7.size) m8.size) m9.size) m10.size) lR) allge_nil)).ext m13).ext md1).ext m14)), ?_⟩
  rintro _ w16 ⟨bR'5, PR3, bL'5, PL3, bS'5, rfl, h9, h10, r31, r32, r33, ge13, ge14, ge15, ne13, ne14, ne15, fm9, fn29, fn30, fn31, fn32, fm10, fn33, fn34, fn35, m15⟩
  refine ⟨(((Mod.refl [] w14).nt m14).nt m15), ?_⟩
  refine DR.done rfl ?_
  intro w17 m16
  have sz6 := (lT (lT m8.size m9.size) m10.size)
  have r34 := ((((((((((r15.ext m8).mod m9 (nC (lE (lL r15.lt lR)) nN)).ext m10).ext m11).mod m12 (nC (lE (lL (lL r15.lt sz6) lR)) nN)).ext m13).ext md1).ext m14).ext m15).ext m16)
  have r35 := ((((((((((r16.ext m8).mod m9 (nC (lE (lL r16.lt lR)) nN)).ext m10).ext m11).mod m12 (nC (lE (lL (lL r16.lt sz6) lR)) nN)).ext m13).ext md1).ext m14).ext m15).ext m16)
  have r36 := ((((((((((r17.ext m8).mod m9 (nC (lE (lL r17.lt lR)) nN)).ext m10).ext m11).mod m12 (nC (lE (lL (lL r17.lt sz6) lR)) nN)).ext m13).ext md1).ext m14).ext m15).ext m16)
  refine WO.call rfl (.free rfl) rfl (ltb rfl) (oc_call (vs := [.agg #[vS bR'3 0 nR nR, vS bL'3 0 nL nL, vS bS'3 0 nS nS, vI k, vF kc0, vF kc1, vF kc2, vF ks0, vF ks1, .bool op, vF lo, vF re, vF sl], .agg #[vS bR'5 0 nR nR, vS bL'5 0 nL nL, vS bS'5 0 nS nS, vI k, vF kc0, vF kc1, vF kc2, vF ks0, vF ks1, .bool op, vF lo, vF re, vF sl]]) (cap := []) rfl rfl rfl Try.call28 (c_eqPipe nR (esR.map RiR.rd) nL (esL.map RiR.rd) nS xS nR bR'3 PR2 w6.heap.size nL bL'3 PL2 w6.heap.size nS bS'3 nR bR'5 PR3 w15.heap.size nL bL'5 PL3 w15.heap.size nS bS'5 k kc0 kc1 kc2 ks0 ks1 op lo re sl (rd_len lnR) (rd_len lnL) lnS (by first | assumption | exact rd_small (by assumption) (by assumption) | exact markD_small (by first | assumption | exact rd_small (by assumption) (by assumption)) _) (by first | assumption | exact rd_small (by assumption) (by assumption) | exact markD_small (by first | assumption | exact rd_small (by assumption) (by assumption)) _) (by first | assumption | omega) (by first | assumption | omega) (by first | assumption | omega) h5 h6 h9 h10 w17 r34.rng r35.rng r36.rng (r31.ext m16).rng (r32.ext m16).rng (r33.ext m16).rng ((((((((((fm5.ext m8).mod m9 (fun j hj => (nC (lE (lL (OF.lt fm5 (Nat.lt_of_lt_of_eq (Nat.lt_of_lt_of_eq hj (rd_len lnR)) (rd_len lnR).symm)) lR)) nN))).ext m10).ext m11).mod m12 (fun j hj => (nC (lE (lL (OF.lt fm5 (Nat.lt_of_lt_of_eq (Nat.lt_of_lt_of_eq hj (rd_len lnR)) (rd_len lnR).symm)) (lT sz6 lR))) nN))).ext m13).ext md1).ext m14).ext m15).ext m16) ((((((((((fm6.ext m8).mod m9 (fun j hj => (nC (lE (lL (OF.lt fm6 (Nat.lt_of_lt_of_eq (Nat.lt_of_lt_of_eq hj (rd_len lnL)) (rd_len lnL).symm)) lR)) nN))).ext m10).ext m11).mod m12 (fun j hj => (nC (lE (lL (OF.lt fm6 (Nat.lt_of_lt_of_eq (Nat.lt_of_lt_of_eq hj (rd_len lnL)) (rd_len lnL).symm)) (lT sz6 lR))) nN))).ext m13).ext md1).ext m14).ext m15).ext m16) (fm9.ext m16) (fm10.ext m16))) ?_
  rintro _ w18 ⟨rfl, m17⟩
  refine WO.det (op_not rfl) rfl (.free rfl) rfl rfl ?_
  refine WO.end ?_
  refine NE.code ?_
  refine CE.cond_f rfl rfl ?_
  refine CE.skip' ?_
  refine NE.code ?_
  refine CE.seq ?_
  refine CE.region ?_
  refine WL.det (op_assign rfl) rfl rfl rfl ?_
  refine WL.end ?_
  refine NE.code ?_
  refine CE.seq ?_
  refine CE.region ?_
  have r37 := (((((((((r20.ext m10).ext m11).mod m12 (nC (lE (lL (lL r18.lt (lT m9.size m10.size)) lR)) nN)).ext m13).ext md1).ext m14).ext m15).ext m16).ext m17)
  refine WL.det (op_loadA (i := 0) (cs := [vS bR'3 0 nR nR, vS bL'3 0 nL nL, vS bS'3 0 nS nS, vI k, vF kc0, vF kc1, vF kc2, vF ks0, vF ks1, .bool op, vF lo, vF re, vF sl]) rfl Try.isAgg33 Try.sizeOf33 r37.rng rfl rfl rfl) rfl rfl rfl ?_
  refine WL.det (op_move rfl) rfl rfl rfl ?_
  refine WL.call (oc_call (vs := [.agg #[vS bR'3 0 nR nR, vS bL'3 0 nL nL, vS bS'3 0 nS nS, vI k, vF kc0, vF kc1, vF kc2, vF ks0, vF ks1, .bool op, vF lo, vF re, vF sl], vI 1]) (cap := []) rfl rfl rfl Try.call29 (c_markPipe_x nR (esR.map RiR.rd) nL (esL.map RiR.rd) nS xS nR bR'3 PR2 w6.heap.size nL bL'3 PL2 w6.heap.size nS bS'3 k kc0 kc1 kc2 ks0 ks1 op lo re sl 1 (rd_len lnR) (rd_len lnL) lnS (by first | assumption | exact rd_small (by assumption) (by assumption) | exact markD_small (by first | assumption | exact rd_small (by assumption) (by assumption)) _) (by first | assumption | exact rd_small (by assumption) (by assumption) | exact markD_small (by first | assumption | exact rd_small (by assumption) (by assumption)) _) h5 h6 (by first | assumption | omega) (by first | assumption | omega) (by first | assumption | omega) (by first | decide | omega) w18 (r34.ext m17) (r35.ext m17) (r36.ext m17) ne7 ne8 ne9 (((((((((((fm5.ext m8).mod m9 (fun j hj => (nC (lE (lL (OF.lt fm5 (Nat.lt_of_lt_of_eq (Nat.lt_of_lt_of_eq hj (rd_len lnR)) (rd_len lnR).symm)) lR)) nN))).ext m10).ext m11).mod m12 (fun j hj => (nC (lE (lL (OF.lt fm5 (Nat.lt_of_lt_of_eq (Nat.lt_of_lt_of_eq hj (rd_len lnR)) (rd_len lnR).symm)) (lT sz6 lR))) nN))).ext m13).ext md1).ext m14).ext m15).ext m16).ext m17) (fun j hj => (fn15 j hj)) (fun j hj => (fn16 j hj)) (fun j hj => (fn17 j hj)) (fun j q hj hq => (fn18 j q hj hq)) (((((((((((fm6.ext m8).mod m9 (fun j hj => (nC (lE (lL (OF.lt fm6 (Nat.lt_of_lt_of_eq (Nat.lt_of_lt_of_eq hj (rd_len lnL)) (rd_len lnL).symm)) lR)) nN))).ext m10).ext m11).mod m12 (fun j hj => (nC (lE (lL (OF.lt fm6 (Nat.lt_of_lt_of_eq (Nat.lt_of_lt_of_eq hj (rd_len lnL)) (rd_len lnL).symm)) (lT sz6 lR))) nN))).ext m13).ext md1).ext m14).ext m15).ext m16).ext m17) (fun j hj => (fn19 j hj)) (fun j hj => (fn20 j hj)) (fun j hj => (fn21 j hj)))) rfl rfl (ltb rfl) ?_
  rintro _ w19 ⟨rfl, r38, r39, r40, fm11, fm12, m18⟩
  refine WL.det (op_assign rfl) rfl rfl rfl ?_
  refine WL.end ?_
  refine NE.code ?_
  iterate 2 refine CE.seq ?_
  refine CE.region ?_
  refine WL.det (op_move rfl) rfl rfl rfl ?_
  refine WL.det (op_lti_f rfl rfl (Int.not_lt.2 (Int.natCast_nonneg _))) rfl rfl rfl ?_
  refine WL.det (op_move rfl) rfl rfl rfl ?_
  have r41 := (((((((r26.ext m13).ext md1).ext m14).ext m15).ext m16).ext m17).mod m18 (nC (lG (lL (lL r15.lt sz6) lR)) (nC (lG (lL (lL r16.lt sz6) lR)) (nC (lG (lL (lL r17.lt sz6) lR)) (nA h5 (fun j hj => (lE (lL (OF.lt fm5 (Nat.lt_of_lt_of_eq hj (rd_len lnR).symm)) (lT sz6 lR)))) (nA h6 (fun j hj => (lE (lL (OF.lt fm6 (Nat.lt_of_lt_of_eq hj (rd_len lnL).symm)) (lT sz6 lR)))) nN))))))
  refine WL.yes rfl rfl rfl (ltb rfl) rfl rfl ?_
  refine WL.det (op_loadA (i := 0) (cs := [vS bR'4 0 nR cR'2, vS bL'4 0 nL cL'2, vS bS'4 0 nS cS'2, vI k, vF kc0, vF kc1, vF kc2, vF 0, vF 0, .bool op, vF lo, vF re, vF sl]) rfl Try.isAgg33 Try.sizeOf33 r41.rng rfl rfl rfl) rfl rfl rfl ?_
  have r42 := (((((((r27.ext m13).ext md1).ext m14).ext m15).ext m16).ext m17).mod m18 (nC (lE (lL (lL r8.lt m6.size) ge7)) (nC (lE (lL (lL r8.lt m6.size) ge8)) (nC (lE (lL (lL r8.lt m6.size) ge9)) (nA h5 (fun j hj => (lG (lL (lL r8.lt m6.size) (fm11.ge j (Nat.lt_of_lt_of_eq hj (markD_len (rd_len lnR) nR).symm))))) (nA h6 (fun j hj => (lG (lL (lL r8.lt m6.size) (fm12.ge j (Nat.lt_of_lt_of_eq hj (markD_len (rd_len lnL) nL).symm))))) nN))))))
  refine WL.yes rfl rfl rfl (ltb rfl) rfl rfl ?_
  refine WL.det (op_loadA (i := 0) (cs := [vS bR'2 0 nR cR'1, vS bL'2 0 nL cL'1, vS bS'2 0 nS cS'1, vI k, vF kc0, vF kc1, vF kc2, vF 0, vF 0, .bool op, vF lo, vF re, vF sl]) rfl Try.isAgg33 Try.sizeOf33 r42.rng rfl rfl rfl) rfl rfl rfl ?_
  have r43 := (((((((((r21.ext m11).mod m12 (nC (lE (lL r21.lt lR)) nN)).ext m13).ext md1).ext m14).ext m15).ext m16).ext m17).mod m18 (nC (lG (lL (lL r15.lt (lT m8.size m9.size)) ge10)) (nC (lG (lL (lL r16.lt (lT m8.size m9.size)) ge10)) (nC (lG (lL (lL r17.lt (lT m8.size m9.size)) ge10)) (nA h5 (fun j hj => (lE (lL (OF.lt fm5 (Nat.lt_of_lt_of_eq hj (rd_len lnR).symm)) (lT (lT m8.size m9.size) ge10)))) (nA h6 (fun j hj => (lE (lL (OF.lt fm6 (Nat.lt_of_lt_of_eq hj (rd_len lnL).symm)) (lT (lT m8.size m9.size) ge10)))) nN))))))
  have r44 := (((((((((r22.ext m11).mod m12 (nC (lE (lL r22.lt lR)) nN)).ext m13).ext md1).ext m14).ext m15).ext m16).ext m17).mod m18 (nC (lG (lL (lL r15.lt (lT m8.size m9.size)) ge11)) (nC (lG (lL (lL r16.lt (lT m8.size m9.size)) ge11)) (nC (lG (lL (lL r17.lt (lT m8.size m9.size)) ge11)) (nA h5 (fun j hj => (lE (lL (OF.lt fm5 (Nat.lt_of_lt_of_eq hj (rd_len lnR).symm)) (lT (lT m8.size m9.size) ge11)))) (nA h6 (fun j hj => (lE (lL (OF.lt fm6 (Nat.lt_of_lt_of_eq hj (rd_len lnL).symm)) (lT (lT m8.size m9.size) ge11)))) nN))))))
  have r45 := (((((((((r23.ext m11).mod m12 (nC (lE (lL r23.lt lR)) nN)).ext m13).ext md1).ext m14).ext m15).ext m16).ext m17).mod m18 (nC (lG (lL (lL r15.lt (lT m8.size m9.size)) ge12)) (nC (lG (lL (lL r16.lt (lT m8.size m9.size)) ge12)) (nC (lG (lL (lL r17.lt (lT m8.size m9.size)) ge12)) (nA h5 (fun j hj => (lE (lL (OF.lt fm5 (Nat.lt_of_lt_of_eq hj (rd_len lnR).symm)) (lT (lT m8.size m9.size) ge12)))) (nA h6 (fun j hj => (lE (lL (OF.lt fm6 (Nat.lt_of_lt_of_eq hj (rd_len lnL).symm)) (lT (lT m8.size m9.size) ge12)))) nN))))))
  have r46 := (((((((r28.ext m13).ext md1).ext m14).ext m15).ext m16).ext m17).mod m18 (nC (lE (lL (lL r5.lt (lT m5.size m6.size)) ge7)) (nC (lE (lL (lL r5.lt (lT m5.size m6.size)) ge8)) (nC (lE (lL (lL r5.lt (lT m5.size m6.size)) ge9)) (nA h5 (fun j hj => (lG (lL (lL r5.lt (lT m5.size m6.size)) (fm11.ge j (Nat.lt_of_lt_of_eq hj (markD_len (rd_len lnR) nR).symm))))) (nA h6 (fun j hj => (lG (lL (lL r5.lt (lT m5.size m6.size)) (fm12.ge j (Nat.lt_of_lt_of_eq hj (markD_len (rd_len lnL) nL).symm))))) nN))))))
  have r47 := (((((((r29.ext m13).ext md1).ext m14).ext m15).ext m16).ext m17).mod m18 (nC (lE (lL (lL r6.lt (lT m5.size m6.size)) ge7)) (nC (lE (lL (lL r6.lt (lT m5.size m6.size)) ge8)) (nC (lE (lL (lL r6.lt (lT m5.size m6.size)) ge9)) (nA h5 (fun j hj => (lG (lL (lL r6.lt (lT m5.size m6.size)) (fm11.ge j (Nat.lt_of_lt_of_eq hj (markD_len (rd_len lnR) nR).symm))))) (nA h6 (fun j hj => (lG (lL (lL r6.lt (lT m5.size m6.size)) (fm12.ge j (Nat.lt_of_lt_of_eq hj (markD_len (rd_len lnL) nL).symm))))) nN))))))
  have r48 := (((((((r30.ext m13).ext md1).ext m14).ext m15).ext m16).ext m17).mod m18 (nC (lE (lL (lL r7.lt (lT m5.size m6.size)) ge7)) (nC (lE (lL (lL r7.lt (lT m5.size m6.size)) ge8)) (nC (lE (lL (lL r7.lt (lT m5.size m6.size)) ge9)) (nA h5 (fun j hj => (lG (lL (lL r7.lt (lT m5.size m6.size)) (fm11.ge j (Nat.lt_of_lt_of_eq hj (markD_len (rd_len lnR) nR).symm))))) (nA h6 (fun j hj => (lG (lL (lL r7.lt (lT m5.size m6.size)) (fm12.ge j (Nat.lt_of_lt_of_eq hj (markD_len (rd_len lnL) nL).symm))))) nN))))))
  refine WL.yes rfl rfl rfl (ltb rfl) rfl rfl ?_
  refine WL.call (oc_call (vs := [.agg #[vS bR'4 0 nR cR'2, vS bL'4 0 nL cL'2, vS bS'4 0 nS cS'2, vI k, vF kc0, vF kc1, vF kc2, vF 0, vF 0, .bool op, vF lo, vF re, vF sl], .agg #[vS bR'2 0 nR cR'1, vS bL'2 0 nL cL'1, vS bS'2 0 nS cS'1, vI k, vF kc0, vF kc1, vF kc2, vF 0, vF 0, .bool op, vF lo, vF re, vF sl]]) (cap := []) rfl rfl rfl Try.call28 (c_eqPipe nR ZR nL ZL nS xS cR'2 bR'4 PR'2 w9.heap.size cL'2 bL'4 PL'2 w9.heap.size cS'2 bS'4 cR'1 bR'2 PR'1 w3.heap.size cL'1 bL'2 PL'1 w3.heap.size cS'1 bS'2 k kc0 kc1 kc2 0 0 op lo re sl lZR lZL lnS (by first | assumption | exact rd_small (by assumption) (by assumption) | exact markD_small (by first | assumption | exact rd_small (by assumption) (by assumption)) _) (by first | assumption | exact rd_small (by assumption) (by assumption) | exact markD_small (by first | assumption | exact rd_small (by assumption) (by assumption)) _) (by first | assumption | omega) (by first | assumption | omega) (by first | assumption | omega) h7 h8 h3 h4 w19 r43.rng r44.rng r45.rng r46.rng r47.rng r48.rng (((((((((fm7.ext m11).mod m12 (fun j hj => (nC (lE (lL (OF.lt fm7 (Nat.lt_of_lt_of_eq (Nat.lt_of_lt_of_eq hj lZR) lZR.symm)) lR)) nN))).ext m13).ext md1).ext m14).ext m15).ext m16).ext m17).mod m18 (fun j hj => (nC (lG (lL (lL r15.lt (lT m8.size m9.size)) (fm7.ge j (Nat.lt_of_lt_of_eq (Nat.lt_of_lt_of_eq hj lZR) lZR.symm)))) (nC (lG (lL (lL r16.lt (lT m8.size m9.size)) (fm7.ge j (Nat.lt_of_lt_of_eq (Nat.lt_of_lt_of_eq hj lZR) lZR.symm)))) (nC (lG (lL (lL r17.lt (lT m8.size m9.size)) (fm7.ge j (Nat.lt_of_lt_of_eq (Nat.lt_of_lt_of_eq hj lZR) lZR.symm)))) (nA h5 (fun q hq => Ne.symm (lG (lL (lL (OF.lt fm5 (Nat.lt_of_lt_of_eq hq (rd_len lnR).symm)) (lT m8.size m9.size)) (fm7.ge j (Nat.lt_of_lt_of_eq (Nat.lt_of_lt_of_eq hj lZR) lZR.symm))))) (nA h6 (fun q hq => Ne.symm (lG (lL (lL (OF.lt fm6 (Nat.lt_of_lt_of_eq hq (rd_len lnL).symm)) (lT m8.size m9.size)) (fm7.ge j (Nat.lt_of_lt_of_eq (Nat.lt_of_lt_of_eq hj lZR) lZR.symm))))) nN))))))) (((((((((fm8.ext m11).mod m12 (fun j hj => (nC (lE (lL (OF.lt fm8 (Nat.lt_of_lt_of_eq (Nat.lt_of_lt_of_eq hj lZL) lZL.symm)) lR)) nN))).ext m13).ext md1).ext m14).ext m15).ext m16).ext m17).mod m18 (fun j hj => (nC (lG (lL (lL r15.lt (lT m8.size m9.size)) (fm8.ge j (Nat.lt_of_lt_of_eq (Nat.lt_of_lt_of_eq hj lZL) lZL.symm)))) (nC (lG (lL (lL r16.lt (lT m8.size m9.size)) (fm8.ge j (Nat.lt_of_lt_of_eq (Nat.lt_of_lt_of_eq hj lZL) lZL.symm)))) (nC (lG (lL (lL r17.lt (lT m8.size m9.size)) (fm8.ge j (Nat.lt_of_lt_of_eq (Nat.lt_of_lt_of_eq hj lZL) lZL.symm)))) (nA h5 (fun q hq => Ne.symm (lG (lL (lL (OF.lt fm5 (Nat.lt_of_lt_of_eq hq (rd_len lnR).symm)) (lT m8.size m9.size)) (fm8.ge j (Nat.lt_of_lt_of_eq (Nat.lt_of_lt_of_eq hj lZL) lZL.symm))))) (nA h6 (fun q hq => Ne.symm (lG (lL (lL (OF.lt fm6 (Nat.lt_of_lt_of_eq hq (rd_len lnL).symm)) (lT m8.size m9.size)) (fm8.ge j (Nat.lt_of_lt_of_eq (Nat.lt_of_lt_of_eq hj lZL) lZL.symm))))) nN))))))) (((((((((((((((fm3.ext m5).mod m6 (fun j hj => (nC (lE (lL (OF.lt fm3 (Nat.lt_of_lt_of_eq (Nat.lt_of_lt_of_eq hj lZR) lZR.symm)) lR)) nN))).ext m7).ext m8).mod m9 (fun j hj => (nC (lE (lL (OF.lt fm3 (Nat.lt_of_lt_of_eq (Nat.lt_of_lt_of_eq hj lZR) lZR.symm)) (lT sz4 lR))) nN))).ext m10).ext m11).mod m12 (fun j hj => (nC (lE (lL (OF.lt fm3 (Nat.lt_of_lt_of_eq (Nat.lt_of_lt_of_eq hj lZR) lZR.symm)) (lT sz5 lR))) nN))).ext m13).ext md1).ext m14).ext m15).ext m16).ext m17).mod m18 (fun j hj => (nC (lE (lL (OF.lt fm3 (Nat.lt_of_lt_of_eq (Nat.lt_of_lt_of_eq hj lZR) lZR.symm)) (lT (lT m5.size m6.size) ge7))) (nC (lE (lL (OF.lt fm3 (Nat.lt_of_lt_of_eq (Nat.lt_of_lt_of_eq hj lZR) lZR.symm)) (lT (lT m5.size m6.size) ge8))) (nC (lE (lL (OF.lt fm3 (Nat.lt_of_lt_of_eq (Nat.lt_of_lt_of_eq hj lZR) lZR.symm)) (lT (lT m5.size m6.size) ge9))) (nA h5 (fun q hq => Ne.symm (lE (lL (lL (OF.lt fm3 (Nat.lt_of_lt_of_eq (Nat.lt_of_lt_of_eq hj lZR) lZR.symm)) (lT m5.size m6.size)) (fm5.ge q (Nat.lt_of_lt_of_eq hq (rd_len lnR).symm))))) (nA h6 (fun q hq => Ne.symm (lE (lL (lL (OF.lt fm3 (Nat.lt_of_lt_of_eq (Nat.lt_of_lt_of_eq hj lZR) lZR.symm)) (lT m5.size m6.size)) (fm6.ge q (Nat.lt_of_lt_of_eq hq (rd_len lnL).symm))))) nN))))))) (((((((((((((((fm4.ext m5).mod m6 (fun j hj => (nC (lE (lL (OF.lt fm4 (Nat.lt_of_lt_of_eq (Nat.lt_of_lt_of_eq hj lZL) lZL.symm)) lR)) nN))).ext m7).ext m8).mod m9 (fun j hj => (nC (lE (lL (OF.lt fm4 (Nat.lt_of_lt_of_eq (Nat.lt_of_lt_of_eq hj lZL) lZL.symm)) (lT sz4 lR))) nN))).ext m10).ext m11).mod m12 (fun j hj => (nC (lE (lL (OF.lt fm4 (Nat.lt_of_lt_of_eq (Nat.lt_of_lt_of_eq hj lZL) lZL.symm)) (lT sz5 lR))) nN))).ext m13).ext md1).ext m14).ext m15).ext m16).ext m17).mod m18 (fun j hj => (nC (lE (lL (OF.lt fm4 (Nat.lt_of_lt_of_eq (Nat.lt_of_lt_of_eq hj lZL) lZL.symm)) (lT (lT m5.size m6.size) ge7))) (nC (lE (lL (OF.lt fm4 (Nat.lt_of_lt_of_eq (Nat.lt_of_lt_of_eq hj lZL) lZL.symm)) (lT (lT m5.size m6.size) ge8))) (nC (lE (lL (OF.lt fm4 (Nat.lt_of_lt_of_eq (Nat.lt_of_lt_of_eq hj lZL) lZL.symm)) (lT (lT m5.size m6.size) ge9))) (nA h5 (fun q hq => Ne.symm (lE (lL (lL (OF.lt fm4 (Nat.lt_of_lt_of_eq (Nat.lt_of_lt_of_eq hj lZL) lZL.symm)) (lT m5.size m6.size)) (fm5.ge q (Nat.lt_of_lt_of_eq hq (rd_len lnR).symm))))) (nA h6 (fun q hq => Ne.symm (lE (lL (lL (OF.lt fm4 (Nat.lt_of_lt_of_eq (Nat.lt_of_lt_of_eq hj lZL) lZL.symm)) (lT m5.size m6.size)) (fm6.ge q (Nat.lt_of_lt_of_eq hq (rd_len lnL).symm))))) nN))))))))) rfl rfl (ltb rfl) ?_
  rintro _ w20 ⟨rfl, m19⟩
  refine WL.yes rfl rfl rfl (ltb rfl) rfl rfl ?_
  refine WL.det (op_not rfl) rfl rfl rfl ?_
  refine WL.det (op_pick_f rfl rfl rfl) rfl rfl rfl ?_
  refine WL.det (op_move rfl) rfl rfl rfl ?_
  refine WL.yes rfl rfl rfl (ltb rfl) rfl rfl ?_
  refine WL.det (op_move rfl) rfl rfl rfl ?_
  refine WL.yes rfl rfl rfl (ltb rfl) rfl rfl ?_
  refine WL.det (op_move rfl) rfl rfl rfl ?_
  refine WL.yes rfl rfl rfl (ltb rfl) rfl rfl ?_
  refine WL.det (op_nei rfl rfl) rfl rfl rfl ?_
  refine WL.det (op_pick_f rfl rfl rfl) rfl rfl rfl ?_
  refine WL.end ?_
  refine NE.code ?_
  refine CE.cond_f rfl rfl ?_
  refine CE.skip' ?_
  refine NE.code ?_
  refine CE.seq ?_
  refine CE.region ?_
  refine WL.det (op_assign rfl) rfl rfl rfl ?_
  refine WL.end ?_
  refine NE.code ?_
  refine CE.seq ?_
  refine CE.region ?_
  refine WL.det (op_loadA (i := 0) (cs := [vS bR'4 0 nR cR'2, vS bL'4 0 nL cL'2, vS bS'4 0 nS cS'2, vI k, vF kc0, vF kc1, vF kc2, vF 0, vF 0, .bool op, vF lo, vF re, vF sl]) rfl Try.isAgg33 Try.sizeOf33 (r41.ext m19).rng rfl rfl rfl) rfl rfl rfl ?_
  refine WL.det (op_move rfl) rfl rfl rfl ?_
  refine WL.call (oc_call (vs := [.agg #[vS bR'4 0 nR cR'2, vS bL'4 0 nL cL'2, vS bS'4 0 nS cS'2, vI k, vF kc0, vF kc1, vF kc2, vF 0, vF 0, .bool op, vF lo, vF re, vF sl], vI 1]) (cap := []) rfl rfl rfl Try.call29 (c_markPipe_x nR ZR nL ZL nS xS cR'2 bR'4 PR'2 w9.heap.size cL'2 bL'4 PL'2 w9.heap.size cS'2 bS'4 k kc0 kc1 kc2 0 0 op lo re sl 1 lZR lZL lnS (by first | assumption | exact rd_small (by assumption) (by assumption) | exact markD_small (by first | assumption | exact rd_small (by assumption) (by assumption)) _) (by first | assumption | exact rd_small (by assumption) (by assumption) | exact markD_small (by first | assumption | exact rd_small (by assumption) (by assumption)) _) h7 h8 (by first | assumption | omega) (by first | assumption | omega) (by first | assumption | omega) (by first | decide | omega) w20 (r43.ext m19) (r44.ext m19) (r45.ext m19) ne10 ne11 ne12 ((((((((((fm7.ext m11).mod m12 (fun j hj => (nC (lE (lL (OF.lt fm7 (Nat.lt_of_lt_of_eq (Nat.lt_of_lt_of_eq hj lZR) lZR.symm)) lR)) nN))).ext m13).ext md1).ext m14).ext m15).ext m16).ext m17).mod m18 (fun j hj => (nC (lG (lL (lL r15.lt (lT m8.size m9.size)) (fm7.ge j (Nat.lt_of_lt_of_eq (Nat.lt_of_lt_of_eq hj lZR) lZR.symm)))) (nC (lG (lL (lL r16.lt (lT m8.size m9.size)) (fm7.ge j (Nat.lt_of_lt_of_eq (Nat.lt_of_lt_of_eq hj lZR) lZR.symm)))) (nC (lG (lL (lL r17.lt (lT m8.size m9.size)) (fm7.ge j (Nat.lt_of_lt_of_eq (Nat.lt_of_lt_of_eq hj lZR) lZR.symm)))) (nA h5 (fun q hq => Ne.symm (lG (lL (lL (OF.lt fm5 (Nat.lt_of_lt_of_eq hq (rd_len lnR).symm)) (lT m8.size m9.size)) (fm7.ge j (Nat.lt_of_lt_of_eq (Nat.lt_of_lt_of_eq hj lZR) lZR.symm))))) (nA h6 (fun q hq => Ne.symm (lG (lL (lL (OF.lt fm6 (Nat.lt_of_lt_of_eq hq (rd_len lnL).symm)) (lT m8.size m9.size)) (fm7.ge j (Nat.lt_of_lt_of_eq (Nat.lt_of_lt_of_eq hj lZR) lZR.symm))))) nN))))))).ext m19) (fun j hj => (fn22 j hj)) (fun j hj => (fn23 j hj)) (fun j hj => (fn24 j hj)) (fun j q hj hq => (fn25 j q hj hq)) ((((((((((fm8.ext m11).mod m12 (fun j hj => (nC (lE (lL (OF.lt fm8 (Nat.lt_of_lt_of_eq (Nat.lt_of_lt_of_eq hj lZL) lZL.symm)) lR)) nN))).ext m13).ext md1).ext m14).ext m15).ext m16).ext m17).mod m18 (fun j hj => (nC (lG (lL (lL r15.lt (lT m8.size m9.size)) (fm8.ge j (Nat.lt_of_lt_of_eq (Nat.lt_of_lt_of_eq hj lZL) lZL.symm)))) (nC (lG (lL (lL r16.lt (lT m8.size m9.size)) (fm8.ge j (Nat.lt_of_lt_of_eq (Nat.lt_of_lt_of_eq hj lZL) lZL.symm)))) (nC (lG (lL (lL r17.lt (lT m8.size m9.size)) (fm8.ge j (Nat.lt_of_lt_of_eq (Nat.lt_of_lt_of_eq hj lZL) lZL.symm)))) (nA h5 (fun q hq => Ne.symm (lG (lL (lL (OF.lt fm5 (Nat.lt_of_lt_of_eq hq (rd_len lnR).symm)) (lT m8.size m9.size)) (fm8.ge j (Nat.lt_of_lt_of_eq (Nat.lt_of_lt_of_eq hj lZL) lZL.symm))))) (nA h6 (fun q hq => Ne.symm (lG (lL (lL (OF.lt fm6 (Nat.lt_of_lt_of_eq hq (rd_len lnL).symm)) (lT m8.size m9.size)) (fm8.ge j (Nat.lt_of_lt_of_eq (Nat.lt_of_lt_of_eq hj lZL) lZL.symm))))) nN))))))).ext m19) (fun j hj => (fn26 j hj)) (fun j hj => (fn27 j hj)) (fun j hj => (fn28 j hj)))) rfl rfl (ltb rfl) ?_
  rintro _ w21 ⟨rfl, r49, r50, r51, fm13, fm14, m20⟩
  refine WL.det (op_assign rfl) rfl rfl rfl ?_
  refine WL.end ?_
  refine NE.code ?_
  refine CE.seq ?_
  refine CE.region ?_
  refine WL.det (op_assign rfl) rfl rfl rfl ?_
  refine WL.end ?_
  refine NE.code ?_
  refine CE.seq ?_
  refine CE.region ?_
  have r52 := ((r41.ext m19).mod m20 (nC (lG (lL r21.lt lR)) (nC (lG (lL r22.lt lR)) (nC (lG (lL r23.lt lR)) (nA h7 (fun j hj => (lE (lL (OF.lt fm7 (Nat.lt_of_lt_of_eq hj lZR.symm)) lR))) (nA h8 (fun j hj => (lE (lL (OF.lt fm8 (Nat.lt_of_lt_of_eq hj lZL.symm)) lR))) nN))))))
  refine WL.det (op_loadA (i := 0) (cs := [vS bR'4 0 nR cR'2, vS bL'4 0 nL cL'2, vS bS'4 0 nS cS'2, vI k, vF kc0, vF kc1, vF kc2, vF 0, vF 0, .bool op, vF lo, vF re, vF sl]) rfl Try.isAgg33 Try.sizeOf33 r52.rng rfl rfl rfl) rfl rfl rfl ?_
  refine WL.det (op_move rfl) rfl rfl rfl ?_
  refine WL.call (oc_call (vs := [.agg #[vS bR'4 0 nR cR'2, vS bL'4 0 nL cL'2, vS bS'4 0 nS cS'2, vI k, vF kc0, vF kc1, vF kc2, vF 0, vF 0, .bool op, vF lo, vF re, vF sl], vI 1]) (cap := []) rfl rfl rfl Try.call30 (c_heldPipe_x nR (markD ZR 1 nR) nL (markD ZL (sumK ZR 1 nR) nL) nS (marks xS (sumK ZL (sumK ZR 1 nR) nL) nS) cR'2 bR'4 PR'2 w9.heap.size cL'2 bL'4 PL'2 w9.heap.size cS'2 bS'4 k kc0 kc1 kc2 0 0 op lo re sl 1 (markD_len lZR nR) (markD_len lZL nL) (marks_len lnS (Nat.le_refl _)) (by first | assumption | exact rd_small (by assumption) (by assumption) | exact markD_small (by first | assumption | exact rd_small (by assumption) (by assumption)) _) (by first | assumption | exact rd_small (by assumption) (by assumption) | exact markD_small (by first | assumption | exact rd_small (by assumption) (by assumption)) _) h7 h8 (by first | assumption | omega) (by first | assumption | omega) (by first | assumption | omega) (by first | decide | omega) (by first | exact markD_held (by first | assumption | exact rd_len (by assumption)) | assumption) (by first | exact heldL2 (by first | assumption | exact rd_len (by assumption)) (by first | assumption | exact rd_len (by assumption)) | assumption) (by first | exact held2 (by first | assumption | exact rd_len (by assumption)) (by first | assumption | exact rd_len (by assumption)) | assumption) w21 r49.rng r50.rng r51.rng fm13 fm14)) rfl rfl (ltb rfl) ?_
  rintro _ w22 ⟨rfl, m21⟩
  refine WL.det (op_assign rfl) rfl rfl rfl ?_
  refine WL.end ?_
  refine NE.code ?_
  iterate 2 refine CE.seq ?_
  refine CE.region ?_
  refine WL.det (op_move rfl) rfl rfl rfl ?_
  refine WL.det (op_lti_f rfl rfl (Int.not_lt.2 (Int.natCast_nonneg _))) rfl rfl rfl ?_
  refine WL.end ?_
  refine NE.code ?_
  refine CE.cond_f rfl rfl ?_
  refine CE.skip' ?_
  refine NE.code ?_
  iterate 2 refine CE.seq ?_
  refine CE.region ?_
  iterate 2 refine WL.det (op_move rfl) rfl rfl rfl ?_
  refine WL.det (op_nei rfl rfl) rfl rfl rfl ?_
  refine WL.end ?_
  refine NE.code ?_
  refine CE.cond_f rfl (bne_eq_false_iff_eq.2 (by first | rw [sumK_marks (rd_len lnR) (rd_len lnL)] | rw [sumK_marks lZR lZL] | omega)) ?_
  refine CE.skip' ?_
  refine NE.code ?_
  refine CE.seq ?_
  refine CE.region ?_
  have sz7 := (lT (lT (lT sz1 m5.size) m6.size) m7.size)
  have sz8 := (lT (lT (lT sz7 m8.size) m9.size) m10.size)
  have sz9 := (lT (lT sz1 m5.size) m6.size)
  have sz10 := (lT (lT sz7 m8.size) m9.size)
  have r53 := ((((((((((((((((r11.ext m7).ext m8).mod m9 (nC (lE (lL (lL r1.lt sz7) lR)) nN)).ext m10).ext m11).mod m12 (nC (lE (lL (lL r1.lt sz8) lR)) nN)).ext m13).ext md1).ext m14).ext m15).ext m16).ext m17).mod m18 (nC (lE (lL (lL r1.lt sz9) ge7)) (nC (lE (lL (lL r1.lt sz9) ge8)) (nC (lE (lL (lL r1.lt sz9) ge9)) (nA h5 (fun j hj => (lG (lL (lL r1.lt sz9) (fm11.ge j (Nat.lt_of_lt_of_eq hj (markD_len (rd_len lnR) nR).symm))))) (nA h6 (fun j hj => (lG (lL (lL r1.lt sz9) (fm12.ge j (Nat.lt_of_lt_of_eq hj (markD_len (rd_len lnL) nL).symm))))) nN)))))).ext m19).mod m20 (nC (lE (lL (lL r1.lt sz10) ge10)) (nC (lE (lL (lL r1.lt sz10) ge11)) (nC (lE (lL (lL r1.lt sz10) ge12)) (nA h7 (fun j hj => (lG (lL (lL r1.lt sz10) (fm13.ge j (Nat.lt_of_lt_of_eq hj (markD_len lZR nR).symm))))) (nA h8 (fun j hj => (lG (lL (lL r1.lt sz10) (fm14.ge j (Nat.lt_of_lt_of_eq hj (markD_len lZL nL).symm))))) nN)))))).ext m21)
  refine WL.det (op_loadA (i := 0) (cs := [.slice AR nR cR, .slice AL nL cL, .slice AS nS cS, vI k, vF kc0, vF kc1, vF kc2, vF ks0, vF ks1, .bool op, vF lo, vF re, vF sl]) rfl Try.isAgg50 Try.sizeOf50 r53.rng rfl rfl rfl) rfl rfl rfl ?_
  have sz11 := (lT (lT (lT sz2 m5.size) m6.size) m7.size)
  have sz12 := (lT (lT (lT sz11 m8.size) m9.size) m10.size)
  have sz13 := (lT (lT sz2 m5.size) m6.size)
  have sz14 := (lT (lT sz11 m8.size) m9.size)
  have r54 := ((Rng.youngS rR ((Rng.youngS rR (((((((Rng.youngS rR (((Rng.youngS rR ((r12.ext m7).ext m8) m9 (allge_cons (lT sz11 lR) allge_nil)).ext m10).ext m11) m12 (allge_cons (lT sz12 lR) allge_nil)).ext m13).ext md1).ext m14).ext m15).ext m16).ext m17) m18 (allge_cons (lT sz13 ge7) (allge_cons (lT sz13 ge8) (allge_cons (lT sz13 ge9) (gA h5 (fun j hj => (lT sz13 (fm11.ge j (Nat.lt_of_lt_of_eq hj (markD_len (rd_len lnR) nR).symm)))) (gA h6 (fun j hj => (lT sz13 (fm12.ge j (Nat.lt_of_lt_of_eq hj (markD_len (rd_len lnL) nL).symm)))) allge_nil)))))).ext m19) m20 (allge_cons (lT sz14 ge10) (allge_cons (lT sz14 ge11) (allge_cons (lT sz14 ge12) (gA h7 (fun j hj => (lT sz14 (fm13.ge j (Nat.lt_of_lt_of_eq hj (markD_len lZR nR).symm)))) (gA h8 (fun j hj => (lT sz14 (fm14.ge j (Nat.lt_of_lt_of_eq hj (markD_len lZL nL).symm)))) allge_nil)))))).ext m21)
  have r55 := ((Rng.youngS rL ((Rng.youngS rL (((((((Rng.youngS rL (((Rng.youngS rL ((r13.ext m7).ext m8) m9 (allge_cons (lT sz11 lR) allge_nil)).ext m10).ext m11) m12 (allge_cons (lT sz12 lR) allge_nil)).ext m13).ext md1).ext m14).ext m15).ext m16).ext m17) m18 (allge_cons (lT sz13 ge7) (allge_cons (lT sz13 ge8) (allge_cons (lT sz13 ge9) (gA h5 (fun j hj => (lT sz13 (fm11.ge j (Nat.lt_of_lt_of_eq hj (markD_len (rd_len lnR) nR).symm)))) (gA h6 (fun j hj => (lT sz13 (fm12.ge j (Nat.lt_of_lt_of_eq hj (markD_len (rd_len lnL) nL).symm)))) allge_nil)))))).ext m19) m20 (allge_cons (lT sz14 ge10) (allge_cons (lT sz14 ge11) (allge_cons (lT sz14 ge12) (gA h7 (fun j hj => (lT sz14 (fm13.ge j (Nat.lt_of_lt_of_eq hj (markD_len lZR nR).symm)))) (gA h8 (fun j hj => (lT sz14 (fm14.ge j (Nat.lt_of_lt_of_eq hj (markD_len lZL nL).symm)))) allge_nil)))))).ext m21)
  have r56 := ((Rng.youngS rS ((Rng.youngS rS (((((((Rng.youngS rS (((Rng.youngS rS ((r14.ext m7).ext m8) m9 (allge_cons (lT sz11 lR) allge_nil)).ext m10).ext m11) m12 (allge_cons (lT sz12 lR) allge_nil)).ext m13).ext md1).ext m14).ext m15).ext m16).ext m17) m18 (allge_cons (lT sz13 ge7) (allge_cons (lT sz13 ge8) (allge_cons (lT sz13 ge9) (gA h5 (fun j hj => (lT sz13 (fm11.ge j (Nat.lt_of_lt_of_eq hj (markD_len (rd_len lnR) nR).symm)))) (gA h6 (fun j hj => (lT sz13 (fm12.ge j (Nat.lt_of_lt_of_eq hj (markD_len (rd_len lnL) nL).symm)))) allge_nil)))))).ext m19) m20 (allge_cons (lT sz14 ge10) (allge_cons (lT sz14 ge11) (allge_cons (lT sz14 ge12) (gA h7 (fun j hj => (lT sz14 (fm13.ge j (Nat.lt_of_lt_of_eq hj (markD_len lZR nR).symm)))) (gA h8 (fun j hj => (lT sz14 (fm14.ge j (Nat.lt_of_lt_of_eq hj (markD_len lZL nL).symm)))) allge_nil)))))).ext m21)
  refine WL.call (oc_call (vs := [.agg #[.slice AR nR cR, .slice AL nL cL, .slice AS nS cS, vI k, vF kc0, vF kc1, vF kc2, vF ks0, vF ks1, .bool op, vF lo, vF re, vF sl]]) (cap := []) rfl rfl rfl Try.call26 (c_toPipe nR cR AR bR oR esR nL cL AL bL oL esL nS cS AS bS oS xS k kc0 kc1 kc2 ks0 ks1 op lo re sl lnR hAR lnL hAL lnS hAS (by first | assumption | omega) (by first | assumption | omega) (by first | assumption | omega) (by assumption) (by assumption) w22 r54 r55 r56 ((InF.mod hFesR ((InF.mod hFesR (((((((InF.mod hFesR (((InF.mod hFesR (((InF.mod hFesR (((((hFesR.ext m1).ext m2).ext m3).ext m4).ext m5) m6 (allge_cons (lT sz2 lR) allge_nil)).ext m7).ext m8) m9 (allge_cons (lT sz11 lR) allge_nil)).ext m10).ext m11) m12 (allge_cons (lT sz12 lR) allge_nil)).ext m13).ext md1).ext m14).ext m15).ext m16).ext m17) m18 (allge_cons (lT sz13 ge7) (allge_cons (lT sz13 ge8) (allge_cons (lT sz13 ge9) (gA h5 (fun j hj => (lT sz13 (fm11.ge j (Nat.lt_of_lt_of_eq hj (markD_len (rd_len lnR) nR).symm)))) (gA h6 (fun j hj => (lT sz13 (fm12.ge j (Nat.lt_of_lt_of_eq hj (markD_len (rd_len lnL) nL).symm)))) allge_nil)))))).ext m19) m20 (allge_cons (lT sz14 ge10) (allge_cons (lT sz14 ge11) (allge_cons (lT sz14 ge12) (gA h7 (fun j hj => (lT sz14 (fm13.ge j (Nat.lt_of_lt_of_eq hj (markD_len lZR nR).symm)))) (gA h8 (fun j hj => (lT sz14 (fm14.ge j (Nat.lt_of_lt_of_eq hj (markD_len lZL nL).symm)))) allge_nil)))))).ext m21) ((InF.mod hFesL ((InF.mod hFesL (((((((InF.mod hFesL (((InF.mod hFesL (((InF.mod hFesL (((((hFesL.ext m1).ext m2).ext m3).ext m4).ext m5) m6 (allge_cons (lT sz2 lR) allge_nil)).ext m7).ext m8) m9 (allge_cons (lT sz11 lR) allge_nil)).ext m10).ext m11) m12 (allge_cons (lT sz12 lR) allge_nil)).ext m13).ext md1).ext m14).ext m15).ext m16).ext m17) m18 (allge_cons (lT sz13 ge7) (allge_cons (lT sz13 ge8) (allge_cons (lT sz13 ge9) (gA h5 (fun j hj => (lT sz13 (fm11.ge j (Nat.lt_of_lt_of_eq hj (markD_len (rd_len lnR) nR).symm)))) (gA h6 (fun j hj => (lT sz13 (fm12.ge j (Nat.lt_of_lt_of_eq hj (markD_len (rd_len lnL) nL).symm)))) allge_nil)))))).ext m19) m20 (allge_cons (lT sz14 ge10) (allge_cons (lT sz14 ge11) (allge_cons (lT sz14 ge12) (gA h7 (fun j hj => (lT sz14 (fm13.ge j (Nat.lt_of_lt_of_eq hj (markD_len lZR nR).symm)))) (gA h8 (fun j hj => (lT sz14 (fm14.ge j (Nat.lt_of_lt_of_eq hj (markD_len lZL nL).symm)))) allge_nil)))))).ext m21))) rfl rfl (ltb rfl) ?_
  rintro _ w23 ⟨bR'6, PR4, bL'6, PL4, bS'6, rfl, h11, h12, r57, r58, r59, ge16, ge17, ge18, ne16, ne17, ne18, fm15, fn36, fn37, fn38, fn39, fm16, fn40, fn41, fn42, m22⟩
  refine WL.call (oc_call (vs := [.agg #[vS bR'6 0 nR nR, vS bL'6 0 nL nL, vS bS'6 0 nS nS, vI k, vF kc0, vF kc1, vF kc2, vF ks0, vF ks1, .bool op, vF lo, vF re, vF sl]]) (cap := []) rfl rfl rfl Try.call32 (c_iMuteS nR (esR.map RiR.rd) nL (esL.map RiR.rd) nS xS nR bR'6 PR4 w22.heap.size nL bL'6 PL4 w22.heap.size nS bS'6 k kc0 kc1 kc2 ks0 ks1 op lo re sl ZR ZL (rd_len lnR) (rd_len lnL) lnS (by first | assumption | exact rd_small (by assumption) (by assumption) | exact markD_small (by first | assumption | exact rd_small (by assumption) (by assumption)) _) (by first | assumption | exact rd_small (by assumption) (by assumption) | exact markD_small (by first | assumption | exact rd_small (by assumption) (by assumption)) _) h11 h12 (by first | assumption | omega) (by first | assumption | omega) (by first | assumption | omega) (by first | assumption | omega) (by first | assumption | omega) (by assumption) (by assumption) (by first | assumption | omega) (by first | assumption | omega) (by assumption) (by assumption) (by assumption) (by assumption) (by assumption) w23 r57.rng r58.rng r59.rng fm15 fm16)) rfl rfl (ltb rfl) ?_
  rintro _ w24 ⟨bR'7, cR'3, PR'3, bL'7, cL'3, PL'3, bS'7, cS'3, rfl, h13, h14, r60, r61, r62, ge19, ge20, ge21, ne19, ne20, ne21, fm17, fn43, fn44, fn45, fn46, fm18, fn47, fn48, fn49, m23⟩
  refine WL.det (op_move rfl) rfl rfl rfl ?_
  iterate 2 refine WL.det (op_extract rfl rfl) rfl rfl rfl ?_
  refine WL.op (op_alloc (cs := [.slice none 0 0, .slice none 0 0, .slice none 0 0, vI 0, vF 0, vF 0, vF 0, vF 0, vF 0, .bool false, vF 0, vF 0, vF 0]) Try.zeroValue33 rfl) rfl rfl (ltb rfl) ?_
  rintro _ w25 ⟨rfl, r63, m24, z8⟩
  refine WL.op0 (op_store (i := 0) (cs := [vS bR'7 0 nR cR'3, vS bL'7 0 nL cL'3, vS bS'7 0 nS cS'3, vI k, vF kc0, vF kc1, vF kc2, vF 0, vF 0, .bool op, vF lo, vF re, vF sl]) rfl rfl rfl Try.sizeOf33 rfl r63 rfl (lB rfl) rfl) rfl rfl ?_
  rintro _ w26 ⟨r64, m25, z9⟩
  have r65 : Row w26 w24.heap.size 0 [vS bR'7 0 nR cR'3, vS bL'7 0 nL cL'3, vS bS'7 0 nS cS'3, vI k, vF kc0, vF kc1, vF kc2, vF 0, vF 0, .bool op, vF lo, vF re, vF sl] := Row.congr r64 rfl
  refine WL.det (op_assign rfl) rfl rfl rfl ?_
  refine WL.end ?_
  refine NE.code ?_
  iterate 2 refine CE.seq ?_
  refine CE.region ?_
  refine WL.det (op_loadA (i := 0) (cs := [vS bR'7 0 nR cR'3, vS bL'7 0 nL cL'3, vS bS'7 0 nS cS'3, vI k, vF kc0, vF kc1, vF kc2, vF 0, vF 0, .bool op, vF lo, vF re, vF sl]) rfl Try.isAgg33 Try.sizeOf33 r65.rng rfl rfl rfl) rfl rfl rfl ?_
  have sz15 := (lT (lT (lT m6.size m7.size) m8.size) m9.size)
  have sz16 := (lT (lT (lT (lT (lT (lT (lT (lT (lT (lT (lT (lT (lT (lT sz3 m11.size) m12.size) m13.size) md1.size) m14.size) m15.size) m16.size) m17.size) m18.size) m19.size) m20.size) m21.size) m22.size) m23.size)
  have r66 := (((((((r42.ext m19).mod m20 (nC (lE (lL (lL r8.lt sz15) ge10)) (nC (lE (lL (lL r8.lt sz15) ge11)) (nC (lE (lL (lL r8.lt sz15) ge12)) (nA h7 (fun j hj => (lG (lL (lL r8.lt sz15) (fm13.ge j (Nat.lt_of_lt_of_eq hj (markD_len lZR nR).symm))))) (nA h8 (fun j hj => (lG (lL (lL r8.lt sz15) (fm14.ge j (Nat.lt_of_lt_of_eq hj (markD_len lZL nL).symm))))) nN)))))).ext m21).ext m22).ext m23).ext m24).mod m25 (nC (lE (lL (lL r8.lt sz16) lR)) nN))
  refine WL.det (op_loadA (i := 0) (cs := [vS bR'2 0 nR cR'1, vS bL'2 0 nL cL'1, vS bS'2 0 nS cS'1, vI k, vF kc0, vF kc1, vF kc2, vF 0, vF 0, .bool op, vF lo, vF re, vF sl]) rfl Try.isAgg33 Try.sizeOf33 r66.rng rfl rfl rfl) rfl rfl rfl ?_
  have sz17 := (lT (lT sz4 m8.size) m9.size)
  have sz18 := (lT (lT (lT (lT (lT (lT (lT (lT (lT (lT (lT (lT (lT (lT sz5 m11.size) m12.size) m13.size) md1.size) m14.size) m15.size) m16.size) m17.size) m18.size) m19.size) m20.size) m21.size) m22.size) m23.size)
  have r67 := (((((((r46.ext m19).mod m20 (nC (lE (lL (lL r5.lt sz17) ge10)) (nC (lE (lL (lL r5.lt sz17) ge11)) (nC (lE (lL (lL r5.lt sz17) ge12)) (nA h7 (fun j hj => (lG (lL (lL r5.lt sz17) (fm13.ge j (Nat.lt_of_lt_of_eq hj (markD_len lZR nR).symm))))) (nA h8 (fun j hj => (lG (lL (lL r5.lt sz17) (fm14.ge j (Nat.lt_of_lt_of_eq hj (markD_len lZL nL).symm))))) nN)))))).ext m21).ext m22).ext m23).ext m24).mod m25 (nC (lE (lL (lL r5.lt sz18) lR)) nN))
  have r68 := (((((((r47.ext m19).mod m20 (nC (lE (lL (lL r6.lt sz17) ge10)) (nC (lE (lL (lL r6.lt sz17) ge11)) (nC (lE (lL (lL r6.lt sz17) ge12)) (nA h7 (fun j hj => (lG (lL (lL r6.lt sz17) (fm13.ge j (Nat.lt_of_lt_of_eq hj (markD_len lZR nR).symm))))) (nA h8 (fun j hj => (lG (lL (lL r6.lt sz17) (fm14.ge j (Nat.lt_of_lt_of_eq hj (markD_len lZL nL).symm))))) nN)))))).ext m21).ext m22).ext m23).ext m24).mod m25 (nC (lE (lL (lL r6.lt sz18) lR)) nN))
  have r69 := (((((((r48.ext m19).mod m20 (nC (lE (lL (lL r7.lt sz17) ge10)) (nC (lE (lL (lL r7.lt sz17) ge11)) (nC (lE (lL (lL r7.lt sz17) ge12)) (nA h7 (fun j hj => (lG (lL (lL r7.lt sz17) (fm13.ge j (Nat.lt_of_lt_of_eq hj (markD_len lZR nR).symm))))) (nA h8 (fun j hj => (lG (lL (lL r7.lt sz17) (fm14.ge j (Nat.lt_of_lt_of_eq hj (markD_len lZL nL).symm))))) nN)))))).ext m21).ext m22).ext m23).ext m24).mod m25 (nC (lE (lL (lL r7.lt sz18) lR)) nN))
  refine WL.call (oc_call (vs := [.agg #[vS bR'7 0 nR cR'3, vS bL'7 0 nL cL'3, vS bS'7 0 nS cS'3, vI k, vF kc0, vF kc1, vF kc2, vF 0, vF 0, .bool op, vF lo, vF re, vF sl], .agg #[vS bR'2 0 nR cR'1, vS bL'2 0 nL cL'1, vS bS'2 0 nS cS'1, vI k, vF kc0, vF kc1, vF kc2, vF 0, vF 0, .bool op, vF lo, vF re, vF sl]]) (cap := []) rfl rfl rfl Try.call28 (c_eqPipe nR ZR nL ZL nS xS cR'3 bR'7 PR'3 w23.heap.size cL'3 bL'7 PL'3 w23.heap.size cS'3 bS'7 cR'1 bR'2 PR'1 w3.heap.size cL'1 bL'2 PL'1 w3.heap.size cS'1 bS'2 k kc0 kc1 kc2 0 0 op lo re sl lZR lZL lnS (by first | assumption | exact rd_small (by assumption) (by assumption) | exact markD_small (by first | assumption | exact rd_small (by assumption) (by assumption)) _) (by first | assumption | exact rd_small (by assumption) (by assumption) | exact markD_small (by first | assumption | exact rd_small (by assumption) (by assumption)) _) (by first | assumption | omega) (by first | assumption | omega) (by first | assumption | omega) h13 h14 h3 h4 w26 ((r60.ext m24).mod m25 (nC (lE (lL r60.lt lR)) nN)).rng ((r61.ext m24).mod m25 (nC (lE (lL r61.lt lR)) nN)).rng ((r62.ext m24).mod m25 (nC (lE (lL r62.lt lR)) nN)).rng r67.rng r68.rng r69.rng ((fm17.ext m24).mod m25 (fun j hj => (nC (lE (lL (OF.lt fm17 (Nat.lt_of_lt_of_eq (Nat.lt_of_lt_of_eq hj lZR) lZR.symm)) lR)) nN))) ((fm18.ext m24).mod m25 (fun j hj => (nC (lE (lL (OF.lt fm18 (Nat.lt_of_lt_of_eq (Nat.lt_of_lt_of_eq hj lZL) lZL.symm)) lR)) nN))) ((((((((((((((((((((((fm3.ext m5).mod m6 (fun j hj => (nC (lE (lL (OF.lt fm3 (Nat.lt_of_lt_of_eq (Nat.lt_of_lt_of_eq hj lZR) lZR.symm)) lR)) nN))).ext m7).ext m8).mod m9 (fun j hj => (nC (lE (lL (OF.lt fm3 (Nat.lt_of_lt_of_eq (Nat.lt_of_lt_of_eq hj lZR) lZR.symm)) (lT sz4 lR))) nN))).ext m10).ext m11).mod m12 (fun j hj => (nC (lE (lL (OF.lt fm3 (Nat.lt_of_lt_of_eq (Nat.lt_of_lt_of_eq hj lZR) lZR.symm)) (lT sz5 lR))) nN))).ext m13).ext md1).ext m14).ext m15).ext m16).ext m17).mod m18 (fun j hj => (nC (lE (lL (OF.lt fm3 (Nat.lt_of_lt_of_eq (Nat.lt_of_lt_of_eq hj lZR) lZR.symm)) (lT (lT m5.size m6.size) ge7))) (nC (lE (lL (OF.lt fm3 (Nat.lt_of_lt_of_eq (Nat.lt_of_lt_of_eq hj lZR) lZR.symm)) (lT (lT m5.size m6.size) ge8))) (nC (lE (lL (OF.lt fm3 (Nat.lt_of_lt_of_eq (Nat.lt_of_lt_of_eq hj lZR) lZR.symm)) (lT (lT m5.size m6.size) ge9))) (nA h5 (fun q hq => Ne.symm (lE (lL (lL (OF.lt fm3 (Nat.lt_of_lt_of_eq (Nat.lt_of_lt_of_eq hj lZR) lZR.symm)) (lT m5.size m6.size)) (fm5.ge q (Nat.lt_of_lt_of_eq hq (rd_len lnR).symm))))) (nA h6 (fun q hq => Ne.symm (lE (lL (lL (OF.lt fm3 (Nat.lt_of_lt_of_eq (Nat.lt_of_lt_of_eq hj lZR) lZR.symm)) (lT m5.size m6.size)) (fm6.ge q (Nat.lt_of_lt_of_eq hq (rd_len lnL).symm))))) nN))))))).ext m19).mod m20 (fun j hj => (nC (lE (lL (OF.lt fm3 (Nat.lt_of_lt_of_eq (Nat.lt_of_lt_of_eq hj lZR) lZR.symm)) (lT sz17 ge10))) (nC (lE (lL (OF.lt fm3 (Nat.lt_of_lt_of_eq (Nat.lt_of_lt_of_eq hj lZR) lZR.symm)) (lT sz17 ge11))) (nC (lE (lL (OF.lt fm3 (Nat.lt_of_lt_of_eq (Nat.lt_of_lt_of_eq hj lZR) lZR.symm)) (lT sz17 ge12))) (nA h7 (fun q hq => Ne.symm (lE (lL (lL (OF.lt fm3 (Nat.lt_of_lt_of_eq (Nat.lt_of_lt_of_eq hj lZR) lZR.symm)) sz17) (fm7.ge q (Nat.lt_of_lt_of_eq hq lZR.symm))))) (nA h8 (fun q hq => Ne.symm (lE (lL (lL (OF.lt fm3 (Nat.lt_of_lt_of_eq (Nat.lt_of_lt_of_eq hj lZR) lZR.symm)) sz17) (fm8.ge q (Nat.lt_of_lt_of_eq hq lZL.symm))))) nN))))))).ext m21).ext m22).ext m23).ext m24).mod m25 (fun j hj => (nC (lE (lL (OF.lt fm3 (Nat.lt_of_lt_of_eq (Nat.lt_of_lt_of_eq hj lZR) lZR.symm)) (lT sz18 lR))) nN))) ((((((((((((((((((((((fm4.ext m5).mod m6 (fun j hj => (nC (lE (lL (OF.lt fm4 (Nat.lt_of_lt_of_eq (Nat.lt_of_lt_of_eq hj lZL) lZL.symm)) lR)) nN))).ext m7).ext m8).mod m9 (fun j hj => (nC (lE (lL (OF.lt fm4 (Nat.lt_of_lt_of_eq (Nat.lt_of_lt_of_eq hj lZL) lZL.symm)) (lT sz4 lR))) nN))).ext m10).ext m11).mod m12 (fun j hj => (nC (lE (lL (OF.lt fm4 (Nat.lt_of_lt_of_eq (Nat.lt_of_lt_of_eq hj lZL) lZL.symm)) (lT sz5 lR))) nN))).ext m13).ext md1).ext m14).ext m15).ext m16).ext m17).mod m18 (fun j hj => (nC (lE (lL (OF.lt fm4 (Nat.lt_of_lt_of_eq (Nat.lt_of_lt_of_eq hj lZL) lZL.symm)) (lT (lT m5.size m6.size) ge7))) (nC (lE (lL (OF.lt fm4 (Nat.lt_of_lt_of_eq (Nat.lt_of_lt_of_eq hj lZL) lZL.symm)) (lT (lT m5.size m6.size) ge8))) (nC (lE (lL (OF.lt fm4 (Nat.lt_of_lt_of_eq (Nat.lt_of_lt_of_eq hj lZL) lZL.symm)) (lT (lT m5.size m6.size) ge9))) (nA h5 (fun q hq => Ne.symm (lE (lL (lL (OF.lt fm4 (Nat.lt_of_lt_of_eq (Nat.lt_of_lt_of_eq hj lZL) lZL.symm)) (lT m5.size m6.size)) (fm5.ge q (Nat.lt_of_lt_of_eq hq (rd_len lnR).symm))))) (nA h6 (fun q hq => Ne.symm (lE (lL (lL (OF.lt fm4 (Nat.lt_of_lt_of_eq (Nat.lt_of_lt_of_eq hj lZL) lZL.symm)) (lT m5.size m6.size)) (fm6.ge q (Nat.lt_of_lt_of_eq hq (rd_len lnL).symm))))) nN))))))).ext m19).mod m20 (fun j hj => (nC (lE (lL (OF.lt fm4 (Nat.lt_of_lt_of_eq (Nat.lt_of_lt_of_eq hj lZL) lZL.symm)) (lT sz17 ge10))) (nC (lE (lL (OF.lt fm4 (Nat.lt_of_lt_of_eq (Nat.lt_of_lt_of_eq hj lZL) lZL.symm)) (lT sz17 ge11))) (nC (lE (lL (OF.lt fm4 (Nat.lt_of_lt_of_eq (Nat.lt_of_lt_of_eq hj lZL) lZL.symm)) (lT sz17 ge12))) (nA h7 (fun q hq => Ne.symm (lE (lL (lL (OF.lt fm4 (Nat.lt_of_lt_of_eq (Nat.lt_of_lt_of_eq hj lZL) lZL.symm)) sz17) (fm7.ge q (Nat.lt_of_lt_of_eq hq lZR.symm))))) (nA h8 (fun q hq => Ne.symm (lE (lL (lL (OF.lt fm4 (Nat.lt_of_lt_of_eq (Nat.lt_of_lt_of_eq hj lZL) lZL.symm)) sz17) (fm8.ge q (Nat.lt_of_lt_of_eq hq lZL.symm))))) nN))))))).ext m21).ext m22).ext m23).ext m24).mod m25 (fun j hj => (nC (lE (lL (OF.lt fm4 (Nat.lt_of_lt_of_eq (Nat.lt_of_lt_of_eq hj lZL) lZL.symm)) (lT sz18 lR))) nN))))) rfl rfl (ltb rfl) ?_
  rintro _ w27 ⟨rfl, m26⟩
  refine WL.det (op_not rfl) rfl rfl rfl ?_
  refine WL.det (op_move rfl) rfl rfl rfl ?_
  refine WL.yes rfl rfl rfl (ltb rfl) rfl rfl ?_
  refine WL.det (op_move rfl) rfl rfl rfl ?_
  refine WL.yes rfl rfl rfl (ltb rfl) rfl rfl ?_
  refine WL.det (op_move rfl) rfl rfl rfl ?_
  refine WL.yes rfl rfl rfl (ltb rfl) rfl rfl ?_
  refine WL.det (op_nei rfl rfl) rfl rfl rfl ?_
  refine WL.det (op_pick_f rfl rfl rfl) rfl rfl rfl ?_
  refine WL.end ?_
  refine NE.code ?_
  refine CE.cond_f rfl rfl ?_
  refine CE.skip' ?_
  refine NE.code ?_
  refine CE.seq ?_
  refine CE.region ?_
  refine WL.det (op_assign rfl) rfl rfl rfl ?_
  refine WL.end ?_
  refine NE.code ?_
  refine CE.seq ?_
  refine CE.region ?_
  have sz19 := (lT (lT (lT (lT (lT (lT (lT (lT (lT (lT (lT (lT m12.size m13.size) md1.size) m14.size) m15.size) m16.size) m17.size) m18.size) m19.size) m20.size) m21.size) m22.size) m23.size)
  have r70 := ((((((r52.ext m21).ext m22).ext m23).ext m24).mod m25 (nC (lE (lL (lL r24.lt sz19) lR)) nN)).ext m26)
  refine WL.det (op_loadA (i := 0) (cs := [vS bR'4 0 nR cR'2, vS bL'4 0 nL cL'2, vS bS'4 0 nS cS'2, vI k, vF kc0, vF kc1, vF kc2, vF 0, vF 0, .bool op, vF lo, vF re, vF sl]) rfl Try.isAgg33 Try.sizeOf33 r70.rng rfl rfl rfl) rfl rfl rfl ?_
  refine WL.det (op_move rfl) rfl rfl rfl ?_
  have sz20 := (lT (lT (lT (lT (lT (lT (lT (lT (lT (lT (lT (lT (lT m11.size m12.size) m13.size) md1.size) m14.size) m15.size) m16.size) m17.size) m18.size) m19.size) m20.size) m21.size) m22.size) m23.size)
  have r71 := ((((((r49.ext m21).ext m22).ext m23).ext m24).mod m25 (nC (lE (lL (lL r21.lt sz20) lR)) nN)).ext m26)
  have r72 := ((((((r50.ext m21).ext m22).ext m23).ext m24).mod m25 (nC (lE (lL (lL r22.lt sz20) lR)) nN)).ext m26)
  have r73 := ((((((r51.ext m21).ext m22).ext m23).ext m24).mod m25 (nC (lE (lL (lL r23.lt sz20) lR)) nN)).ext m26)
  refine WL.call (oc_call (vs := [.agg #[vS bR'4 0 nR cR'2, vS bL'4 0 nL cL'2, vS bS'4 0 nS cS'2, vI k, vF kc0, vF kc1, vF kc2, vF 0, vF 0, .bool op, vF lo, vF re, vF sl], vI 1]) (cap := []) rfl rfl rfl Try.call30 (c_heldPipe_x nR (markD ZR 1 nR) nL (markD ZL (sumK ZR 1 nR) nL) nS (marks xS (sumK ZL (sumK ZR 1 nR) nL) nS) cR'2 bR'4 PR'2 w9.heap.size cL'2 bL'4 PL'2 w9.heap.size cS'2 bS'4 k kc0 kc1 kc2 0 0 op lo re sl 1 (markD_len lZR nR) (markD_len lZL nL) (marks_len lnS (Nat.le_refl _)) (by first | assumption | exact rd_small (by assumption) (by assumption) | exact markD_small (by first | assumption | exact rd_small (by assumption) (by assumption)) _) (by first | assumption | exact rd_small (by assumption) (by assumption) | exact markD_small (by first | assumption | exact rd_small (by assumption) (by assumption)) _) h7 h8 (by first | assumption | omega) (by first | assumption | omega) (by first | assumption | omega) (by first | decide | omega) (by first | exact markD_held (by first | assumption | exact rd_len (by assumption)) | assumption) (by first | exact heldL2 (by first | assumption | exact rd_len (by assumption)) (by first | assumption | exact rd_len (by assumption)) | assumption) (by first | exact held2 (by first | assumption | exact rd_len (by assumption)) (by first | assumption | exact rd_len (by assumption)) | assumption) w27 r71.rng r72.rng r73.rng ((((((fm13.ext m21).ext m22).ext m23).ext m24).mod m25 (fun j hj => (nC (lE (lL (OF.lt fm7 (Nat.lt_of_lt_of_eq (Nat.lt_of_lt_of_eq hj (markD_len lZR nR)) lZR.symm)) (lT sz20 lR))) nN))).ext m26) ((((((fm14.ext m21).ext m22).ext m23).ext m24).mod m25 (fun j hj => (nC (lE (lL (OF.lt fm8 (Nat.lt_of_lt_of_eq (Nat.lt_of_lt_of_eq hj (markD_len lZL nL)) lZL.symm)) (lT sz20 lR))) nN))).ext m26))) rfl rfl (ltb rfl) ?_
  rintro _ w28 ⟨rfl, m27⟩
  refine WL.det (op_assign rfl) rfl rfl rfl ?_
  refine WL.end ?_
  refine NE.code ?_
  iterate 2 refine CE.seq ?_
  refine CE.region ?_
  refine WL.det (op_move rfl) rfl rfl rfl ?_
  refine WL.det (op_lti_f rfl rfl (Int.not_lt.2 (Int.natCast_nonneg _))) rfl rfl rfl ?_
  refine WL.end ?_
  refine NE.code ?_
  refine CE.cond_f rfl rfl ?_
  refine CE.skip' ?_
  refine NE.code ?_
  iterate 2 refine CE.seq ?_
  refine CE.region ?_
  iterate 2 refine WL.det (op_move rfl) rfl rfl rfl ?_
  refine WL.det (op_nei rfl rfl) rfl rfl rfl ?_
  refine WL.end ?_
  refine NE.code ?_
  refine CE.cond_f rfl (bne_eq_false_iff_eq.2 (by first | rw [sumK_marks (rd_len lnR) (rd_len lnL)] | rw [sumK_marks lZR lZL] | omega)) ?_
  refine CE.skip' ?_
  refine NE.code ?_
  refine CE.seq ?_
  refine CE.region ?_
  refine WL.det (op_assign rfl) rfl rfl rfl ?_
  refine WL.end ?_
  refine NE.code ?_
  refine CE.ret' ?_
  refine XE.leave1 Try.results6 rfl ?_
  have sz21 := (lT (lT (lT (lT (lT (lT (lT (lT (lT (lT (lT (lT (lT (lT sz12 m11.size) m12.size) m13.size) md1.size) m14.size) m15.size) m16.size) m17.size) m18.size) m19.size) m20.size) m21.size) m22.size) m23.size)
  refine ⟨rfl, (((((((((((((((((((((((((((((Mod.refl [] w).nt m1).nt m2).nt m3).nt m4).nt m5).then m6 ((aC (.inr (lT sz2 lR)) aN))).nt m7).nt m8).then m9 ((aC (.inr (lT sz11 lR)) aN))).nt m10).nt m11).then m12 ((aC (.inr (lT sz12 lR)) aN))).nt m13).nt md1).nt m14).nt m15).nt m16).nt m17).then m18 ((aC (.inr (lT sz13 ge7)) (aC (.inr (lT sz13 ge8)) (aC (.inr (lT sz13 ge9)) (aA h5 (fun j hj => (lT sz13 (fm11.ge j (Nat.lt_of_lt_of_eq hj (markD_len (rd_len lnR) nR).symm)))) (aA h6 (fun j hj => (lT sz13 (fm12.ge j (Nat.lt_of_lt_of_eq hj (markD_len (rd_len lnL) nL).symm)))) aN))))))).nt m19).then m20 ((aC (.inr (lT sz14 ge10)) (aC (.inr (lT sz14 ge11)) (aC (.inr (lT sz14 ge12)) (aA h7 (fun j hj => (lT sz14 (fm13.ge j (Nat.lt_of_lt_of_eq hj (markD_len lZR nR).symm)))) (aA h8 (fun j hj => (lT sz14 (fm14.ge j (Nat.lt_of_lt_of_eq hj (markD_len lZL nL).symm)))) aN))))))).nt m21).nt m22).nt m23).nt m24).then m25 ((aC (.inr (lT sz21 lR)) aN))).nt m26).nt m27)⟩

end Go.Proofs.Ytnahhdnkbbdceaa
