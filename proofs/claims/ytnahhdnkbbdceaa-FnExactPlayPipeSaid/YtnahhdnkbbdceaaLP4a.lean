/- The law on plays, walked (long, over, inv). -/
import Derived.Test.YtnahhdnkbbdceaaS5
import Derived.Test.YtnahhdnkbbdceaaT4
import Derived.Test.YtnahhdnkbbdceaaE8
import Derived.Test.YtnahhdnkbbdceaaE13
set_option linter.unusedVariables false
set_option linter.unusedSimpArgs false
set_option maxRecDepth 100000
set_option maxHeartbeats 8000000
namespace Go.Proofs.Ytnahhdnkbbdceaa

theorem law_play_long (nR : Nat) (cR : Nat) (AR : Option Addr) (bR : Nat) (oR : Nat) (esR : List RiR) (nL : Nat) (cL : Nat) (AL : Option Addr) (bL : Nat) (oL : Nat) (esL : List RiR) (nS : Nat) (cS : Nat) (AS : Option Addr) (bS : Nat) (oS : Nat) (xS : List Nat) (k : Int) (kc0 : Nat) (kc1 : Nat) (kc2 : Nat) (ks0 : Nat) (ks1 : Nat) (op : Bool) (lo : Nat) (re : Nat) (sl : Nat) (l : Nat) (cl : Nat) (Al : Option Addr) (bl : Nat) (ol : Nat) (ss : List Nat) (lnR : esR.length = nR) (hAR : 0 < nR → AR = some ⟨bR, oR, none⟩) (lnL : esL.length = nL) (hAL : 0 < nL → AL = some ⟨bL, oL, none⟩) (lnS : xS.length = nS) (hAS : 0 < nS → AS = some ⟨bS, oS, none⟩) (ls : ss.length = l) (hAl : 0 < l → Al = some ⟨bl, ol, none⟩) (wl : W32 ss) (hl2 : 1048576 < l) (w : World) (rR : Rng w bR oR (cat RiR.cells esR)) (rL : Rng w bL oL (cat RiR.cells esL)) (rS : Rng w bS oS (fl xS)) (rl : Rng w bl ol (fl ss)) (hFesR : InF w esR) (hFesL : InF w esL) : Cl Try.prog 12 #[.agg #[.slice AR nR cR, .slice AL nL cL, .slice AS nS cS, vI k, vF kc0, vF kc1, vF kc2, vF ks0, vF ks1, .bool op, vF lo, vF re, vF sl], .slice Al l cl] w fun v w' => v = .bool true ∧ Mod [] w w' := by
 refine Cl.of Try.func12 Try.ntmps12 rfl rfl (ρ := [(0, .agg #[.slice AR nR cR, .slice AL nL cL, .slice AS nS cS, vI k, vF kc0, vF kc1, vF kc2, vF ks0, vF ks1, .bool op, vF lo, vF re, vF sl]), (1, .slice Al l cl)]) rfl ?_
 refine CE.seq (CE.region ?_)
 refine WL.op (op_box (cs := [.slice AR nR cR, .slice AL nL cL, .slice AS nS cS, vI k, vF kc0, vF kc1, vF kc2, vF ks0, vF ks1, .bool op, vF lo, vF re, vF sl]) rfl rfl) rfl rfl (ltb rfl) ?_
 rintro _ w1 ⟨rfl, r1, m1, z1⟩
 refine WL.det (op_assign rfl) rfl rfl rfl ?_
 refine WL.end (NE.code (CE.seq (CE.seq (CE.region ?_))))
 refine WL.det (op_move rfl) rfl rfl rfl ?_
 refine WL.det (op_len rfl Try.runUnderlying26) rfl rfl rfl ?_
 refine WL.det (op_gti rfl rfl) rfl rfl rfl ?_
 refine WL.end (NE.code ?_)
 refine CE.cond_t rfl (decide_eq_true (by omega)) ?_
 refine CE.seq (CE.region ?_)
 refine WL.det (op_assign rfl) rfl rfl rfl ?_
 refine WL.end (NE.code (CE.ret' (XE.ret_then ?_)))
 refine XE.leave1 Try.results12 rfl ?_
 refine ⟨rfl, ((Mod.refl [] w).nt m1)⟩

theorem law_play_over (nR : Nat) (cR : Nat) (AR : Option Addr) (bR : Nat) (oR : Nat) (esR : List RiR) (nL : Nat) (cL : Nat) (AL : Option Addr) (bL : Nat) (oL : Nat) (esL : List RiR) (nS : Nat) (cS : Nat) (AS : Option Addr) (bS : Nat) (oS : Nat) (xS : List Nat) (k : Int) (kc0 : Nat) (kc1 : Nat) (kc2 : Nat) (ks0 : Nat) (ks1 : Nat) (op : Bool) (lo : Nat) (re : Nat) (sl : Nat) (l : Nat) (cl : Nat) (Al : Option Addr) (bl : Nat) (ol : Nat) (ss : List Nat) (lnR : esR.length = nR) (hAR : 0 < nR → AR = some ⟨bR, oR, none⟩) (lnL : esL.length = nL) (hAL : 0 < nL → AL = some ⟨bL, oL, none⟩) (lnS : xS.length = nS) (hAS : 0 < nS → AS = some ⟨bS, oS, none⟩) (hT : 1048576 < nR + sumR esR nR + (nL + sumR esL nL) + nS) (hnR : nR ≤ 9223372036854775807) (hnL : nL ≤ 9223372036854775807) (hnS : nS ≤ 9223372036854775807) (ls : ss.length = l) (hAl : 0 < l → Al = some ⟨bl, ol, none⟩) (wl : W32 ss) (hl2 : l ≤ 1048576) (w : World) (rR : Rng w bR oR (cat RiR.cells esR)) (rL : Rng w bL oL (cat RiR.cells esL)) (rS : Rng w bS oS (fl xS)) (rl : Rng w bl ol (fl ss)) (hFesR : InF w esR) (hFesL : InF w esL) : Cl Try.prog 12 #[.agg #[.slice AR nR cR, .slice AL nL cL, .slice AS nS cS, vI k, vF kc0, vF kc1, vF kc2, vF ks0, vF ks1, .bool op, vF lo, vF re, vF sl], .slice Al l cl] w fun v w' => v = .bool true ∧ Mod [] w w' := by
 refine Cl.of Try.func12 Try.ntmps12 rfl rfl (ρ := [(0, .agg #[.slice AR nR cR, .slice AL nL cL, .slice AS nS cS, vI k, vF kc0, vF kc1, vF kc2, vF ks0, vF ks1, .bool op, vF lo, vF re, vF sl]), (1, .slice Al l cl)]) rfl ?_
 refine CE.seq (CE.region ?_)
 refine WL.op (op_box (cs := [.slice AR nR cR, .slice AL nL cL, .slice AS nS cS, vI k, vF kc0, vF kc1, vF kc2, vF ks0, vF ks1, .bool op, vF lo, vF re, vF sl]) rfl rfl) rfl rfl (ltb rfl) ?_
 rintro _ w1 ⟨rfl, r1, m1, z1⟩
 refine WL.det (op_assign rfl) rfl rfl rfl ?_
 refine WL.end (NE.code (CE.seq (CE.seq (CE.region ?_))))
 refine WL.det (op_move rfl) rfl rfl rfl ?_
 refine WL.det (op_len rfl Try.runUnderlying26) rfl rfl rfl ?_
 refine WL.det (op_gti rfl rfl) rfl rfl rfl ?_
 refine WL.end (NE.code ?_)
 refine CE.cond_f rfl (decide_eq_false (by omega)) ?_
 refine CE.skip' (NE.code (CE.seq (CE.region ?_)))
 refine WL.det (op_assign rfl) rfl rfl rfl ?_
 refine WL.end (NE.code (CE.seq (CE.region ?_)))
 refine WL.det (op_loadA (i := 0) (cs := [.slice AR nR cR, .slice AL nL cL, .slice AS nS cS, vI k, vF kc0, vF kc1, vF kc2, vF ks0, vF ks1, .bool op, vF lo, vF re, vF sl]) rfl Try.isAgg50 Try.sizeOf50 r1.rng rfl rfl rfl) rfl rfl rfl ?_
 refine WL.det (op_move rfl) rfl rfl rfl ?_
 refine WL.call (oc_call (vs := [.agg #[.slice AR nR cR, .slice AL nL cL, .slice AS nS cS, vI k, vF kc0, vF kc1, vF kc2, vF ks0, vF ks1, .bool op, vF lo, vF re, vF sl], vI 1048576]) (cap := []) rfl rfl rfl Try.call25 (c_szPipe_over 1048576 nR cR AR bR oR esR nL cL AL bL oL esL nS cS AS bS oS xS k kc0 kc1 kc2 ks0 ks1 op lo re sl lnR hAR lnL hAL lnS hAS hT (by omega) hnR hnL hnS w1 (rR.ext m1) (rL.ext m1) (rS.ext m1) (hFesR.ext m1) (hFesL.ext m1))) rfl rfl (ltb rfl) ?_
 rintro _ w2 ⟨rfl, m2⟩
 refine WL.det (op_assign rfl) rfl rfl rfl ?_
 refine WL.end (NE.code (CE.seq (CE.seq (CE.region ?_))))
 refine WL.det (op_move rfl) rfl rfl rfl ?_
 refine WL.det (op_lti rfl rfl) rfl rfl rfl ?_
 refine WL.end (NE.code ?_)
 refine CE.cond_t rfl rfl ?_
 refine CE.seq (CE.region ?_)
 refine WL.det (op_assign rfl) rfl rfl rfl ?_
 refine WL.end (NE.code (CE.ret' (XE.ret_then ?_)))
 refine XE.leave1 Try.results12 rfl ?_
 refine ⟨rfl, (((Mod.refl [] w).nt m1).nt m2)⟩

theorem law_play_inv (nR : Nat) (cR : Nat) (AR : Option Addr) (bR : Nat) (oR : Nat) (esR : List RiR) (nL : Nat) (cL : Nat) (AL : Option Addr) (bL : Nat) (oL : Nat) (esL : List RiR) (nS : Nat) (cS : Nat) (AS : Option Addr) (bS : Nat) (oS : Nat) (xS : List Nat) (k : Int) (kc0 : Nat) (kc1 : Nat) (kc2 : Nat) (ks0 : Nat) (ks1 : Nat) (op : Bool) (lo : Nat) (re : Nat) (sl : Nat) (l : Nat) (cl : Nat) (Al : Option Addr) (bl : Nat) (ol : Nat) (ss : List Nat) (lnR : esR.length = nR) (hAR : 0 < nR → AR = some ⟨bR, oR, none⟩) (lnL : esL.length = nL) (hAL : 0 < nL → AL = some ⟨bL, oL, none⟩) (lnS : xS.length = nS) (hAS : 0 < nS → AS = some ⟨bS, oS, none⟩) (hT : nR + sumR esR nR + (nL + sumR esL nL) + nS ≤ 1048576) (mR : nR ≤ 1048576) (mL : nL ≤ 1048576) (mS : nS ≤ 1048576) (hzR : ∀ i, (esR.getD i RiR.d).n ≤ 1048576) (hzL : ∀ i, (esL.getD i RiR.d).n ≤ 1048576) (hl2 : l ≤ 1048576) (hv : vPipe nR nL nS (esR.map RiR.rd) (esL.map RiR.rd) xS k kc0 kc1 kc2 ks0 ks1 lo re sl = false) (ls : ss.length = l) (hAl : 0 < l → Al = some ⟨bl, ol, none⟩) (wl : W32 ss) (w : World) (rR : Rng w bR oR (cat RiR.cells esR)) (rL : Rng w bL oL (cat RiR.cells esL)) (rS : Rng w bS oS (fl xS)) (rl : Rng w bl ol (fl ss)) (hFesR : InF w esR) (hFesL : InF w esL) : Cl Try.prog 12 #[.agg #[.slice AR nR cR, .slice AL nL cL, .slice AS nS cS, vI k, vF kc0, vF kc1, vF kc2, vF ks0, vF ks1, .bool op, vF lo, vF re, vF sl], .slice Al l cl] w fun v w' => v = .bool true ∧ Mod [] w w' := by
 refine Cl.of Try.func12 Try.ntmps12 rfl rfl (ρ := [(0, .agg #[.slice AR nR cR, .slice AL nL cL, .slice AS nS cS, vI k, vF kc0, vF kc1, vF kc2, vF ks0, vF ks1, .bool op, vF lo, vF re, vF sl]), (1, .slice Al l cl)]) rfl ?_
 refine CE.seq (CE.region ?_)
 refine WL.op (op_box (cs := [.slice AR nR cR, .slice AL nL cL, .slice AS nS cS, vI k, vF kc0, vF kc1, vF kc2, vF ks0, vF ks1, .bool op, vF lo, vF re, vF sl]) rfl rfl) rfl rfl (ltb rfl) ?_
 rintro _ w1 ⟨rfl, r1, m1, z1⟩
 refine WL.det (op_assign rfl) rfl rfl rfl ?_
 refine WL.end (NE.code (CE.seq (CE.seq (CE.region ?_))))
 refine WL.det (op_move rfl) rfl rfl rfl ?_
 refine WL.det (op_len rfl Try.runUnderlying26) rfl rfl rfl ?_
 refine WL.det (op_gti rfl rfl) rfl rfl rfl ?_
 refine WL.end (NE.code ?_)
 refine CE.cond_f rfl (decide_eq_false (by omega)) ?_
 refine CE.skip' (NE.code (CE.seq (CE.region ?_)))
 refine WL.det (op_assign rfl) rfl rfl rfl ?_
 refine WL.end (NE.code (CE.seq (CE.region ?_)))
 refine WL.det (op_loadA (i := 0) (cs := [.slice AR nR cR, .slice AL nL cL, .slice AS nS cS, vI k, vF kc0, vF kc1, vF kc2, vF ks0, vF ks1, .bool op, vF lo, vF re, vF sl]) rfl Try.isAgg50 Try.sizeOf50 r1.rng rfl rfl rfl) rfl rfl rfl ?_
 refine WL.det (op_move rfl) rfl rfl rfl ?_
 refine WL.call (oc_call (vs := [.agg #[.slice AR nR cR, .slice AL nL cL, .slice AS nS cS, vI k, vF kc0, vF kc1, vF kc2, vF ks0, vF ks1, .bool op, vF lo, vF re, vF sl], vI 1048576]) (cap := []) rfl rfl rfl Try.call25 (c_szPipe 1048576 nR cR AR bR oR esR nL cL AL bL oL esL nS cS AS bS oS xS k kc0 kc1 kc2 ks0 ks1 op lo re sl lnR hAR lnL hAL lnS hAS hT (by omega) w1 (rR.ext m1) (rL.ext m1) (rS.ext m1) (hFesR.ext m1) (hFesL.ext m1))) rfl rfl (ltb rfl) ?_
 rintro _ w2 ⟨rfl, m2⟩
 refine WL.det (op_assign rfl) rfl rfl rfl ?_
 refine WL.end (NE.code (CE.seq (CE.seq (CE.region ?_))))
 refine WL.det (op_move rfl) rfl rfl rfl ?_
 refine WL.det (op_lti_f rfl rfl (Int.not_lt.2 (Int.natCast_nonneg _))) rfl rfl rfl ?_
 refine WL.end (NE.code ?_)
 refine CE.cond_f rfl rfl ?_
 refine CE.skip' (NE.code (CE.seq (CE.region ?_)))
 refine WL.det (op_loadA (i := 0) (cs := [.slice AR nR cR, .slice AL nL cL, .slice AS nS cS, vI k, vF kc0, vF kc1, vF kc2, vF ks0, vF ks1, .bool op, vF lo, vF re, vF sl]) rfl Try.isAgg50 Try.sizeOf50 (r1.ext m2).rng rfl rfl rfl) rfl rfl rfl ?_
 refine WL.call (oc_call (vs := [.agg #[.slice AR nR cR, .slice AL nL cL, .slice AS nS cS, vI k, vF kc0, vF kc1, vF kc2, vF ks0, vF ks1, .bool op, vF lo, vF re, vF sl]]) (cap := []) rfl rfl rfl Try.call26 (c_toPipe nR cR AR bR oR esR nL cL AL bL oL esL nS cS AS bS oS xS k kc0 kc1 kc2 ks0 ks1 op lo re sl lnR hAR lnL hAL lnS hAS mR mL mS hzR hzL w2 ((rR.ext m1).ext m2) ((rL.ext m1).ext m2) ((rS.ext m1).ext m2) ((hFesR.ext m1).ext m2) ((hFesL.ext m1).ext m2))) rfl rfl (ltb rfl) ?_
 rintro _ w3 ⟨bR'1, PR1, bL'1, PL1, bS'1, rfl, h1, h2, r2, r3, r4, ge1, ge2, ge3, ne1, ne2, ne3, fm1, fn1, fn2, fn3, fn4, fm2, fn5, fn6, fn7, m3⟩
 refine WL.det (op_move rfl) rfl rfl rfl ?_
 have r5 := (((rl.ext m1).ext m2).ext m3)
 refine WL.call (oc_call (vs := [.slice Al l cl]) (cap := []) rfl rfl rfl Try.call49 (c_to32 l cl Al bl ol ss ls hAl (by omega) w3 r5)) rfl rfl (ltb rfl) ?_
 rintro _ w4 ⟨b'1, rfl, r6, ge4, m4⟩
 refine WL.call (oc_call (vs := [.agg #[vS bR'1 0 nR nR, vS bL'1 0 nL nL, vS bS'1 0 nS nS, vI k, vF kc0, vF kc1, vF kc2, vF ks0, vF ks1, .bool op, vF lo, vF re, vF sl], vS b'1 0 l l]) (cap := []) rfl rfl rfl Try.call17 (c_sPlayP_inv nR (esR.map RiR.rd) nL (esL.map RiR.rd) nS xS nR bR'1 PR1 w2.heap.size nL bL'1 PL1 w2.heap.size nS bS'1 k kc0 kc1 kc2 ks0 ks1 op lo re sl l l (some ⟨b'1, 0, none⟩) b'1 0 ss (rd_len lnR) (rd_len lnL) lnS (rd_small hFesR hzR) (rd_small hFesL hzL) h1 h2 mR mL mS ls (fun _ => rfl) (by first | assumption | exact W32.set (by assumption) (by first | assumption | exact wid_lt (by assumption)) | exact W32.zeros _ | exact W32.nil) (by omega) hv w4 (r2.ext m4).rng (r3.ext m4).rng (r4.ext m4).rng r6.rng (fm1.ext m4) (fm2.ext m4))) rfl rfl (ltb rfl) ?_
 rintro _ w5 ⟨e'1, rfl, r7, ge5, m5⟩
 refine WL.det (op_move rfl) rfl rfl rfl ?_
 iterate 3 refine WL.det (op_extract rfl rfl) rfl rfl rfl ?_
 refine WL.op (op_alloc (cs := [.slice none 0 0, .slice none 0 0, .slice none 0 0, vI 0, vF 0, vF 0, vF 0, vF 0, vF 0, .bool false, vF 0, vF 0, vF 0]) Try.zeroValue33 rfl) rfl rfl (ltb rfl) ?_
 rintro _ w6 ⟨rfl, r8, m6, z2⟩
 refine WL.op0 (op_store (i := 0) (cs := [.slice none 0 0, .slice none 0 0, .slice none 0 0, vI 0, vF 0, vF 0, vF 0, vF 0, vF 0, .bool false, vF 0, vF 0, vF 0]) rfl rfl rfl Try.sizeOf33 rfl r8 rfl (lB rfl) rfl) rfl rfl ?_
 rintro _ w7 ⟨r9, m7, z3⟩
 have r10 : Row w7 w5.heap.size 0 [.slice none 0 0, .slice none 0 0, .slice none 0 0, vI 0, vF 0, vF 0, vF 0, vF 0, vF 0, .bool false, vF 0, vF 0, vF 0] := Row.congr r9 rfl
 iterate 2 refine WL.det (op_assign rfl) rfl rfl rfl ?_
 refine WL.end (NE.code (CE.seq (CE.region ?_)))
 have sz1 := (lT (lT (lT m2.size m3.size) m4.size) m5.size)
 have r11 := ((((((r1.ext m2).ext m3).ext m4).ext m5).ext m6).mod m7 (nC (lE (lL (lL r1.lt sz1) lR)) nN))
 refine WL.det (op_loadA (i := 0) (cs := [.slice AR nR cR, .slice AL nL cL, .slice AS nS cS, vI k, vF kc0, vF kc1, vF kc2, vF ks0, vF ks1, .bool op, vF lo, vF re, vF sl]) rfl Try.isAgg50 Try.sizeOf50 r11.rng rfl rfl rfl) rfl rfl rfl ?_
 have sz2 := (lT (lT (lT (lT m1.size m2.size) m3.size) m4.size) m5.size)
 have r12 := (Rng.youngS rR ((((((rR.ext m1).ext m2).ext m3).ext m4).ext m5).ext m6) m7 (allge_cons (lT sz2 lR) allge_nil))
 have r13 := (Rng.youngS rL ((((((rL.ext m1).ext m2).ext m3).ext m4).ext m5).ext m6) m7 (allge_cons (lT sz2 lR) allge_nil))
 have r14 := (Rng.youngS rS ((((((rS.ext m1).ext m2).ext m3).ext m4).ext m5).ext m6) m7 (allge_cons (lT sz2 lR) allge_nil))
 refine WL.call (oc_call (vs := [.agg #[.slice AR nR cR, .slice AL nL cL, .slice AS nS cS, vI k, vF kc0, vF kc1, vF kc2, vF ks0, vF ks1, .bool op, vF lo, vF re, vF sl]]) (cap := []) rfl rfl rfl Try.call26 (c_toPipe nR cR AR bR oR esR nL cL AL bL oL esL nS cS AS bS oS xS k kc0 kc1 kc2 ks0 ks1 op lo re sl lnR hAR lnL hAL lnS hAS mR mL mS hzR hzL w7 r12 r13 r14 (InF.mod hFesR ((((((hFesR.ext m1).ext m2).ext m3).ext m4).ext m5).ext m6) m7 (allge_cons (lT sz2 lR) allge_nil)) (InF.mod hFesL ((((((hFesL.ext m1).ext m2).ext m3).ext m4).ext m5).ext m6) m7 (allge_cons (lT sz2 lR) allge_nil)))) rfl rfl (ltb rfl) ?_
 rintro _ w8 ⟨bR'2, PR2, bL'2, PL2, bS'2, rfl, h3, h4, r15, r16, r17, ge6, ge7, ge8, ne4, ne5, ne6, fm3, fn8, fn9, fn10, fn11, fm4, fn12, fn13, fn14, m8⟩
 refine WL.op (op_alloc (cs := [.slice none 0 0, .slice none 0 0, .slice none 0 0, vI 0, vF 0, vF 0, vF 0, vF 0, vF 0, .bool false, vF 0, vF 0, vF 0]) Try.zeroValue33 rfl) rfl rfl (ltb rfl) ?_
 rintro _ w9 ⟨rfl, r18, m9, z4⟩
 refine WL.op0 (op_store (i := 0) (cs := [vS bR'2 0 nR nR, vS bL'2 0 nL nL, vS bS'2 0 nS nS, vI k, vF kc0, vF kc1, vF kc2, vF ks0, vF ks1, .bool op, vF lo, vF re, vF sl]) rfl rfl rfl Try.sizeOf33 rfl r18 rfl (lB rfl) rfl) rfl rfl ?_
 rintro _ w10 ⟨r19, m10, z5⟩
 have r20 : Row w10 w8.heap.size 0 [vS bR'2 0 nR nR, vS bL'2 0 nL nL, vS bS'2 0 nS nS, vI k, vF kc0, vF kc1, vF kc2, vF ks0, vF ks1, .bool op, vF lo, vF re, vF sl] := Row.congr r19 rfl
 refine WL.end (NE.code (CE.seq (CE.region ?_)))
 refine WL.det (op_move rfl) rfl rfl rfl ?_
 have sz3 := (lT (lT (lT sz2 m6.size) m7.size) m8.size)
 have r21 := (Rng.youngS rl (((Rng.youngS rl (((r5.ext m4).ext m5).ext m6) m7 (allge_cons (lT sz2 lR) allge_nil)).ext m8).ext m9) m10 (allge_cons (lT sz3 lR) allge_nil))
 refine WL.call (oc_call (vs := [.slice Al l cl]) (cap := []) rfl rfl rfl Try.call49 (c_to32 l cl Al bl ol ss ls hAl (by omega) w10 r21)) rfl rfl (ltb rfl) ?_
 rintro _ w11 ⟨b'2, rfl, r22, ge9, m11⟩
 refine WL.det (op_assign rfl) rfl rfl rfl ?_
 refine WL.end (NE.code (CE.seq (CE.region ?_)))
 refine WL.det (op_loadA (i := 0) (cs := [vS bR'2 0 nR nR, vS bL'2 0 nL nL, vS bS'2 0 nS nS, vI k, vF kc0, vF kc1, vF kc2, vF ks0, vF ks1, .bool op, vF lo, vF re, vF sl]) rfl Try.isAgg33 Try.sizeOf33 (r20.ext m11).rng rfl rfl rfl) rfl rfl rfl ?_
 refine WL.det (op_move rfl) rfl rfl rfl ?_
 have r23 := (((r15.ext m9).mod m10 (nC (lE (lL r15.lt lR)) nN)).ext m11)
 have r24 := (((r16.ext m9).mod m10 (nC (lE (lL r16.lt lR)) nN)).ext m11)
 have r25 := (((r17.ext m9).mod m10 (nC (lE (lL r17.lt lR)) nN)).ext m11)
 refine WL.call (oc_call (vs := [.agg #[vS bR'2 0 nR nR, vS bL'2 0 nL nL, vS bS'2 0 nS nS, vI k, vF kc0, vF kc1, vF kc2, vF ks0, vF ks1, .bool op, vF lo, vF re, vF sl], vS b'2 0 l l]) (cap := []) rfl rfl rfl Try.call21 (c_iPlayP_inv nR (esR.map RiR.rd) nL (esL.map RiR.rd) nS xS nR bR'2 PR2 w7.heap.size nL bL'2 PL2 w7.heap.size nS bS'2 k kc0 kc1 kc2 ks0 ks1 op lo re sl l l (some ⟨b'2, 0, none⟩) b'2 0 ss (rd_len lnR) (rd_len lnL) lnS (rd_small hFesR hzR) (rd_small hFesL hzL) h3 h4 mR mL mS ls (fun _ => rfl) (by first | assumption | exact W32.set (by assumption) (by first | assumption | exact wid_lt (by assumption)) | exact W32.zeros _ | exact W32.nil) (by omega) hv w11 r23.rng r24.rng r25.rng r22.rng (((fm3.ext m9).mod m10 (fun j hj => (nC (lE (lL (OF.lt fm3 (Nat.lt_of_lt_of_eq (Nat.lt_of_lt_of_eq hj (rd_len lnR)) (rd_len lnR).symm)) lR)) nN))).ext m11) (((fm4.ext m9).mod m10 (fun j hj => (nC (lE (lL (OF.lt fm4 (Nat.lt_of_lt_of_eq (Nat.lt_of_lt_of_eq hj (rd_len lnL)) (rd_len lnL).symm)) lR)) nN))).ext m11))) rfl rfl (ltb rfl) ?_
 rintro _ w12 ⟨rfl, m12⟩
 refine WL.det (op_move rfl) rfl rfl rfl ?_
 iterate 3 refine WL.det (op_extract rfl rfl) rfl rfl rfl ?_
 refine WL.op (op_alloc (cs := [.slice none 0 0, .slice none 0 0, .slice none 0 0, vI 0, vF 0, vF 0, vF 0, vF 0, vF 0, .bool false, vF 0, vF 0, vF 0]) Try.zeroValue33 rfl) rfl rfl (ltb rfl) ?_
 rintro _ w13 ⟨rfl, r26, m13, z6⟩
 refine WL.op0 (op_store (i := 0) (cs := [.slice none 0 0, .slice none 0 0, .slice none 0 0, vI 0, vF 0, vF 0, vF 0, vF 0, vF 0, .bool false, vF 0, vF 0, vF 0]) rfl rfl rfl Try.sizeOf33 rfl r26 rfl (lB rfl) rfl) rfl rfl ?_
 rintro _ w14 ⟨r27, m14, z7⟩
 have r28 : Row w14 w12.heap.size 0 [.slice none 0 0, .slice none 0 0, .slice none 0 0, vI 0, vF 0, vF 0, vF 0, vF 0, vF 0, .bool false, vF 0, vF 0, vF 0] := Row.congr r27 rfl
 iterate 2 refine WL.det (op_assign rfl) rfl rfl rfl ?_
 refine WL.end (NE.code (CE.seq (CE.seq (CE.region ?_))))
 refine WL.det (op_loadA (i := 0) (cs := [.slice none 0 0, .slice none 0 0, .slice none 0 0, vI 0, vF 0, vF 0, vF 0, vF 0, vF 0, .bool false, vF 0, vF 0, vF 0]) rfl Try.isAgg33 Try.sizeOf33 r28.rng rfl rfl rfl) rfl rfl rfl ?_
 have sz4 := (lT (lT (lT (lT (lT m7.size m8.size) m9.size) m10.size) m11.size) m12.size)
 have r29 := (((((((r10.ext m8).ext m9).mod m10 (nC (lE (lL (lL r8.lt (lT m7.size m8.size)) lR)) nN)).ext m11).ext m12).ext m13).mod m14 (nC (lE (lL (lL r8.lt sz4) lR)) nN))
 refine WL.det (op_loadA (i := 0) (cs := [.slice none 0 0, .slice none 0 0, .slice none 0 0, vI 0, vF 0, vF 0, vF 0, vF 0, vF 0, .bool false, vF 0, vF 0, vF 0]) rfl Try.isAgg33 Try.sizeOf33 r29.rng rfl rfl rfl) rfl rfl rfl ?_
 refine WL.call (oc_call (vs := [.agg #[.slice none 0 0, .slice none 0 0, .slice none 0 0, vI 0, vF 0, vF 0, vF 0, vF 0, vF 0, .bool false, vF 0, vF 0, vF 0], .agg #[.slice none 0 0, .slice none 0 0, .slice none 0 0, vI 0, vF 0, vF 0, vF 0, vF 0, vF 0, .bool false, vF 0, vF 0, vF 0]]) (cap := []) rfl rfl rfl Try.call28 (c_eqPipe_nil w14)) rfl rfl (ltb rfl) ?_
 rintro _ w15 ⟨rfl, m15⟩
 refine WL.det (op_not rfl) rfl rfl rfl ?_
 refine WL.det (op_move rfl) rfl rfl rfl ?_
 refine WL.yes rfl rfl rfl (ltb rfl) rfl rfl ?_
 refine WL.det (op_move rfl) rfl rfl rfl ?_
 refine WL.yes rfl rfl rfl (ltb rfl) rfl rfl ?_
 refine WL.det (op_move rfl) rfl rfl rfl ?_
 have sz5 := (lT (lT m6.size m7.size) m8.size)
 have sz6 := (lT (lT (lT (lT sz5 m9.size) m10.size) m11.size) m12.size)
 have r30 := ((((((((((r7.ext m6).mod m7 (nC (lE (lL r7.lt lR)) nN)).ext m8).ext m9).mod m10 (nC (lE (lL (lL r7.lt sz5) lR)) nN)).ext m11).ext m12).ext m13).mod m14 (nC (lE (lL (lL r7.lt sz6) lR)) nN)).ext m15)
 refine WL.yes rfl rfl rfl (ltb rfl) rfl rfl ?_
 refine WL.call (oc_call (vs := [.slice none 0 0, vS e'1 0 0 0]) (cap := []) rfl rfl rfl Try.call50 (c_eq32_same 0 0 none 0 0 [] 0 (some ⟨e'1, 0, none⟩) e'1 0 rfl (fun h => absurd h (Nat.lt_irrefl _)) (fun _ => rfl) (by omega) w15 (Rng.nil _ _ _) r30.rng)) rfl rfl (ltb rfl) ?_
 rintro _ w16 ⟨rfl, m16⟩
 refine WL.yes rfl rfl rfl (ltb rfl) rfl rfl ?_
 refine WL.det (op_not rfl) rfl rfl rfl ?_
 refine WL.det (op_pick_f rfl rfl rfl) rfl rfl rfl ?_
 refine WL.det (op_move rfl) rfl rfl rfl ?_
 refine WL.yes rfl rfl rfl (ltb rfl) rfl rfl ?_
 refine WL.det (op_move rfl) rfl rfl rfl ?_
 refine WL.yes rfl rfl rfl (ltb rfl) rfl rfl ?_
 refine WL.det (op_move rfl) rfl rfl rfl ?_
 refine WL.yes rfl rfl rfl (ltb rfl) rfl rfl ?_
 refine WL.det (op_nei rfl rfl) rfl rfl rfl ?_
 refine WL.det (op_pick_f rfl rfl rfl) rfl rfl rfl ?_
 refine WL.end (NE.code ?_)
 refine CE.cond_f rfl rfl ?_
 refine CE.skip' (NE.code (CE.seq (CE.seq ?_)))
 refine CE.draw (fun | 2 => some (fun _ wA uA wB => ∃ (bR' : Nat) (PR : List BC) (bL' : Nat) (PL : List BC) (bS' : Nat), uA = .agg #[vS bR' 0 nR nR, vS bL' 0 nL nL, vS bS' 0 nS nS, vI k, vF kc0, vF kc1, vF kc2, vF ks0, vF ks1, .bool op, vF lo, vF re, vF sl] ∧ (PR.length = nR) ∧ (PL.length = nL) ∧ Row wB bR' 0 (olc (esR.map RiR.rd) PR) ∧ Row wB bL' 0 (olc (esL.map RiR.rd) PL) ∧ Row wB bS' 0 (fl xS) ∧ wA.heap.size ≤ bR' ∧ wA.heap.size ≤ bL' ∧ wA.heap.size ≤ bS' ∧ bR' ≠ bL' ∧ bR' ≠ bS' ∧ bL' ≠ bS' ∧ OF wA.heap.size wB (esR.map RiR.rd) PR ∧ (∀ i, i < nR → (PR.getD i BC.d).b ≠ bR') ∧ (∀ i, i < nR → (PR.getD i BC.d).b ≠ bL') ∧ (∀ i, i < nR → (PR.getD i BC.d).b ≠ bS') ∧ (∀ i j, i < nR → j < nL → (PR.getD i BC.d).b ≠ (PL.getD j BC.d).b) ∧ OF wA.heap.size wB (esL.map RiR.rd) PL ∧ (∀ i, i < nL → (PL.getD i BC.d).b ≠ bR') ∧ (∀ i, i < nL → (PL.getD i BC.d).b ≠ bL') ∧ (∀ i, i < nL → (PL.getD i BC.d).b ≠ bS') ∧ Mod [] wA wB) | _ => none) [0, 1, 2] [3, 4] [] (by kernel_rfl) (by kernel_rfl) ?_
 have md1 : Mod [] w16 w16.drew := (Mod.refl _ _).drew
 generalize w16.drew = w17 at md1 ⊢
 refine DR.det (i := 0) rfl rfl (by kernel_rfl) (.free rfl) rfl rfl (fun wD mD => op_loadA (i := 0) (cs := [vS bR'2 0 nR nR, vS bL'2 0 nL nL, vS bS'2 0 nS nS, vI k, vF kc0, vF kc1, vF kc2, vF ks0, vF ks1, .bool op, vF lo, vF re, vF sl]) rfl Try.isAgg33 Try.sizeOf33 ((((((((r20.ext m11).ext m12).ext m13).mod m14 (nC (lE (lL (lL r18.lt (lT (lT m10.size m11.size) m12.size)) lR)) nN)).ext m15).ext m16).ext md1).ext mD).rng rfl rfl rfl) ?_
 refine DR.det (i := 1) rfl rfl (by kernel_rfl) (.free rfl) rfl rfl (fun wD mD => op_loadA (i := 0) (cs := [.slice AR nR cR, .slice AL nL cL, .slice AS nS cS, vI k, vF kc0, vF kc1, vF kc2, vF ks0, vF ks1, .bool op, vF lo, vF re, vF sl]) rfl Try.isAgg50 Try.sizeOf50 (((((((((((r11.ext m8).ext m9).mod m10 (nC (lE (lL (lL r1.lt (lT (lT (lT sz1 m6.size) m7.size) m8.size)) lR)) nN)).ext m11).ext m12).ext m13).mod m14 (nC (lE (lL (lL r1.lt (lT (lT (lT (lT (lT (lT (lT sz1 m6.size) m7.size) m8.size) m9.size) m10.size) m11.size) m12.size)) lR)) nN)).ext m15).ext m16).ext md1).ext mD).rng rfl rfl rfl) ?_
 refine DR.one (i := 2) rfl rfl (by kernel_rfl) (.free rfl) rfl (ltb rfl) (vs := [.func (.func 26) #[] #[], .agg #[.slice AR nR cR, .slice AL nL cL, .slice AS nS cS, vI k, vF kc0, vF kc1, vF kc2, vF ks0, vF ks1, .bool op, vF lo, vF re, vF sl]]) rfl ?_
 intro w18 m17
 refine ⟨oc_call (vs := [.agg #[.slice AR nR cR, .slice AL nL cL, .slice AS nS cS, vI k, vF kc0, vF kc1, vF kc2, vF ks0, vF ks1, .bool op, vF lo, vF re, vF sl]]) (cap := []) rfl rfl rfl Try.call26 (c_toPipe nR cR AR bR oR esR nL cL AL bL oL esL nS cS AS bS oS xS k kc0 kc1 kc2 ks0 ks1 op lo re sl lnR hAR lnL hAL lnS hAS mR mL mS hzR hzL w18 (((((Rng.youngS rR ((((Rng.youngS rR ((r12.ext m8).ext m9) m10 (allge_cons (lT sz3 lR) allge_nil)).ext m11).ext m12).ext m13) m14 (allge_cons (lT (lT (lT (lT (lT sz3 m9.size) m10.size) m11.size) m12.size) lR) allge_nil)).ext m15).ext m16).ext md1).ext m17) (((((Rng.youngS rL ((((Rng.youngS rL ((r13.ext m8).ext m9) m10 (allge_cons (lT sz3 lR) allge_nil)).ext m11).ext m12).ext m13) m14 (allge_cons (lT (lT (lT (lT (lT sz3 m9.size) m10.size) m11.size) m12.size) lR) allge_nil)).ext m15).ext m16).ext md1).ext m17) (((((Rng.youngS rS ((((Rng.youngS rS ((r14.ext m8).ext m9) m10 (allge_cons (lT sz3 lR) allge_nil)).ext m11).ext m12).ext m13) m14 (allge_cons (lT (lT (lT (lT (lT sz3 m9.size) m10.size) m11.size) m12.size) lR) allge_nil)).ext m15).ext m16).ext md1).ext m17) (((((InF.mod hFesR ((((InF.mod hFesR (((InF.mod hFesR ((((((hFesR.ext m1).ext m2).ext m3).ext m4).ext m5).ext m6) m7 (allge_cons (lT sz2 lR) allge_nil)).ext m8).ext m9) m10 (allge_cons (lT sz3 lR) allge_nil)).ext m11).ext m12).ext m13) m14 (allge_cons (lT (lT (lT (lT (lT sz3 m9.size) m10.size) m11.size) m12.size) lR) allge_nil)).ext m15).ext m16).ext md1).ext m17) (((((InF.mod hFesL ((((InF.mod hFesL (((InF.mod hFesL ((((((hFesL.ext m1).ext m2).ext m3).ext m4).ext m5).ext m6) m7 (allge_cons (lT sz2 lR) allge_nil)).ext m8).ext m9) m10 (allge_cons (lT sz3 lR) allge_nil)).ext m11).ext m12).ext m13) m14 (allge_cons (lT (lT (lT (lT (lT sz3 m9.size) m10.size) m11.size) m12.size) lR) allge_nil)).ext m15).ext m16).ext md1).ext m17)), ?_⟩
 rintro _ w19 ⟨bR'3, PR3, bL'3, PL3, bS'3, rfl, h5, h6, r31, r32, r33, ge10, ge11, ge12, ne7, ne8, ne9, fm5, fn15, fn16, fn17, fn18, fm6, fn19, fn20, fn21, m18⟩
 refine ⟨(((Mod.refl [] w17).nt m17).nt m18), ?_⟩
 refine DR.done rfl ?_
 intro w20 m19
 have sz7 := (lT (lT (lT m9.size m10.size) m11.size) m12.size)
 have r34 := (((((((((r23.ext m12).ext m13).mod m14 (nC (lE (lL (lL r15.lt sz7) lR)) nN)).ext m15).ext m16).ext md1).ext m17).ext m18).ext m19)
 have r35 := (((((((((r24.ext m12).ext m13).mod m14 (nC (lE (lL (lL r16.lt sz7) lR)) nN)).ext m15).ext m16).ext md1).ext m17).ext m18).ext m19)
 have r36 := (((((((((r25.ext m12).ext m13).mod m14 (nC (lE (lL (lL r17.lt sz7) lR)) nN)).ext m15).ext m16).ext md1).ext m17).ext m18).ext m19)
 refine WO.call rfl (.free rfl) rfl (ltb rfl) (oc_call (vs := [.agg #[vS bR'2 0 nR nR, vS bL'2 0 nL nL, vS bS'2 0 nS nS, vI k, vF kc0, vF kc1, vF kc2, vF ks0, vF ks1, .bool op, vF lo, vF re, vF sl], .agg #[vS bR'3 0 nR nR, vS bL'3 0 nL nL, vS bS'3 0 nS nS, vI k, vF kc0, vF kc1, vF kc2, vF ks0, vF ks1, .bool op, vF lo, vF re, vF sl]]) (cap := []) rfl rfl rfl Try.call28 (c_eqPipe nR (esR.map RiR.rd) nL (esL.map RiR.rd) nS xS nR bR'2 PR2 w7.heap.size nL bL'2 PL2 w7.heap.size nS bS'2 nR bR'3 PR3 w18.heap.size nL bL'3 PL3 w18.heap.size nS bS'3 k kc0 kc1 kc2 ks0 ks1 op lo re sl (rd_len lnR) (rd_len lnL) lnS (rd_small hFesR hzR) (rd_small hFesL hzL) mR mL mS h3 h4 h5 h6 w20 r34.rng r35.rng r36.rng (r31.ext m19).rng (r32.ext m19).rng (r33.ext m19).rng ((((((((((((fm3.ext m9).mod m10 (fun j hj => (nC (lE (lL (OF.lt fm3 (Nat.lt_of_lt_of_eq (Nat.lt_of_lt_of_eq hj (rd_len lnR)) (rd_len lnR).symm)) lR)) nN))).ext m11).ext m12).ext m13).mod m14 (fun j hj => (nC (lE (lL (OF.lt fm3 (Nat.lt_of_lt_of_eq (Nat.lt_of_lt_of_eq hj (rd_len lnR)) (rd_len lnR).symm)) (lT sz7 lR))) nN))).ext m15).ext m16).ext md1).ext m17).ext m18).ext m19) ((((((((((((fm4.ext m9).mod m10 (fun j hj => (nC (lE (lL (OF.lt fm4 (Nat.lt_of_lt_of_eq (Nat.lt_of_lt_of_eq hj (rd_len lnL)) (rd_len lnL).symm)) lR)) nN))).ext m11).ext m12).ext m13).mod m14 (fun j hj => (nC (lE (lL (OF.lt fm4 (Nat.lt_of_lt_of_eq (Nat.lt_of_lt_of_eq hj (rd_len lnL)) (rd_len lnL).symm)) (lT sz7 lR))) nN))).ext m15).ext m16).ext md1).ext m17).ext m18).ext m19) (fm5.ext m19) (fm6.ext m19))) ?_
 rintro _ w21 ⟨rfl, m20⟩
 refine WO.det (op_not rfl) rfl (.free rfl) rfl rfl ?_
 refine WO.end (NE.code ?_)
 refine CE.cond_f rfl rfl ?_
 refine CE.skip' (NE.code (CE.seq (CE.seq (CE.region ?_))))
 iterate 2 refine WL.det (op_move rfl) rfl rfl rfl ?_
 have sz8 := (lT (lT (lT (lT sz3 m9.size) m10.size) m11.size) m12.size)
 have r37 := ((((((((Rng.youngS rl (((r21.ext m11).ext m12).ext m13) m14 (allge_cons (lT sz8 lR) allge_nil)).ext m15).ext m16).ext md1).ext m17).ext m18).ext m19).ext m20)
 refine WL.call (oc_call (vs := [.slice Al l cl]) (cap := []) rfl rfl rfl Try.call49 (c_to32 l cl Al bl ol ss ls hAl (by omega) w21 r37)) rfl rfl (ltb rfl) ?_
 rintro _ w22 ⟨b'3, rfl, r38, ge13, m21⟩
 have r39 := (((((((((((r22.ext m12).ext m13).mod m14 (nC (lE (lL (lL r22.lt m12.size) lR)) nN)).ext m15).ext m16).ext md1).ext m17).ext m18).ext m19).ext m20).ext m21)
 refine WL.call (oc_call (vs := [vS b'2 0 l l, vS b'3 0 l l]) (cap := []) rfl rfl rfl Try.call50 (c_eq32_same l l (some ⟨b'2, 0, none⟩) b'2 0 ss l (some ⟨b'3, 0, none⟩) b'3 0 ls (fun _ => rfl) (fun _ => rfl) (by omega) w22 r39.rng r38.rng)) rfl rfl (ltb rfl) ?_
 rintro _ w23 ⟨rfl, m22⟩
 refine WL.det (op_not rfl) rfl rfl rfl ?_
 refine WL.end (NE.code ?_)
 refine CE.cond_f rfl rfl ?_
 refine CE.skip' (NE.code (CE.seq (CE.region ?_)))
 refine WL.det (op_assign rfl) rfl rfl rfl ?_
 refine WL.end (NE.code (CE.seq (CE.region ?_)))
 have sz9 := (lT (lT m10.size m11.size) m12.size)
 have r40 := (((((((((((((r20.ext m11).ext m12).ext m13).mod m14 (nC (lE (lL (lL r18.lt sz9) lR)) nN)).ext m15).ext m16).ext md1).ext m17).ext m18).ext m19).ext m20).ext m21).ext m22)
 refine WL.det (op_loadA (i := 0) (cs := [vS bR'2 0 nR nR, vS bL'2 0 nL nL, vS bS'2 0 nS nS, vI k, vF kc0, vF kc1, vF kc2, vF ks0, vF ks1, .bool op, vF lo, vF re, vF sl]) rfl Try.isAgg33 Try.sizeOf33 r40.rng rfl rfl rfl) rfl rfl rfl ?_
 refine WL.det (op_move rfl) rfl rfl rfl ?_
 have r41 := (((r34.ext m20).ext m21).ext m22)
 have r42 := (((r35.ext m20).ext m21).ext m22)
 have r43 := (((r36.ext m20).ext m21).ext m22)
 refine WL.call (oc_call (vs := [.agg #[vS bR'2 0 nR nR, vS bL'2 0 nL nL, vS bS'2 0 nS nS, vI k, vF kc0, vF kc1, vF kc2, vF ks0, vF ks1, .bool op, vF lo, vF re, vF sl], vI 1]) (cap := []) rfl rfl rfl Try.call29 (c_markPipe nR (esR.map RiR.rd) nL (esL.map RiR.rd) nS xS nR bR'2 PR2 w7.heap.size nL bL'2 PL2 w7.heap.size nS bS'2 k kc0 kc1 kc2 ks0 ks1 op lo re sl 1 (rd_len lnR) (rd_len lnL) lnS (rd_small hFesR hzR) (rd_small hFesL hzL) mR mL mS h3 h4 (by omega) w23 r41 r42 r43 ne4 ne5 ne6 (((((((((((((((fm3.ext m9).mod m10 (fun j hj => (nC (lE (lL (OF.lt fm3 (Nat.lt_of_lt_of_eq (Nat.lt_of_lt_of_eq hj (rd_len lnR)) (rd_len lnR).symm)) lR)) nN))).ext m11).ext m12).ext m13).mod m14 (fun j hj => (nC (lE (lL (OF.lt fm3 (Nat.lt_of_lt_of_eq (Nat.lt_of_lt_of_eq hj (rd_len lnR)) (rd_len lnR).symm)) (lT sz7 lR))) nN))).ext m15).ext m16).ext md1).ext m17).ext m18).ext m19).ext m20).ext m21).ext m22) (fun j hj => (fn8 j hj)) (fun j hj => (fn9 j hj)) (fun j hj => (fn10 j hj)) (fun j q hj hq => (fn11 j q hj hq)) (((((((((((((((fm4.ext m9).mod m10 (fun j hj => (nC (lE (lL (OF.lt fm4 (Nat.lt_of_lt_of_eq (Nat.lt_of_lt_of_eq hj (rd_len lnL)) (rd_len lnL).symm)) lR)) nN))).ext m11).ext m12).ext m13).mod m14 (fun j hj => (nC (lE (lL (OF.lt fm4 (Nat.lt_of_lt_of_eq (Nat.lt_of_lt_of_eq hj (rd_len lnL)) (rd_len lnL).symm)) (lT sz7 lR))) nN))).ext m15).ext m16).ext md1).ext m17).ext m18).ext m19).ext m20).ext m21).ext m22) (fun j hj => (fn12 j hj)) (fun j hj => (fn13 j hj)) (fun j hj => (fn14 j hj)))) rfl rfl (ltb rfl) ?_
 rintro _ w24 ⟨z8, rfl, h7, m23⟩
 refine WL.det (op_assign rfl) rfl rfl rfl ?_
 refine WL.end (NE.code (CE.seq (CE.region ?_)))
 iterate 2 refine WL.det (op_move rfl) rfl rfl rfl ?_
 have r44 := ((r39.ext m22).mod m23 (nC (lG (lL (lL r15.lt (lT m9.size m10.size)) ge9)) (nC (lG (lL (lL r16.lt (lT m9.size m10.size)) ge9)) (nC (lG (lL (lL r17.lt (lT m9.size m10.size)) ge9)) (nA h3 (fun j hj => (lE (lL (OF.lt fm3 (Nat.lt_of_lt_of_eq hj (rd_len lnR).symm)) (lT (lT m9.size m10.size) ge9)))) (nA h4 (fun j hj => (lE (lL (OF.lt fm4 (Nat.lt_of_lt_of_eq hj (rd_len lnL).symm)) (lT (lT m9.size m10.size) ge9)))) nN))))))
 refine WL.call (oc_call (vs := [vS b'2 0 l l, vI ((z8 : Nat) : Int)]) (cap := []) rfl rfl rfl Try.call51 (c_mark32 l l (some ⟨b'2, 0, none⟩) b'2 0 ss z8 ls (fun _ => rfl) (by first | assumption | omega) (by first | assumption | omega) w24 r44)) rfl rfl (ltb rfl) ?_
 rintro _ w25 ⟨rfl, r45, m24⟩
 refine WL.det (op_assign rfl) rfl rfl rfl ?_
 refine WL.end (NE.code (CE.seq (CE.seq (CE.region ?_))))
 refine WL.det (op_move rfl) rfl rfl rfl ?_
 refine WL.det (op_lti_f rfl rfl (Int.not_lt.2 (Int.natCast_nonneg _))) rfl rfl rfl ?_
 refine WL.det (op_move rfl) rfl rfl rfl ?_
 have r46 := (((((((((((r28.ext m15).ext m16).ext md1).ext m17).ext m18).ext m19).ext m20).ext m21).ext m22).mod m23 (nC (lG (lL (lL r15.lt sz7) lR)) (nC (lG (lL (lL r16.lt sz7) lR)) (nC (lG (lL (lL r17.lt sz7) lR)) (nA h3 (fun j hj => (lE (lL (OF.lt fm3 (Nat.lt_of_lt_of_eq hj (rd_len lnR).symm)) (lT sz7 lR)))) (nA h4 (fun j hj => (lE (lL (OF.lt fm4 (Nat.lt_of_lt_of_eq hj (rd_len lnL).symm)) (lT sz7 lR)))) nN)))))).mod m24 (nC (lG (lL (lL r22.lt m12.size) lR)) nN))
 refine WL.yes rfl rfl rfl (ltb rfl) rfl rfl ?_
 refine WL.det (op_loadA (i := 0) (cs := [.slice none 0 0, .slice none 0 0, .slice none 0 0, vI 0, vF 0, vF 0, vF 0, vF 0, vF 0, .bool false, vF 0, vF 0, vF 0]) rfl Try.isAgg33 Try.sizeOf33 r46.rng rfl rfl rfl) rfl rfl rfl ?_
 have sz10 := (lT (lT (lT m7.size m8.size) m9.size) m10.size)
 have r47 := (((((((((((r29.ext m15).ext m16).ext md1).ext m17).ext m18).ext m19).ext m20).ext m21).ext m22).mod m23 (nC (lE (lL (lL r8.lt m7.size) ge6)) (nC (lE (lL (lL r8.lt m7.size) ge7)) (nC (lE (lL (lL r8.lt m7.size) ge8)) (nA h3 (fun j hj => (lG (lL (lL r8.lt m7.size) (fm3.ge j (Nat.lt_of_lt_of_eq hj (rd_len lnR).symm))))) (nA h4 (fun j hj => (lG (lL (lL r8.lt m7.size) (fm4.ge j (Nat.lt_of_lt_of_eq hj (rd_len lnL).symm))))) nN)))))).mod m24 (nC (lE (lL (lL r8.lt sz10) ge9)) nN))
 refine WL.yes rfl rfl rfl (ltb rfl) rfl rfl ?_
 refine WL.det (op_loadA (i := 0) (cs := [.slice none 0 0, .slice none 0 0, .slice none 0 0, vI 0, vF 0, vF 0, vF 0, vF 0, vF 0, .bool false, vF 0, vF 0, vF 0]) rfl Try.isAgg33 Try.sizeOf33 r47.rng rfl rfl rfl) rfl rfl rfl ?_
 refine WL.yes rfl rfl rfl (ltb rfl) rfl rfl ?_
 refine WL.call (oc_call (vs := [.agg #[.slice none 0 0, .slice none 0 0, .slice none 0 0, vI 0, vF 0, vF 0, vF 0, vF 0, vF 0, .bool false, vF 0, vF 0, vF 0], .agg #[.slice none 0 0, .slice none 0 0, .slice none 0 0, vI 0, vF 0, vF 0, vF 0, vF 0, vF 0, .bool false, vF 0, vF 0, vF 0]]) (cap := []) rfl rfl rfl Try.call28 (c_eqPipe_nil w25)) rfl rfl (ltb rfl) ?_
 rintro _ w26 ⟨rfl, m25⟩
 refine WL.yes rfl rfl rfl (ltb rfl) rfl rfl ?_
 refine WL.det (op_not rfl) rfl rfl rfl ?_
 refine WL.det (op_pick_f rfl rfl rfl) rfl rfl rfl ?_
 refine WL.det (op_move rfl) rfl rfl rfl ?_
 refine WL.yes rfl rfl rfl (ltb rfl) rfl rfl ?_
 refine WL.det (op_move rfl) rfl rfl rfl ?_
 refine WL.yes rfl rfl rfl (ltb rfl) rfl rfl ?_
 refine WL.det (op_move rfl) rfl rfl rfl ?_
 have sz11 := (lT (lT sz5 m9.size) m10.size)
 have r48 := (((((((((((r30.ext m16).ext md1).ext m17).ext m18).ext m19).ext m20).ext m21).ext m22).mod m23 (nC (lE (lL (lL r7.lt (lT m6.size m7.size)) ge6)) (nC (lE (lL (lL r7.lt (lT m6.size m7.size)) ge7)) (nC (lE (lL (lL r7.lt (lT m6.size m7.size)) ge8)) (nA h3 (fun j hj => (lG (lL (lL r7.lt (lT m6.size m7.size)) (fm3.ge j (Nat.lt_of_lt_of_eq hj (rd_len lnR).symm))))) (nA h4 (fun j hj => (lG (lL (lL r7.lt (lT m6.size m7.size)) (fm4.ge j (Nat.lt_of_lt_of_eq hj (rd_len lnL).symm))))) nN)))))).mod m24 (nC (lE (lL (lL r7.lt sz11) ge9)) nN)).ext m25)
 refine WL.yes rfl rfl rfl (ltb rfl) rfl rfl ?_
 refine WL.call (oc_call (vs := [.slice none 0 0, vS e'1 0 0 0]) (cap := []) rfl rfl rfl Try.call50 (c_eq32_same 0 0 none 0 0 [] 0 (some ⟨e'1, 0, none⟩) e'1 0 rfl (fun h => absurd h (Nat.lt_irrefl _)) (fun _ => rfl) (by omega) w26 (Rng.nil _ _ _) r48.rng)) rfl rfl (ltb rfl) ?_
 rintro _ w27 ⟨rfl, m26⟩
 refine WL.yes rfl rfl rfl (ltb rfl) rfl rfl ?_
 refine WL.det (op_not rfl) rfl rfl rfl ?_
 refine WL.det (op_pick_f rfl rfl rfl) rfl rfl rfl ?_
 refine WL.det (op_move rfl) rfl rfl rfl ?_
 refine WL.yes rfl rfl rfl (ltb rfl) rfl rfl ?_
 refine WL.det (op_move rfl) rfl rfl rfl ?_
 refine WL.yes rfl rfl rfl (ltb rfl) rfl rfl ?_
 refine WL.det (op_move rfl) rfl rfl rfl ?_
 refine WL.yes rfl rfl rfl (ltb rfl) rfl rfl ?_
 refine WL.det (op_nei rfl rfl) rfl rfl rfl ?_
 refine WL.det (op_pick_f rfl rfl rfl) rfl rfl rfl ?_
 refine WL.end (NE.code ?_)
 refine CE.cond_f rfl rfl ?_
 refine CE.skip' (NE.code (CE.seq (CE.region ?_)))
 refine WL.det (op_assign rfl) rfl rfl rfl ?_
 refine WL.end (NE.code (CE.seq (CE.region ?_)))
 refine WL.det (op_loadA (i := 0) (cs := [.slice none 0 0, .slice none 0 0, .slice none 0 0, vI 0, vF 0, vF 0, vF 0, vF 0, vF 0, .bool false, vF 0, vF 0, vF 0]) rfl Try.isAgg33 Try.sizeOf33 ((r46.ext m25).ext m26).rng rfl rfl rfl) rfl rfl rfl ?_
 refine WL.det (op_move rfl) rfl rfl rfl ?_
 refine WL.call (oc_call (vs := [.agg #[.slice none 0 0, .slice none 0 0, .slice none 0 0, vI 0, vF 0, vF 0, vF 0, vF 0, vF 0, .bool false, vF 0, vF 0, vF 0], vI 1]) (cap := []) rfl rfl rfl Try.call29 (c_markPipe_nil 1 (by omega) w27)) rfl rfl (ltb rfl) ?_
 rintro _ w28 ⟨rfl, m27⟩
 refine WL.det (op_assign rfl) rfl rfl rfl ?_
 refine WL.end (NE.code (CE.seq (CE.region ?_)))
 iterate 2 refine WL.det (op_move rfl) rfl rfl rfl ?_
 refine WL.call (oc_call (vs := [.slice none 0 0, vI 1]) (cap := []) rfl rfl rfl Try.call51 (c_mark32_nil 1 w28)) rfl rfl (ltb rfl) ?_
 rintro _ _ ⟨rfl, rfl⟩
 refine WL.det (op_assign rfl) rfl rfl rfl ?_
 refine WL.end (NE.code (CE.seq (CE.region ?_)))
 refine WL.det (op_assign rfl) rfl rfl rfl ?_
 refine WL.end (NE.code (CE.seq (CE.region ?_)))
 have r49 := (((r46.ext m25).ext m26).ext m27)
 refine WL.det (op_loadA (i := 0) (cs := [.slice none 0 0, .slice none 0 0, .slice none 0 0, vI 0, vF 0, vF 0, vF 0, vF 0, vF 0, .bool false, vF 0, vF 0, vF 0]) rfl Try.isAgg33 Try.sizeOf33 r49.rng rfl rfl rfl) rfl rfl rfl ?_
 refine WL.det (op_move rfl) rfl rfl rfl ?_
 refine WL.call (oc_call (vs := [.agg #[.slice none 0 0, .slice none 0 0, .slice none 0 0, vI 0, vF 0, vF 0, vF 0, vF 0, vF 0, .bool false, vF 0, vF 0, vF 0], vI 1]) (cap := []) rfl rfl rfl Try.call30 (c_heldPipe_nil 1 (by omega) w28)) rfl rfl (ltb rfl) ?_
 rintro _ w29 ⟨rfl, m28⟩
 refine WL.det (op_assign rfl) rfl rfl rfl ?_
 refine WL.end (NE.code (CE.seq (CE.seq (CE.region ?_))))
 refine WL.det (op_move rfl) rfl rfl rfl ?_
 refine WL.det (op_lti rfl rfl) rfl rfl rfl ?_
 refine WL.end (NE.code ?_)
 refine CE.cond_f rfl rfl ?_
 refine CE.skip' (NE.code (CE.seq (CE.region ?_)))
 iterate 2 refine WL.det (op_move rfl) rfl rfl rfl ?_
 refine WL.call (oc_call (vs := [.slice none 0 0, vI 1]) (cap := []) rfl rfl rfl Try.call52 (c_held32 0 0 none 0 0 [] 1 rfl (fun h => absurd h (Nat.lt_irrefl _)) (by first | assumption | omega) (by first | assumption | omega) (by first | assumption | exact marks_held _ _ _ | exact (hh _ (by omega)).1 | (rw [sumK_marks lZR lZL]; exact marks_held _ _ _)) w29 (Rng.nil _ _ _))) rfl rfl (ltb rfl) ?_
 rintro _ w30 ⟨rfl, m29⟩
 refine WL.det (op_assign rfl) rfl rfl rfl ?_
 refine WL.end (NE.code (CE.seq (CE.seq (CE.region ?_))))
 refine WL.det (op_move rfl) rfl rfl rfl ?_
 refine WL.det (op_lti_f rfl rfl (Int.not_lt.2 (Int.natCast_nonneg _))) rfl rfl rfl ?_
 refine WL.end (NE.code ?_)
 refine CE.cond_f rfl rfl ?_
 refine CE.skip' (NE.code (CE.seq (CE.seq (CE.region ?_))))
 iterate 2 refine WL.det (op_move rfl) rfl rfl rfl ?_
 refine WL.det (op_nei rfl rfl) rfl rfl rfl ?_
 refine WL.end (NE.code ?_)
 rcases Bool.eq_false_or_eq_true ((((1 + 0 : Nat) : Int) != (1 : Int))) with hb1 | hb1
 ·have hp1 := bne_iff_ne.1 hb1
  refine CE.cond_t rfl hb1 ?_
  refine CE.seq (CE.region ?_)
  refine WL.det (op_assign rfl) rfl rfl rfl ?_
  refine WL.end (NE.code (CE.ret' (XE.ret_then ?_)))
  refine XE.leave1 Try.results12 rfl ?_
  have sz12 := (lT (lT sz2 m6.size) m7.size)
  have sz13 := (lT (lT sz3 m9.size) m10.size)
  refine ⟨?_, (((((((((((((((((((((((((((((((Mod.refl [] w).nt m1).nt m2).nt m3).nt m4).nt m5).nt m6).then m7 ((aC (.inr (lT sz2 lR)) aN))).nt m8).nt m9).then m10 ((aC (.inr (lT sz3 lR)) aN))).nt m11).nt m12).nt m13).then m14 ((aC (.inr (lT sz8 lR)) aN))).nt m15).nt m16).nt md1).nt m17).nt m18).nt m19).nt m20).nt m21).nt m22).then m23 ((aC (.inr (lT sz12 ge6)) (aC (.inr (lT sz12 ge7)) (aC (.inr (lT sz12 ge8)) (aA h3 (fun j hj => (lT sz12 (fm3.ge j (Nat.lt_of_lt_of_eq hj (rd_len lnR).symm)))) (aA h4 (fun j hj => (lT sz12 (fm4.ge j (Nat.lt_of_lt_of_eq hj (rd_len lnL).symm)))) aN))))))).then m24 ((aC (.inr (lT sz13 ge9)) aN))).nt m25).nt m26).nt m27).nt m28).nt m29)⟩
  all_goals simp_all
 ·have hp1 := bne_eq_false_iff_eq.1 hb1
  refine CE.cond_f rfl hb1 ?_
  refine CE.skip' (NE.code (CE.seq (CE.region ?_)))
  have sz14 := (lT (lT (lT sz1 m6.size) m7.size) m8.size)
  have sz15 := (lT (lT (lT (lT sz14 m9.size) m10.size) m11.size) m12.size)
  have sz16 := (lT (lT sz1 m6.size) m7.size)
  have sz17 := (lT (lT sz14 m9.size) m10.size)
  have r50 := (((((((((((((((((((((((r11.ext m8).ext m9).mod m10 (nC (lE (lL (lL r1.lt sz14) lR)) nN)).ext m11).ext m12).ext m13).mod m14 (nC (lE (lL (lL r1.lt sz15) lR)) nN)).ext m15).ext m16).ext md1).ext m17).ext m18).ext m19).ext m20).ext m21).ext m22).mod m23 (nC (lE (lL (lL r1.lt sz16) ge6)) (nC (lE (lL (lL r1.lt sz16) ge7)) (nC (lE (lL (lL r1.lt sz16) ge8)) (nA h3 (fun j hj => (lG (lL (lL r1.lt sz16) (fm3.ge j (Nat.lt_of_lt_of_eq hj (rd_len lnR).symm))))) (nA h4 (fun j hj => (lG (lL (lL r1.lt sz16) (fm4.ge j (Nat.lt_of_lt_of_eq hj (rd_len lnL).symm))))) nN)))))).mod m24 (nC (lE (lL (lL r1.lt sz17) ge9)) nN)).ext m25).ext m26).ext m27).ext m28).ext m29)
  refine WL.det (op_loadA (i := 0) (cs := [.slice AR nR cR, .slice AL nL cL, .slice AS nS cS, vI k, vF kc0, vF kc1, vF kc2, vF ks0, vF ks1, .bool op, vF lo, vF re, vF sl]) rfl Try.isAgg50 Try.sizeOf50 r50.rng rfl rfl rfl) rfl rfl rfl ?_
  have sz18 := (lT (lT sz2 m6.size) m7.size)
  have sz19 := (lT (lT sz3 m9.size) m10.size)
  have r51 := ((((((Rng.youngS rR (Rng.youngS rR ((((((((((Rng.youngS rR ((((Rng.youngS rR ((r12.ext m8).ext m9) m10 (allge_cons (lT sz3 lR) allge_nil)).ext m11).ext m12).ext m13) m14 (allge_cons (lT sz8 lR) allge_nil)).ext m15).ext m16).ext md1).ext m17).ext m18).ext m19).ext m20).ext m21).ext m22) m23 (allge_cons (lT sz18 ge6) (allge_cons (lT sz18 ge7) (allge_cons (lT sz18 ge8) (gA h3 (fun j hj => (lT sz18 (fm3.ge j (Nat.lt_of_lt_of_eq hj (rd_len lnR).symm)))) (gA h4 (fun j hj => (lT sz18 (fm4.ge j (Nat.lt_of_lt_of_eq hj (rd_len lnL).symm)))) allge_nil)))))) m24 (allge_cons (lT sz19 ge9) allge_nil)).ext m25).ext m26).ext m27).ext m28).ext m29)
  have r52 := ((((((Rng.youngS rL (Rng.youngS rL ((((((((((Rng.youngS rL ((((Rng.youngS rL ((r13.ext m8).ext m9) m10 (allge_cons (lT sz3 lR) allge_nil)).ext m11).ext m12).ext m13) m14 (allge_cons (lT sz8 lR) allge_nil)).ext m15).ext m16).ext md1).ext m17).ext m18).ext m19).ext m20).ext m21).ext m22) m23 (allge_cons (lT sz18 ge6) (allge_cons (lT sz18 ge7) (allge_cons (lT sz18 ge8) (gA h3 (fun j hj => (lT sz18 (fm3.ge j (Nat.lt_of_lt_of_eq hj (rd_len lnR).symm)))) (gA h4 (fun j hj => (lT sz18 (fm4.ge j (Nat.lt_of_lt_of_eq hj (rd_len lnL).symm)))) allge_nil)))))) m24 (allge_cons (lT sz19 ge9) allge_nil)).ext m25).ext m26).ext m27).ext m28).ext m29)
  have r53 := ((((((Rng.youngS rS (Rng.youngS rS ((((((((((Rng.youngS rS ((((Rng.youngS rS ((r14.ext m8).ext m9) m10 (allge_cons (lT sz3 lR) allge_nil)).ext m11).ext m12).ext m13) m14 (allge_cons (lT sz8 lR) allge_nil)).ext m15).ext m16).ext md1).ext m17).ext m18).ext m19).ext m20).ext m21).ext m22) m23 (allge_cons (lT sz18 ge6) (allge_cons (lT sz18 ge7) (allge_cons (lT sz18 ge8) (gA h3 (fun j hj => (lT sz18 (fm3.ge j (Nat.lt_of_lt_of_eq hj (rd_len lnR).symm)))) (gA h4 (fun j hj => (lT sz18 (fm4.ge j (Nat.lt_of_lt_of_eq hj (rd_len lnL).symm)))) allge_nil)))))) m24 (allge_cons (lT sz19 ge9) allge_nil)).ext m25).ext m26).ext m27).ext m28).ext m29)
  refine WL.call (oc_call (vs := [.agg #[.slice AR nR cR, .slice AL nL cL, .slice AS nS cS, vI k, vF kc0, vF kc1, vF kc2, vF ks0, vF ks1, .bool op, vF lo, vF re, vF sl]]) (cap := []) rfl rfl rfl Try.call26 (c_toPipe nR cR AR bR oR esR nL cL AL bL oL esL nS cS AS bS oS xS k kc0 kc1 kc2 ks0 ks1 op lo re sl lnR hAR lnL hAL lnS hAS mR mL mS hzR hzL w30 r51 r52 r53 ((((((InF.mod hFesR (InF.mod hFesR ((((((((((InF.mod hFesR ((((InF.mod hFesR (((InF.mod hFesR ((((((hFesR.ext m1).ext m2).ext m3).ext m4).ext m5).ext m6) m7 (allge_cons (lT sz2 lR) allge_nil)).ext m8).ext m9) m10 (allge_cons (lT sz3 lR) allge_nil)).ext m11).ext m12).ext m13) m14 (allge_cons (lT sz8 lR) allge_nil)).ext m15).ext m16).ext md1).ext m17).ext m18).ext m19).ext m20).ext m21).ext m22) m23 (allge_cons (lT sz18 ge6) (allge_cons (lT sz18 ge7) (allge_cons (lT sz18 ge8) (gA h3 (fun j hj => (lT sz18 (fm3.ge j (Nat.lt_of_lt_of_eq hj (rd_len lnR).symm)))) (gA h4 (fun j hj => (lT sz18 (fm4.ge j (Nat.lt_of_lt_of_eq hj (rd_len lnL).symm)))) allge_nil)))))) m24 (allge_cons (lT sz19 ge9) allge_nil)).ext m25).ext m26).ext m27).ext m28).ext m29) ((((((InF.mod hFesL (InF.mod hFesL ((((((((((InF.mod hFesL ((((InF.mod hFesL (((InF.mod hFesL ((((((hFesL.ext m1).ext m2).ext m3).ext m4).ext m5).ext m6) m7 (allge_cons (lT sz2 lR) allge_nil)).ext m8).ext m9) m10 (allge_cons (lT sz3 lR) allge_nil)).ext m11).ext m12).ext m13) m14 (allge_cons (lT sz8 lR) allge_nil)).ext m15).ext m16).ext md1).ext m17).ext m18).ext m19).ext m20).ext m21).ext m22) m23 (allge_cons (lT sz18 ge6) (allge_cons (lT sz18 ge7) (allge_cons (lT sz18 ge8) (gA h3 (fun j hj => (lT sz18 (fm3.ge j (Nat.lt_of_lt_of_eq hj (rd_len lnR).symm)))) (gA h4 (fun j hj => (lT sz18 (fm4.ge j (Nat.lt_of_lt_of_eq hj (rd_len lnL).symm)))) allge_nil)))))) m24 (allge_cons (lT sz19 ge9) allge_nil)).ext m25).ext m26).ext m27).ext m28).ext m29))) rfl rfl (ltb rfl) ?_
  rintro _ w31 ⟨bR'4, PR4, bL'4, PL4, bS'4, rfl, h8, h9, r54, r55, r56, ge14, ge15, ge16, ne10, ne11, ne12, fm7, fn22, fn23, fn24, fn25, fm8, fn26, fn27, fn28, m30⟩
  refine WL.det (op_move rfl) rfl rfl rfl ?_
  have r57 := (((((((Rng.youngS rl (Rng.youngS rl ((r37.ext m21).ext m22) m23 (allge_cons (lT sz18 ge6) (allge_cons (lT sz18 ge7) (allge_cons (lT sz18 ge8) (gA h3 (fun j hj => (lT sz18 (fm3.ge j (Nat.lt_of_lt_of_eq hj (rd_len lnR).symm)))) (gA h4 (fun j hj => (lT sz18 (fm4.ge j (Nat.lt_of_lt_of_eq hj (rd_len lnL).symm)))) allge_nil)))))) m24 (allge_cons (lT sz19 ge9) allge_nil)).ext m25).ext m26).ext m27).ext m28).ext m29).ext m30)
  refine WL.call (oc_call (vs := [.slice Al l cl]) (cap := []) rfl rfl rfl Try.call49 (c_to32 l cl Al bl ol ss ls hAl (by omega) w31 r57)) rfl rfl (ltb rfl) ?_
  rintro _ w32 ⟨b'4, rfl, r58, ge17, m31⟩
  refine WL.call (oc_call (vs := [.agg #[vS bR'4 0 nR nR, vS bL'4 0 nL nL, vS bS'4 0 nS nS, vI k, vF kc0, vF kc1, vF kc2, vF ks0, vF ks1, .bool op, vF lo, vF re, vF sl], vS b'4 0 l l]) (cap := []) rfl rfl rfl Try.call21 (c_iPlayP_inv nR (esR.map RiR.rd) nL (esL.map RiR.rd) nS xS nR bR'4 PR4 w30.heap.size nL bL'4 PL4 w30.heap.size nS bS'4 k kc0 kc1 kc2 ks0 ks1 op lo re sl l l (some ⟨b'4, 0, none⟩) b'4 0 ss (rd_len lnR) (rd_len lnL) lnS (rd_small hFesR hzR) (rd_small hFesL hzL) h8 h9 mR mL mS ls (fun _ => rfl) (by first | assumption | exact W32.set (by assumption) (by first | assumption | exact wid_lt (by assumption)) | exact W32.zeros _ | exact W32.nil) (by omega) hv w32 (r54.ext m31).rng (r55.ext m31).rng (r56.ext m31).rng r58.rng (fm7.ext m31) (fm8.ext m31))) rfl rfl (ltb rfl) ?_
  rintro _ w33 ⟨rfl, m32⟩
  refine WL.det (op_move rfl) rfl rfl rfl ?_
  iterate 3 refine WL.det (op_extract rfl rfl) rfl rfl rfl ?_
  refine WL.op (op_alloc (cs := [.slice none 0 0, .slice none 0 0, .slice none 0 0, vI 0, vF 0, vF 0, vF 0, vF 0, vF 0, .bool false, vF 0, vF 0, vF 0]) Try.zeroValue33 rfl) rfl rfl (ltb rfl) ?_
  rintro _ w34 ⟨rfl, r59, m33, z9⟩
  refine WL.op0 (op_store (i := 0) (cs := [.slice none 0 0, .slice none 0 0, .slice none 0 0, vI 0, vF 0, vF 0, vF 0, vF 0, vF 0, .bool false, vF 0, vF 0, vF 0]) rfl rfl rfl Try.sizeOf33 rfl r59 rfl (lB rfl) rfl) rfl rfl ?_
  rintro _ w35 ⟨r60, m34, z10⟩
  have r61 : Row w35 w33.heap.size 0 [.slice none 0 0, .slice none 0 0, .slice none 0 0, vI 0, vF 0, vF 0, vF 0, vF 0, vF 0, .bool false, vF 0, vF 0, vF 0] := Row.congr r60 rfl
  iterate 2 refine WL.det (op_assign rfl) rfl rfl rfl ?_
  refine WL.end (NE.code (CE.seq (CE.seq (CE.region ?_))))
  refine WL.det (op_loadA (i := 0) (cs := [.slice none 0 0, .slice none 0 0, .slice none 0 0, vI 0, vF 0, vF 0, vF 0, vF 0, vF 0, .bool false, vF 0, vF 0, vF 0]) rfl Try.isAgg33 Try.sizeOf33 r61.rng rfl rfl rfl) rfl rfl rfl ?_
  have sz20 := (lT (lT (lT (lT (lT (lT (lT (lT (lT (lT (lT (lT (lT (lT (lT (lT (lT (lT (lT (lT (lT sz4 m13.size) m14.size) m15.size) m16.size) md1.size) m17.size) m18.size) m19.size) m20.size) m21.size) m22.size) m23.size) m24.size) m25.size) m26.size) m27.size) m28.size) m29.size) m30.size) m31.size) m32.size)
  have r62 := ((((((((((r47.ext m25).ext m26).ext m27).ext m28).ext m29).ext m30).ext m31).ext m32).ext m33).mod m34 (nC (lE (lL (lL r8.lt sz20) lR)) nN))
  refine WL.det (op_loadA (i := 0) (cs := [.slice none 0 0, .slice none 0 0, .slice none 0 0, vI 0, vF 0, vF 0, vF 0, vF 0, vF 0, .bool false, vF 0, vF 0, vF 0]) rfl Try.isAgg33 Try.sizeOf33 r62.rng rfl rfl rfl) rfl rfl rfl ?_
  refine WL.call (oc_call (vs := [.agg #[.slice none 0 0, .slice none 0 0, .slice none 0 0, vI 0, vF 0, vF 0, vF 0, vF 0, vF 0, .bool false, vF 0, vF 0, vF 0], .agg #[.slice none 0 0, .slice none 0 0, .slice none 0 0, vI 0, vF 0, vF 0, vF 0, vF 0, vF 0, .bool false, vF 0, vF 0, vF 0]]) (cap := []) rfl rfl rfl Try.call28 (c_eqPipe_nil w35)) rfl rfl (ltb rfl) ?_
  rintro _ w36 ⟨rfl, m35⟩
  refine WL.det (op_not rfl) rfl rfl rfl ?_
  refine WL.det (op_move rfl) rfl rfl rfl ?_
  refine WL.yes rfl rfl rfl (ltb rfl) rfl rfl ?_
  refine WL.det (op_move rfl) rfl rfl rfl ?_
  refine WL.yes rfl rfl rfl (ltb rfl) rfl rfl ?_
  refine WL.det (op_move rfl) rfl rfl rfl ?_
  have sz21 := (lT (lT (lT (lT (lT (lT (lT (lT (lT (lT (lT (lT (lT (lT (lT (lT (lT (lT (lT (lT (lT sz6 m13.size) m14.size) m15.size) m16.size) md1.size) m17.size) m18.size) m19.size) m20.size) m21.size) m22.size) m23.size) m24.size) m25.size) m26.size) m27.size) m28.size) m29.size) m30.size) m31.size) m32.size)
  have r63 := ((((((((((r48.ext m26).ext m27).ext m28).ext m29).ext m30).ext m31).ext m32).ext m33).mod m34 (nC (lE (lL (lL r7.lt sz21) lR)) nN)).ext m35)
  refine WL.yes rfl rfl rfl (ltb rfl) rfl rfl ?_
  refine WL.call (oc_call (vs := [.slice none 0 0, vS e'1 0 0 0]) (cap := []) rfl rfl rfl Try.call50 (c_eq32_same 0 0 none 0 0 [] 0 (some ⟨e'1, 0, none⟩) e'1 0 rfl (fun h => absurd h (Nat.lt_irrefl _)) (fun _ => rfl) (by omega) w36 (Rng.nil _ _ _) r63.rng)) rfl rfl (ltb rfl) ?_
  rintro _ w37 ⟨rfl, m36⟩
  refine WL.yes rfl rfl rfl (ltb rfl) rfl rfl ?_
  refine WL.det (op_not rfl) rfl rfl rfl ?_
  refine WL.det (op_pick_f rfl rfl rfl) rfl rfl rfl ?_
  refine WL.det (op_move rfl) rfl rfl rfl ?_
  refine WL.yes rfl rfl rfl (ltb rfl) rfl rfl ?_
  refine WL.det (op_move rfl) rfl rfl rfl ?_
  refine WL.yes rfl rfl rfl (ltb rfl) rfl rfl ?_
  refine WL.det (op_move rfl) rfl rfl rfl ?_
  refine WL.yes rfl rfl rfl (ltb rfl) rfl rfl ?_
  refine WL.det (op_nei rfl rfl) rfl rfl rfl ?_
  refine WL.det (op_pick_f rfl rfl rfl) rfl rfl rfl ?_
  refine WL.end (NE.code ?_)
  refine CE.cond_f rfl rfl ?_
  refine CE.skip' (NE.code (CE.seq (CE.region ?_)))
  refine WL.det (op_assign rfl) rfl rfl rfl ?_
  refine WL.end (NE.code (CE.seq (CE.region ?_)))
  have sz22 := (lT (lT (lT (lT (lT (lT (lT (lT (lT (lT (lT (lT (lT (lT (lT (lT (lT (lT (lT m14.size m15.size) m16.size) md1.size) m17.size) m18.size) m19.size) m20.size) m21.size) m22.size) m23.size) m24.size) m25.size) m26.size) m27.size) m28.size) m29.size) m30.size) m31.size) m32.size)
  have r64 := (((((((((r49.ext m28).ext m29).ext m30).ext m31).ext m32).ext m33).mod m34 (nC (lE (lL (lL r26.lt sz22) lR)) nN)).ext m35).ext m36)
  refine WL.det (op_loadA (i := 0) (cs := [.slice none 0 0, .slice none 0 0, .slice none 0 0, vI 0, vF 0, vF 0, vF 0, vF 0, vF 0, .bool false, vF 0, vF 0, vF 0]) rfl Try.isAgg33 Try.sizeOf33 r64.rng rfl rfl rfl) rfl rfl rfl ?_
  refine WL.det (op_move rfl) rfl rfl rfl ?_
  refine WL.call (oc_call (vs := [.agg #[.slice none 0 0, .slice none 0 0, .slice none 0 0, vI 0, vF 0, vF 0, vF 0, vF 0, vF 0, .bool false, vF 0, vF 0, vF 0], vI 1]) (cap := []) rfl rfl rfl Try.call30 (c_heldPipe_nil 1 (by omega) w37)) rfl rfl (ltb rfl) ?_
  rintro _ w38 ⟨rfl, m37⟩
  refine WL.det (op_assign rfl) rfl rfl rfl ?_
  refine WL.end (NE.code (CE.seq (CE.seq (CE.region ?_))))
  refine WL.det (op_move rfl) rfl rfl rfl ?_
  refine WL.det (op_lti rfl rfl) rfl rfl rfl ?_
  refine WL.end (NE.code ?_)
  refine CE.cond_f rfl rfl ?_
  refine CE.skip' (NE.code (CE.seq (CE.region ?_)))
  iterate 2 refine WL.det (op_move rfl) rfl rfl rfl ?_
  refine WL.call (oc_call (vs := [.slice none 0 0, vI 1]) (cap := []) rfl rfl rfl Try.call52 (c_held32 0 0 none 0 0 [] 1 rfl (fun h => absurd h (Nat.lt_irrefl _)) (by first | assumption | omega) (by first | assumption | omega) (by first | assumption | exact marks_held _ _ _ | exact (hh _ (by omega)).1 | (rw [sumK_marks lZR lZL]; exact marks_held _ _ _)) w38 (Rng.nil _ _ _))) rfl rfl (ltb rfl) ?_
  rintro _ w39 ⟨rfl, m38⟩
  refine WL.det (op_assign rfl) rfl rfl rfl ?_
  refine WL.end (NE.code (CE.seq (CE.seq (CE.region ?_))))
  refine WL.det (op_move rfl) rfl rfl rfl ?_
  refine WL.det (op_lti_f rfl rfl (Int.not_lt.2 (Int.natCast_nonneg _))) rfl rfl rfl ?_
  refine WL.end (NE.code ?_)
  refine CE.cond_f rfl rfl ?_
  refine CE.skip' (NE.code (CE.seq (CE.seq (CE.region ?_))))
  iterate 2 refine WL.det (op_move rfl) rfl rfl rfl ?_
  refine WL.det (op_nei rfl rfl) rfl rfl rfl ?_
  refine WL.end (NE.code ?_)
  refine CE.cond_f rfl hb1 ?_
  refine CE.skip' (NE.code (CE.seq (CE.region ?_)))
  refine WL.det (op_assign rfl) rfl rfl rfl ?_
  refine WL.end (NE.code (CE.ret' ?_))
  refine XE.leave1 Try.results12 rfl ?_
  have sz23 := (lT (lT (lT (lT (lT (lT (lT (lT (lT (lT (lT (lT (lT (lT (lT (lT (lT (lT (lT (lT (lT sz8 m13.size) m14.size) m15.size) m16.size) md1.size) m17.size) m18.size) m19.size) m20.size) m21.size) m22.size) m23.size) m24.size) m25.size) m26.size) m27.size) m28.size) m29.size) m30.size) m31.size) m32.size)
  refine ⟨rfl, ((((((((((((((((((((((((((((((((((((((((Mod.refl [] w).nt m1).nt m2).nt m3).nt m4).nt m5).nt m6).then m7 ((aC (.inr (lT sz2 lR)) aN))).nt m8).nt m9).then m10 ((aC (.inr (lT sz3 lR)) aN))).nt m11).nt m12).nt m13).then m14 ((aC (.inr (lT sz8 lR)) aN))).nt m15).nt m16).nt md1).nt m17).nt m18).nt m19).nt m20).nt m21).nt m22).then m23 ((aC (.inr (lT sz18 ge6)) (aC (.inr (lT sz18 ge7)) (aC (.inr (lT sz18 ge8)) (aA h3 (fun j hj => (lT sz18 (fm3.ge j (Nat.lt_of_lt_of_eq hj (rd_len lnR).symm)))) (aA h4 (fun j hj => (lT sz18 (fm4.ge j (Nat.lt_of_lt_of_eq hj (rd_len lnL).symm)))) aN))))))).then m24 ((aC (.inr (lT sz19 ge9)) aN))).nt m25).nt m26).nt m27).nt m28).nt m29).nt m30).nt m31).nt m32).nt m33).then m34 ((aC (.inr (lT sz23 lR)) aN))).nt m35).nt m36).nt m37).nt m38)⟩

end Go.Proofs.Ytnahhdnkbbdceaa
