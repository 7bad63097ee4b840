/- What the functions on pipes compute: sizes, copies, comparisons, marks; pipes that have not the right numbers of rings. -/
import Derived.Test.YtnahhdnkbbdceaaQ1
set_option linter.unusedVariables false
set_option linter.unusedSimpArgs false
set_option maxRecDepth 100000
set_option maxHeartbeats 8000000
namespace Go.Proofs.Ytnahhdnkbbdceaa

theorem c_szPipe (l : Nat) (nR : Nat) (cR : Nat) (AR : Option Addr) (bR : Nat) (oR : Nat) (esR : List RiR) (nL : Nat) (cL : Nat) (AL : Option Addr) (bL : Nat) (oL : Nat) (esL : List RiR) (nS : Nat) (cS : Nat) (AS : Option Addr) (bS : Nat) (oS : Nat) (xS : List Nat) (k : Int) (kc0 : Nat) (kc1 : Nat) (kc2 : Nat) (ks0 : Nat) (ks1 : Nat) (op : Bool) (lo : Nat) (re : Nat) (sl : Nat) (lnR : esR.length = nR) (hAR : 0 < nR → AR = some ⟨bR, oR, none⟩) (lnL : esL.length = nL) (hAL : 0 < nL → AL = some ⟨bL, oL, none⟩) (lnS : xS.length = nS) (hAS : 0 < nS → AS = some ⟨bS, oS, none⟩) (hl : nR + sumR esR nR + (nL + sumR esL nL) + nS ≤ l) (hm : l ≤ 1048576) (w : World) (rR : Rng w bR oR (cat RiR.cells esR)) (rL : Rng w bL oL (cat RiR.cells esL)) (rS : Rng w bS oS (fl xS)) (hFesR : InF w esR) (hFesL : InF w esL) : Cl Try.prog 25 #[.agg #[.slice AR nR cR, .slice AL nL cL, .slice AS nS cS, vI k, vF kc0, vF kc1, vF kc2, vF ks0, vF ks1, .bool op, vF lo, vF re, vF sl], vI ((l : Nat) : Int)] w fun v w' => v = vI ((l - nR - sumR esR nR - nL - sumR esL nL - nS : Nat) : Int) ∧ Mod [] w w' := by
 refine Cl.of Try.func25 Try.ntmps25 rfl rfl (ρ := [(0, .agg #[.slice AR nR cR, .slice AL nL cL, .slice AS nS cS, vI k, vF kc0, vF kc1, vF kc2, vF ks0, vF ks1, .bool op, vF lo, vF re, vF sl]), (1, vI ((l : Nat) : Int))]) rfl ?_
 refine CE.seq (CE.region ?_)
 refine WL.op (op_box (cs := [.slice AR nR cR, .slice AL nL cL, .slice AS nS cS, vI k, vF kc0, vF kc1, vF kc2, vF ks0, vF ks1, .bool op, vF lo, vF re, vF sl]) rfl rfl) rfl rfl (ltb rfl) ?_
 rintro _ w1 ⟨rfl, r1, m1, z1⟩
 refine WL.det (op_assign rfl) rfl rfl rfl ?_
 refine WL.end (NE.code (CE.seq (CE.region ?_)))
 refine WL.det (op_fieldAddr (off' := 0) rfl Try.runUnderlying50 rfl rfl Try.sizeOf47 rfl) rfl rfl rfl ?_
 refine WL.det (op_load1 (i := 0) rfl Try.isAgg47 r1.rng rfl rfl) rfl rfl rfl ?_
 refine WL.det (op_move rfl) rfl rfl rfl ?_
 refine WL.call (oc_call (vs := [.slice AR nR cR, vI ((l : Nat) : Int)]) (cap := []) rfl rfl rfl Try.call79 (c_szRingS l nR cR AR bR oR esR lnR hAR (by omega) (by omega) w1 (rR.ext m1) (hFesR.ext m1))) rfl rfl (ltb rfl) ?_
 rintro _ w2 ⟨rfl, m2⟩
 refine WL.det (op_assign rfl) rfl rfl rfl ?_
 refine WL.end (NE.code (CE.seq (CE.seq (CE.region ?_))))
 refine WL.det (op_move rfl) rfl rfl rfl ?_
 refine WL.det (op_lti_f rfl rfl (Int.not_lt.2 (Int.natCast_nonneg _))) rfl rfl rfl ?_
 refine WL.end (NE.code ?_)
 refine CE.cond_f rfl rfl ?_
 refine CE.skip' (NE.code (CE.seq (CE.region ?_)))
 refine WL.det (op_fieldAddr (off' := 1) rfl Try.runUnderlying50 rfl rfl Try.sizeOf47 rfl) rfl rfl rfl ?_
 refine WL.det (op_load1 (i := 1) rfl Try.isAgg47 (r1.ext m2).rng rfl rfl) rfl rfl rfl ?_
 refine WL.det (op_move rfl) rfl rfl rfl ?_
 refine WL.call (oc_call (vs := [.slice AL nL cL, vI ((l - nR - sumR esR nR : Nat) : Int)]) (cap := []) rfl rfl rfl Try.call79 (c_szRingS (l - nR - sumR esR nR) nL cL AL bL oL esL lnL hAL (by omega) (by omega) w2 ((rL.ext m1).ext m2) ((hFesL.ext m1).ext m2))) rfl rfl (ltb rfl) ?_
 rintro _ w3 ⟨rfl, m3⟩
 refine WL.det (op_assign rfl) rfl rfl rfl ?_
 refine WL.end (NE.code (CE.seq (CE.seq (CE.region ?_))))
 refine WL.det (op_move rfl) rfl rfl rfl ?_
 refine WL.det (op_lti_f rfl rfl (Int.not_lt.2 (Int.natCast_nonneg _))) rfl rfl rfl ?_
 refine WL.end (NE.code ?_)
 refine CE.cond_f rfl rfl ?_
 refine CE.skip' (NE.code (CE.seq (CE.region ?_)))
 refine WL.det (op_fieldAddr (off' := 2) rfl Try.runUnderlying50 rfl rfl Try.sizeOf26 rfl) rfl rfl rfl ?_
 refine WL.det (op_load1 (i := 2) rfl Try.isAgg26 ((r1.ext m2).ext m3).rng rfl rfl) rfl rfl rfl ?_
 refine WL.det (op_move rfl) rfl rfl rfl ?_
 refine WL.call (oc_call (vs := [.slice AS nS cS, vI (((l - nR - sumR esR nR) - nL - sumR esL nL : Nat) : Int)]) (cap := []) rfl rfl rfl Try.call80 (c_sz32 ((l - nR - sumR esR nR) - nL - sumR esL nL) nS cS AS (by omega) (by omega) w3)) rfl rfl (ltb rfl) ?_
 rintro _ _ ⟨rfl, rfl⟩
 refine WL.det (op_assign rfl) rfl rfl rfl ?_
 refine WL.end (NE.code (CE.seq (CE.seq (CE.region ?_))))
 refine WL.det (op_move rfl) rfl rfl rfl ?_
 refine WL.det (op_lti_f rfl rfl (Int.not_lt.2 (Int.natCast_nonneg _))) rfl rfl rfl ?_
 refine WL.end (NE.code ?_)
 refine CE.cond_f rfl rfl ?_
 refine CE.skip' (NE.code (CE.seq (CE.region ?_)))
 refine WL.det (op_move rfl) rfl rfl rfl ?_
 refine WL.det (op_assign rfl) rfl rfl rfl ?_
 refine WL.end (NE.code (CE.ret' ?_))
 refine XE.leave1 Try.results25 rfl ?_
 refine ⟨?_, ((((Mod.refl [] w).nt m1).nt m2).nt m3)⟩
 all_goals rfl

theorem c_szPipe_over (l : Nat) (nR : Nat) (cR : Nat) (AR : Option Addr) (bR : Nat) (oR : Nat) (esR : List RiR) (nL : Nat) (cL : Nat) (AL : Option Addr) (bL : Nat) (oL : Nat) (esL : List RiR) (nS : Nat) (cS : Nat) (AS : Option Addr) (bS : Nat) (oS : Nat) (xS : List Nat) (k : Int) (kc0 : Nat) (kc1 : Nat) (kc2 : Nat) (ks0 : Nat) (ks1 : Nat) (op : Bool) (lo : Nat) (re : Nat) (sl : Nat) (lnR : esR.length = nR) (hAR : 0 < nR → AR = some ⟨bR, oR, none⟩) (lnL : esL.length = nL) (hAL : 0 < nL → AL = some ⟨bL, oL, none⟩) (lnS : xS.length = nS) (hAS : 0 < nS → AS = some ⟨bS, oS, none⟩) (hl : l < nR + sumR esR nR + (nL + sumR esL nL) + nS) (hm : l ≤ 1048576) (hnR : nR ≤ 9223372036854775807) (hnL : nL ≤ 9223372036854775807) (hnS : nS ≤ 9223372036854775807) (w : World) (rR : Rng w bR oR (cat RiR.cells esR)) (rL : Rng w bL oL (cat RiR.cells esL)) (rS : Rng w bS oS (fl xS)) (hFesR : InF w esR) (hFesL : InF w esL) : Cl Try.prog 25 #[.agg #[.slice AR nR cR, .slice AL nL cL, .slice AS nS cS, vI k, vF kc0, vF kc1, vF kc2, vF ks0, vF ks1, .bool op, vF lo, vF re, vF sl], vI ((l : Nat) : Int)] w fun v w' => v = vI (-1) ∧ Mod [] w w' := by
 refine Cl.of Try.func25 Try.ntmps25 rfl rfl (ρ := [(0, .agg #[.slice AR nR cR, .slice AL nL cL, .slice AS nS cS, vI k, vF kc0, vF kc1, vF kc2, vF ks0, vF ks1, .bool op, vF lo, vF re, vF sl]), (1, vI ((l : Nat) : Int))]) rfl ?_
 refine CE.seq (CE.region ?_)
 refine WL.op (op_box (cs := [.slice AR nR cR, .slice AL nL cL, .slice AS nS cS, vI k, vF kc0, vF kc1, vF kc2, vF ks0, vF ks1, .bool op, vF lo, vF re, vF sl]) rfl rfl) rfl rfl (ltb rfl) ?_
 rintro _ w1 ⟨rfl, r1, m1, z1⟩
 refine WL.det (op_assign rfl) rfl rfl rfl ?_
 refine WL.end (NE.code (CE.seq (CE.region ?_)))
 refine WL.det (op_fieldAddr (off' := 0) rfl Try.runUnderlying50 rfl rfl Try.sizeOf47 rfl) rfl rfl rfl ?_
 refine WL.det (op_load1 (i := 0) rfl Try.isAgg47 r1.rng rfl rfl) rfl rfl rfl ?_
 refine WL.det (op_move rfl) rfl rfl rfl ?_
 rcases Bool.eq_false_or_eq_true (decide (l < nR + sumR esR nR)) with hb1 | hb1
 ·have hp1 := of_decide_eq_true hb1
  rcases Bool.eq_false_or_eq_true (decide (l < nR)) with hb2 | hb2
  ·have hp2 := of_decide_eq_true hb2
   refine WL.call (oc_call (vs := [.slice AR nR cR, vI ((l : Nat) : Int)]) (cap := []) rfl rfl rfl Try.call79 (c_szRingS_o1 l nR cR AR bR oR esR lnR hAR (by omega) (by omega) (by omega) w1 (rR.ext m1) (hFesR.ext m1))) rfl rfl (ltb rfl) ?_
   rintro _ w2 ⟨rfl, m2⟩
   refine WL.det (op_assign rfl) rfl rfl rfl ?_
   refine WL.end (NE.code (CE.seq (CE.seq (CE.region ?_))))
   refine WL.det (op_move rfl) rfl rfl rfl ?_
   refine WL.det (op_lti rfl rfl) rfl rfl rfl ?_
   refine WL.end (NE.code ?_)
   refine CE.cond_t rfl rfl ?_
   refine CE.seq (CE.region ?_)
   refine WL.det (op_assign rfl) rfl rfl rfl ?_
   refine WL.end (NE.code (CE.ret' (XE.ret_then ?_)))
   refine XE.leave1 Try.results25 rfl ?_
   refine ⟨rfl, (((Mod.refl [] w).nt m1).nt m2)⟩
  ·have hp2 := of_decide_eq_false hb2
   refine WL.call (oc_call (vs := [.slice AR nR cR, vI ((l : Nat) : Int)]) (cap := []) rfl rfl rfl Try.call79 (c_szRingS_o2 l nR cR AR bR oR esR lnR hAR (by omega) (by omega) (by omega) w1 (rR.ext m1) (hFesR.ext m1))) rfl rfl (ltb rfl) ?_
   rintro _ w3 ⟨rfl, m3⟩
   refine WL.det (op_assign rfl) rfl rfl rfl ?_
   refine WL.end (NE.code (CE.seq (CE.seq (CE.region ?_))))
   refine WL.det (op_move rfl) rfl rfl rfl ?_
   refine WL.det (op_lti rfl rfl) rfl rfl rfl ?_
   refine WL.end (NE.code ?_)
   refine CE.cond_t rfl rfl ?_
   refine CE.seq (CE.region ?_)
   refine WL.det (op_assign rfl) rfl rfl rfl ?_
   refine WL.end (NE.code (CE.ret' (XE.ret_then ?_)))
   refine XE.leave1 Try.results25 rfl ?_
   refine ⟨rfl, (((Mod.refl [] w).nt m1).nt m3)⟩
 ·have hp1 := of_decide_eq_false hb1
  refine WL.call (oc_call (vs := [.slice AR nR cR, vI ((l : Nat) : Int)]) (cap := []) rfl rfl rfl Try.call79 (c_szRingS l nR cR AR bR oR esR lnR hAR (by omega) (by omega) w1 (rR.ext m1) (hFesR.ext m1))) rfl rfl (ltb rfl) ?_
  rintro _ w4 ⟨rfl, m4⟩
  refine WL.det (op_assign rfl) rfl rfl rfl ?_
  refine WL.end (NE.code (CE.seq (CE.seq (CE.region ?_))))
  refine WL.det (op_move rfl) rfl rfl rfl ?_
  refine WL.det (op_lti_f rfl rfl (Int.not_lt.2 (Int.natCast_nonneg _))) rfl rfl rfl ?_
  refine WL.end (NE.code ?_)
  refine CE.cond_f rfl rfl ?_
  refine CE.skip' (NE.code (CE.seq (CE.region ?_)))
  refine WL.det (op_fieldAddr (off' := 1) rfl Try.runUnderlying50 rfl rfl Try.sizeOf47 rfl) rfl rfl rfl ?_
  refine WL.det (op_load1 (i := 1) rfl Try.isAgg47 (r1.ext m4).rng rfl rfl) rfl rfl rfl ?_
  refine WL.det (op_move rfl) rfl rfl rfl ?_
  rcases Bool.eq_false_or_eq_true (decide (l - nR - sumR esR nR < nL + sumR esL nL)) with hb3 | hb3
  ·have hp3 := of_decide_eq_true hb3
   rcases Bool.eq_false_or_eq_true (decide (l - nR - sumR esR nR < nL)) with hb4 | hb4
   ·have hp4 := of_decide_eq_true hb4
    refine WL.call (oc_call (vs := [.slice AL nL cL, vI ((l - nR - sumR esR nR : Nat) : Int)]) (cap := []) rfl rfl rfl Try.call79 (c_szRingS_o1 (l - nR - sumR esR nR) nL cL AL bL oL esL lnL hAL (by omega) (by omega) (by omega) w4 ((rL.ext m1).ext m4) ((hFesL.ext m1).ext m4))) rfl rfl (ltb rfl) ?_
    rintro _ w5 ⟨rfl, m5⟩
    refine WL.det (op_assign rfl) rfl rfl rfl ?_
    refine WL.end (NE.code (CE.seq (CE.seq (CE.region ?_))))
    refine WL.det (op_move rfl) rfl rfl rfl ?_
    refine WL.det (op_lti rfl rfl) rfl rfl rfl ?_
    refine WL.end (NE.code ?_)
    refine CE.cond_t rfl rfl ?_
    refine CE.seq (CE.region ?_)
    refine WL.det (op_assign rfl) rfl rfl rfl ?_
    refine WL.end (NE.code (CE.ret' (XE.ret_then ?_)))
    refine XE.leave1 Try.results25 rfl ?_
    refine ⟨rfl, ((((Mod.refl [] w).nt m1).nt m4).nt m5)⟩
   ·have hp4 := of_decide_eq_false hb4
    refine WL.call (oc_call (vs := [.slice AL nL cL, vI ((l - nR - sumR esR nR : Nat) : Int)]) (cap := []) rfl rfl rfl Try.call79 (c_szRingS_o2 (l - nR - sumR esR nR) nL cL AL bL oL esL lnL hAL (by omega) (by omega) (by omega) w4 ((rL.ext m1).ext m4) ((hFesL.ext m1).ext m4))) rfl rfl (ltb rfl) ?_
    rintro _ w6 ⟨rfl, m6⟩
    refine WL.det (op_assign rfl) rfl rfl rfl ?_
    refine WL.end (NE.code (CE.seq (CE.seq (CE.region ?_))))
    refine WL.det (op_move rfl) rfl rfl rfl ?_
    refine WL.det (op_lti rfl rfl) rfl rfl rfl ?_
    refine WL.end (NE.code ?_)
    refine CE.cond_t rfl rfl ?_
    refine CE.seq (CE.region ?_)
    refine WL.det (op_assign rfl) rfl rfl rfl ?_
    refine WL.end (NE.code (CE.ret' (XE.ret_then ?_)))
    refine XE.leave1 Try.results25 rfl ?_
    refine ⟨rfl, ((((Mod.refl [] w).nt m1).nt m4).nt m6)⟩
  ·have hp3 := of_decide_eq_false hb3
   refine WL.call (oc_call (vs := [.slice AL nL cL, vI ((l - nR - sumR esR nR : Nat) : Int)]) (cap := []) rfl rfl rfl Try.call79 (c_szRingS (l - nR - sumR esR nR) nL cL AL bL oL esL lnL hAL (by omega) (by omega) w4 ((rL.ext m1).ext m4) ((hFesL.ext m1).ext m4))) rfl rfl (ltb rfl) ?_
   rintro _ w7 ⟨rfl, m7⟩
   refine WL.det (op_assign rfl) rfl rfl rfl ?_
   refine WL.end (NE.code (CE.seq (CE.seq (CE.region ?_))))
   refine WL.det (op_move rfl) rfl rfl rfl ?_
   refine WL.det (op_lti_f rfl rfl (Int.not_lt.2 (Int.natCast_nonneg _))) rfl rfl rfl ?_
   refine WL.end (NE.code ?_)
   refine CE.cond_f rfl rfl ?_
   refine CE.skip' (NE.code (CE.seq (CE.region ?_)))
   refine WL.det (op_fieldAddr (off' := 2) rfl Try.runUnderlying50 rfl rfl Try.sizeOf26 rfl) rfl rfl rfl ?_
   refine WL.det (op_load1 (i := 2) rfl Try.isAgg26 ((r1.ext m4).ext m7).rng rfl rfl) rfl rfl rfl ?_
   refine WL.det (op_move rfl) rfl rfl rfl ?_
   rcases Bool.eq_false_or_eq_true (decide ((l - nR - sumR esR nR) - nL - sumR esL nL < nS)) with hb5 | hb5
   ·have hp5 := of_decide_eq_true hb5
    refine WL.call (oc_call (vs := [.slice AS nS cS, vI (((l - nR - sumR esR nR) - nL - sumR esL nL : Nat) : Int)]) (cap := []) rfl rfl rfl Try.call80 (c_sz32_over ((l - nR - sumR esR nR) - nL - sumR esL nL) nS cS AS (by omega) (by omega) (by omega) w7)) rfl rfl (ltb rfl) ?_
    rintro _ _ ⟨rfl, rfl⟩
    refine WL.det (op_assign rfl) rfl rfl rfl ?_
    refine WL.end (NE.code (CE.seq (CE.seq (CE.region ?_))))
    refine WL.det (op_move rfl) rfl rfl rfl ?_
    refine WL.det (op_lti rfl rfl) rfl rfl rfl ?_
    refine WL.end (NE.code ?_)
    refine CE.cond_t rfl rfl ?_
    refine CE.seq (CE.region ?_)
    refine WL.det (op_assign rfl) rfl rfl rfl ?_
    refine WL.end (NE.code (CE.ret' (XE.ret_then ?_)))
    refine XE.leave1 Try.results25 rfl ?_
    refine ⟨rfl, ((((Mod.refl [] w).nt m1).nt m4).nt m7)⟩
   ·have hp5 := of_decide_eq_false hb5
    refine WL.call (oc_call (vs := [.slice AS nS cS, vI (((l - nR - sumR esR nR) - nL - sumR esL nL : Nat) : Int)]) (cap := []) rfl rfl rfl Try.call80 (c_sz32 ((l - nR - sumR esR nR) - nL - sumR esL nL) nS cS AS (by omega) (by omega) w7)) rfl rfl (ltb rfl) ?_
    rintro _ _ ⟨rfl, rfl⟩
    refine WL.det (op_assign rfl) rfl rfl rfl ?_
    refine WL.end (NE.code (CE.seq (CE.seq (CE.region ?_))))
    refine WL.det (op_move rfl) rfl rfl rfl ?_
    refine WL.det (op_lti_f rfl rfl (Int.not_lt.2 (Int.natCast_nonneg _))) rfl rfl rfl ?_
    refine WL.end (NE.code ?_)
    refine CE.cond_f rfl rfl ?_
    refine CE.skip' (NE.code (CE.seq (CE.region ?_)))
    refine WL.det (op_move rfl) rfl rfl rfl ?_
    refine WL.det (op_assign rfl) rfl rfl rfl ?_
    refine WL.end (NE.code (CE.ret' ?_))
    refine XE.leave1 Try.results25 rfl ?_
    refine ⟨?_, ((((Mod.refl [] w).nt m1).nt m4).nt m7)⟩
    all_goals (exfalso; omega)

theorem c_toPipe (nR : Nat) (cR : Nat) (AR : Option Addr) (bR : Nat) (oR : Nat) (esR : List RiR) (nL : Nat) (cL : Nat) (AL : Option Addr) (bL : Nat) (oL : Nat) (esL : List RiR) (nS : Nat) (cS : Nat) (AS : Option Addr) (bS : Nat) (oS : Nat) (xS : List Nat) (k : Int) (kc0 : Nat) (kc1 : Nat) (kc2 : Nat) (ks0 : Nat) (ks1 : Nat) (op : Bool) (lo : Nat) (re : Nat) (sl : Nat) (lnR : esR.length = nR) (hAR : 0 < nR → AR = some ⟨bR, oR, none⟩) (lnL : esL.length = nL) (hAL : 0 < nL → AL = some ⟨bL, oL, none⟩) (lnS : xS.length = nS) (hAS : 0 < nS → AS = some ⟨bS, oS, none⟩) (mR : nR ≤ 1048576) (mL : nL ≤ 1048576) (mS : nS ≤ 1048576) (hzR : ∀ i, (esR.getD i RiR.d).n ≤ 1048576) (hzL : ∀ i, (esL.getD i RiR.d).n ≤ 1048576) (w : World) (rR : Rng w bR oR (cat RiR.cells esR)) (rL : Rng w bL oL (cat RiR.cells esL)) (rS : Rng w bS oS (fl xS)) (hFesR : InF w esR) (hFesL : InF w esL) : Cl Try.prog 26 #[.agg #[.slice AR nR cR, .slice AL nL cL, .slice AS nS cS, vI k, vF kc0, vF kc1, vF kc2, vF ks0, vF ks1, .bool op, vF lo, vF re, vF sl]] w fun v w' => ∃ (bR' : Nat) (PR : List BC) (bL' : Nat) (PL : List BC) (bS' : Nat), v = .agg #[vS bR' 0 nR nR, vS bL' 0 nL nL, vS bS' 0 nS nS, vI k, vF kc0, vF kc1, vF kc2, vF ks0, vF ks1, .bool op, vF lo, vF re, vF sl] ∧ (PR.length = nR) ∧ (PL.length = nL) ∧ Row w' bR' 0 (olc (esR.map RiR.rd) PR) ∧ Row w' bL' 0 (olc (esL.map RiR.rd) PL) ∧ Row w' bS' 0 (fl xS) ∧ w.heap.size ≤ bR' ∧ w.heap.size ≤ bL' ∧ w.heap.size ≤ bS' ∧ bR' ≠ bL' ∧ bR' ≠ bS' ∧ bL' ≠ bS' ∧ OF w.heap.size w' (esR.map RiR.rd) PR ∧ (∀ i, i < nR → (PR.getD i BC.d).b ≠ bR') ∧ (∀ i, i < nR → (PR.getD i BC.d).b ≠ bL') ∧ (∀ i, i < nR → (PR.getD i BC.d).b ≠ bS') ∧ (∀ i j, i < nR → j < nL → (PR.getD i BC.d).b ≠ (PL.getD j BC.d).b) ∧ OF w.heap.size w' (esL.map RiR.rd) PL ∧ (∀ i, i < nL → (PL.getD i BC.d).b ≠ bR') ∧ (∀ i, i < nL → (PL.getD i BC.d).b ≠ bL') ∧ (∀ i, i < nL → (PL.getD i BC.d).b ≠ bS') ∧ Mod [] w w' := by
 refine Cl.of Try.func26 Try.ntmps26 rfl rfl (ρ := [(0, .agg #[.slice AR nR cR, .slice AL nL cL, .slice AS nS cS, vI k, vF kc0, vF kc1, vF kc2, vF ks0, vF ks1, .bool op, vF lo, vF re, vF sl])]) rfl ?_
 refine CE.seq (CE.region ?_)
 refine WL.op (op_box (cs := [.slice AR nR cR, .slice AL nL cL, .slice AS nS cS, vI k, vF kc0, vF kc1, vF kc2, vF ks0, vF ks1, .bool op, vF lo, vF re, vF sl]) rfl rfl) rfl rfl (ltb rfl) ?_
 rintro _ w1 ⟨rfl, r1, m1, z1⟩
 refine WL.op (op_alloc (cs := [.slice none 0 0, .slice none 0 0, .slice none 0 0, vI 0, vF 0, vF 0, vF 0, vF 0, vF 0, .bool false, vF 0, vF 0, vF 0]) Try.zeroValue33 rfl) rfl rfl (ltb rfl) ?_
 rintro _ w2 ⟨rfl, r2, m2, z2⟩
 refine WL.end (NE.code (CE.seq (CE.region ?_)))
 refine WL.op (op_alloc (cs := [.slice none 0 0, .slice none 0 0, .slice none 0 0, vI 0, vF 0, vF 0, vF 0, vF 0, vF 0, .bool false, vF 0, vF 0, vF 0]) Try.zeroValue33 rfl) rfl rfl (ltb rfl) ?_
 rintro _ w3 ⟨rfl, r3, m3, z3⟩
 refine WL.end (NE.code (CE.seq (CE.region ?_)))
 refine WL.det (op_fieldAddr (off' := 0) rfl Try.runUnderlying50 rfl rfl Try.sizeOf47 rfl) rfl rfl rfl ?_
 refine WL.det (op_load1 (i := 0) rfl Try.isAgg47 ((r1.ext m2).ext m3).rng rfl rfl) rfl rfl rfl ?_
 have r4 := (((rR.ext m1).ext m2).ext m3)
 refine WL.call (oc_call (vs := [.slice AR nR cR]) (cap := []) rfl rfl rfl Try.call81 (c_toRingS nR cR AR bR oR esR lnR hAR (by omega) (by assumption) w3 r4 (((hFesR.ext m1).ext m2).ext m3))) rfl rfl (ltb rfl) ?_
 rintro _ w4 ⟨b'1, P1, rfl, h1, r5, ge1, fm1, fn1, m4⟩
 refine WL.det (op_fieldAddr (off' := 0) rfl Try.runUnderlying33 rfl rfl Try.sizeOf25 rfl) rfl rfl rfl ?_
 refine WL.op0 (op_store (i := 0) (cs := [vS b'1 0 nR nR]) rfl rfl rfl Try.sizeOf25 rfl (r3.ext m4) rfl (lB rfl) rfl) rfl rfl ?_
 rintro _ w5 ⟨r6, m5, z4⟩
 have r7 : Row w5 w2.heap.size 0 [vS b'1 0 nR nR, .slice none 0 0, .slice none 0 0, vI 0, vF 0, vF 0, vF 0, vF 0, vF 0, .bool false, vF 0, vF 0, vF 0] := Row.congr r6 rfl
 refine WL.end (NE.code (CE.seq (CE.region ?_)))
 refine WL.det (op_fieldAddr (off' := 1) rfl Try.runUnderlying50 rfl rfl Try.sizeOf47 rfl) rfl rfl rfl ?_
 have r8 := ((((r1.ext m2).ext m3).ext m4).mod m5 (nC (lE (lL (lL r1.lt m2.size) lR)) nN))
 refine WL.det (op_load1 (i := 1) rfl Try.isAgg47 r8.rng rfl rfl) rfl rfl rfl ?_
 have r9 := (Rng.youngS rL ((((rL.ext m1).ext m2).ext m3).ext m4) m5 (allge_cons (lT (lT m1.size m2.size) lR) allge_nil))
 refine WL.call (oc_call (vs := [.slice AL nL cL]) (cap := []) rfl rfl rfl Try.call81 (c_toRingS nL cL AL bL oL esL lnL hAL (by omega) (by assumption) w5 r9 (InF.mod hFesL ((((hFesL.ext m1).ext m2).ext m3).ext m4) m5 (allge_cons (lT (lT m1.size m2.size) lR) allge_nil)))) rfl rfl (ltb rfl) ?_
 rintro _ w6 ⟨b'2, P2, rfl, h2, r10, ge2, fm2, fn2, m6⟩
 refine WL.det (op_fieldAddr (off' := 1) rfl Try.runUnderlying33 rfl rfl Try.sizeOf25 rfl) rfl rfl rfl ?_
 refine WL.op0 (op_store (i := 1) (cs := [vS b'2 0 nL nL]) rfl rfl rfl Try.sizeOf25 rfl (r7.ext m6) rfl (lB rfl) rfl) rfl rfl ?_
 rintro _ w7 ⟨r11, m7, z5⟩
 have r12 : Row w7 w2.heap.size 0 [vS b'1 0 nR nR, vS b'2 0 nL nL, .slice none 0 0, vI 0, vF 0, vF 0, vF 0, vF 0, vF 0, .bool false, vF 0, vF 0, vF 0] := Row.congr r11 rfl
 refine WL.end (NE.code (CE.seq (CE.region ?_)))
 refine WL.det (op_fieldAddr (off' := 2) rfl Try.runUnderlying50 rfl rfl Try.sizeOf26 rfl) rfl rfl rfl ?_
 refine WL.det (op_load1 (i := 2) rfl Try.isAgg26 ((r8.ext m6).mod m7 (nC (lE (lL (lL r1.lt m2.size) lR)) nN)).rng rfl rfl) rfl rfl rfl ?_
 have r13 := (Rng.youngS rS ((Rng.youngS rS ((((rS.ext m1).ext m2).ext m3).ext m4) m5 (allge_cons (lT (lT m1.size m2.size) lR) allge_nil)).ext m6) m7 (allge_cons (lT (lT m1.size m2.size) lR) allge_nil))
 refine WL.call (oc_call (vs := [.slice AS nS cS]) (cap := []) rfl rfl rfl Try.call49 (c_to32 nS cS AS bS oS xS lnS hAS (by omega) w7 r13)) rfl rfl (ltb rfl) ?_
 rintro _ w8 ⟨b'3, rfl, r14, ge3, m8⟩
 refine WL.det (op_fieldAddr (off' := 2) rfl Try.runUnderlying33 rfl rfl Try.sizeOf26 rfl) rfl rfl rfl ?_
 refine WL.op0 (op_store (i := 2) (cs := [vS b'3 0 nS nS]) rfl rfl rfl Try.sizeOf26 rfl (r12.ext m8) rfl (lB rfl) rfl) rfl rfl ?_
 rintro _ w9 ⟨r15, m9, z6⟩
 have r16 : Row w9 w2.heap.size 0 [vS b'1 0 nR nR, vS b'2 0 nL nL, vS b'3 0 nS nS, vI 0, vF 0, vF 0, vF 0, vF 0, vF 0, .bool false, vF 0, vF 0, vF 0] := Row.congr r15 rfl
 refine WL.end (NE.code (CE.seq (CE.region ?_)))
 refine WL.det (op_fieldAddr (off' := 3) rfl Try.runUnderlying50 rfl rfl Try.sizeOf48 rfl) rfl rfl rfl ?_
 have r17 := ((((r8.ext m6).mod m7 (nC (lE (lL (lL r1.lt m2.size) lR)) nN)).ext m8).mod m9 (nC (lE (lL (lL r1.lt m2.size) lR)) nN))
 refine WL.det (op_loadA (i := 3) (cs := [vI k, vF kc0, vF kc1, vF kc2, vF ks0, vF ks1]) rfl Try.isAgg48 Try.sizeOf48 r17.rng rfl rfl rfl) rfl rfl rfl ?_
 refine WL.call (oc_call (vs := [.agg #[vI k, vF kc0, vF kc1, vF kc2, vF ks0, vF ks1]]) (cap := []) rfl rfl rfl Try.call82 (c_toFilter k kc0 kc1 kc2 ks0 ks1 w9)) rfl rfl (ltb rfl) ?_
 rintro _ w10 ⟨rfl, m10⟩
 refine WL.det (op_fieldAddr (off' := 3) rfl Try.runUnderlying33 rfl rfl Try.sizeOf31 rfl) rfl rfl rfl ?_
 refine WL.op0 (op_store (i := 3) (cs := [vI k, vF kc0, vF kc1, vF kc2, vF ks0, vF ks1]) rfl rfl rfl Try.sizeOf31 rfl (r16.ext m10) rfl (lB rfl) rfl) rfl rfl ?_
 rintro _ w11 ⟨r18, m11, z7⟩
 have r19 : Row w11 w2.heap.size 0 [vS b'1 0 nR nR, vS b'2 0 nL nL, vS b'3 0 nS nS, vI k, vF kc0, vF kc1, vF kc2, vF ks0, vF ks1, .bool false, vF 0, vF 0, vF 0] := Row.congr r18 rfl
 refine WL.end (NE.code (CE.seq (CE.region ?_)))
 refine WL.det (op_fieldAddr (off' := 9) rfl Try.runUnderlying50 rfl rfl Try.sizeOf4 rfl) rfl rfl rfl ?_
 have r20 := ((r17.ext m10).mod m11 (nC (lE (lL (lL r1.lt m2.size) lR)) nN))
 refine WL.det (op_load1 (i := 9) rfl Try.isAgg4 r20.rng rfl rfl) rfl rfl rfl ?_
 refine WL.det (op_fieldAddr (off' := 9) rfl Try.runUnderlying33 rfl rfl Try.sizeOf4 rfl) rfl rfl rfl ?_
 refine WL.op0 (op_store (i := 9) (cs := [.bool op]) rfl rfl rfl Try.sizeOf4 rfl r19 rfl (lB rfl) rfl) rfl rfl ?_
 rintro _ w12 ⟨r21, m12, z8⟩
 have r22 : Row w12 w2.heap.size 0 [vS b'1 0 nR nR, vS b'2 0 nL nL, vS b'3 0 nS nS, vI k, vF kc0, vF kc1, vF kc2, vF ks0, vF ks1, .bool op, vF 0, vF 0, vF 0] := Row.congr r21 rfl
 refine WL.end (NE.code (CE.seq (CE.region ?_)))
 refine WL.det (op_fieldAddr (off' := 10) rfl Try.runUnderlying50 rfl rfl Try.sizeOf27 rfl) rfl rfl rfl ?_
 refine WL.det (op_load1 (i := 10) rfl Try.isAgg27 (r20.mod m12 (nC (lE (lL (lL r1.lt m2.size) lR)) nN)).rng rfl rfl) rfl rfl rfl ?_
 refine WL.det (op_fieldAddr (off' := 10) rfl Try.runUnderlying33 rfl rfl Try.sizeOf27 rfl) rfl rfl rfl ?_
 refine WL.op0 (op_store (i := 10) (cs := [vF lo]) rfl rfl rfl Try.sizeOf27 rfl r22 rfl (lB rfl) rfl) rfl rfl ?_
 rintro _ w13 ⟨r23, m13, z9⟩
 have r24 : Row w13 w2.heap.size 0 [vS b'1 0 nR nR, vS b'2 0 nL nL, vS b'3 0 nS nS, vI k, vF kc0, vF kc1, vF kc2, vF ks0, vF ks1, .bool op, vF lo, vF 0, vF 0] := Row.congr r23 rfl
 refine WL.end (NE.code (CE.seq (CE.region ?_)))
 refine WL.det (op_fieldAddr (off' := 11) rfl Try.runUnderlying50 rfl rfl Try.sizeOf27 rfl) rfl rfl rfl ?_
 have r25 := ((r20.mod m12 (nC (lE (lL (lL r1.lt m2.size) lR)) nN)).mod m13 (nC (lE (lL (lL r1.lt m2.size) lR)) nN))
 refine WL.det (op_load1 (i := 11) rfl Try.isAgg27 r25.rng rfl rfl) rfl rfl rfl ?_
 refine WL.det (op_fieldAddr (off' := 11) rfl Try.runUnderlying33 rfl rfl Try.sizeOf27 rfl) rfl rfl rfl ?_
 refine WL.op0 (op_store (i := 11) (cs := [vF re]) rfl rfl rfl Try.sizeOf27 rfl r24 rfl (lB rfl) rfl) rfl rfl ?_
 rintro _ w14 ⟨r26, m14, z10⟩
 have r27 : Row w14 w2.heap.size 0 [vS b'1 0 nR nR, vS b'2 0 nL nL, vS b'3 0 nS nS, vI k, vF kc0, vF kc1, vF kc2, vF ks0, vF ks1, .bool op, vF lo, vF re, vF 0] := Row.congr r26 rfl
 refine WL.end (NE.code (CE.seq (CE.region ?_)))
 refine WL.det (op_fieldAddr (off' := 12) rfl Try.runUnderlying50 rfl rfl Try.sizeOf27 rfl) rfl rfl rfl ?_
 refine WL.det (op_load1 (i := 12) rfl Try.isAgg27 (r25.mod m14 (nC (lE (lL (lL r1.lt m2.size) lR)) nN)).rng rfl rfl) rfl rfl rfl ?_
 refine WL.det (op_fieldAddr (off' := 12) rfl Try.runUnderlying33 rfl rfl Try.sizeOf27 rfl) rfl rfl rfl ?_
 refine WL.op0 (op_store (i := 12) (cs := [vF sl]) rfl rfl rfl Try.sizeOf27 rfl r27 rfl (lB rfl) rfl) rfl rfl ?_
 rintro _ w15 ⟨r28, m15, z11⟩
 have r29 : Row w15 w2.heap.size 0 [vS b'1 0 nR nR, vS b'2 0 nL nL, vS b'3 0 nS nS, vI k, vF kc0, vF kc1, vF kc2, vF ks0, vF ks1, .bool op, vF lo, vF re, vF sl] := Row.congr r28 rfl
 refine WL.end (NE.code (CE.seq (CE.region ?_)))
 refine WL.det (op_loadA (i := 0) (cs := [vS b'1 0 nR nR, vS b'2 0 nL nL, vS b'3 0 nS nS, vI k, vF kc0, vF kc1, vF kc2, vF ks0, vF ks1, .bool op, vF lo, vF re, vF sl]) rfl Try.isAgg33 Try.sizeOf33 r29.rng rfl rfl rfl) rfl rfl rfl ?_
 have r30 := (((((((((((((r2.ext m3).ext m4).mod m5 (nC (lE (lL r2.lt lR)) nN)).ext m6).mod m7 (nC (lE (lL r2.lt lR)) nN)).ext m8).mod m9 (nC (lE (lL r2.lt lR)) nN)).ext m10).mod m11 (nC (lE (lL r2.lt lR)) nN)).mod m12 (nC (lE (lL r2.lt lR)) nN)).mod m13 (nC (lE (lL r2.lt lR)) nN)).mod m14 (nC (lE (lL r2.lt lR)) nN)).mod m15 (nC (lE (lL r2.lt lR)) nN))
 refine WL.op0 (op_store (i := 0) (cs := [vS b'1 0 nR nR, vS b'2 0 nL nL, vS b'3 0 nS nS, vI k, vF kc0, vF kc1, vF kc2, vF ks0, vF ks1, .bool op, vF lo, vF re, vF sl]) rfl rfl rfl Try.sizeOf33 rfl r30 rfl (lB rfl) rfl) rfl rfl ?_
 rintro _ w16 ⟨r31, m16, z12⟩
 have r32 : Row w16 w1.heap.size 0 [vS b'1 0 nR nR, vS b'2 0 nL nL, vS b'3 0 nS nS, vI k, vF kc0, vF kc1, vF kc2, vF ks0, vF ks1, .bool op, vF lo, vF re, vF sl] := Row.congr r31 rfl
 refine WL.end (NE.code (CE.ret' ?_))
 refine XE.leaveC Try.results26 (res_agg (cs := [vS b'1 0 nR nR, vS b'2 0 nL nL, vS b'3 0 nS nS, vI k, vF kc0, vF kc1, vF kc2, vF ks0, vF ks1, .bool op, vF lo, vF re, vF sl]) rfl Try.isAgg33 Try.sizeOf33 r32.rng rfl res_nil) ?_
 have r33 := ((((((((((((r5.mod m5 (nC (lG (lL r3.lt ge1)) nN)).ext m6).mod m7 (nC (lG (lL r3.lt ge1)) nN)).ext m8).mod m9 (nC (lG (lL r3.lt ge1)) nN)).ext m10).mod m11 (nC (lG (lL r3.lt ge1)) nN)).mod m12 (nC (lG (lL r3.lt ge1)) nN)).mod m13 (nC (lG (lL r3.lt ge1)) nN)).mod m14 (nC (lG (lL r3.lt ge1)) nN)).mod m15 (nC (lG (lL r3.lt ge1)) nN)).mod m16 (nC (lG (lL (lL r2.lt m3.size) ge1)) nN))
 have sz1 := (lT (lT m3.size m4.size) m5.size)
 have r34 := ((((((((((r10.mod m7 (nC (lG (lL (lL r3.lt (lT m4.size m5.size)) ge2)) nN)).ext m8).mod m9 (nC (lG (lL (lL r3.lt (lT m4.size m5.size)) ge2)) nN)).ext m10).mod m11 (nC (lG (lL (lL r3.lt (lT m4.size m5.size)) ge2)) nN)).mod m12 (nC (lG (lL (lL r3.lt (lT m4.size m5.size)) ge2)) nN)).mod m13 (nC (lG (lL (lL r3.lt (lT m4.size m5.size)) ge2)) nN)).mod m14 (nC (lG (lL (lL r3.lt (lT m4.size m5.size)) ge2)) nN)).mod m15 (nC (lG (lL (lL r3.lt (lT m4.size m5.size)) ge2)) nN)).mod m16 (nC (lG (lL (lL r2.lt sz1) ge2)) nN))
 have sz2 := (lT (lT (lT m4.size m5.size) m6.size) m7.size)
 have sz3 := (lT (lT sz1 m6.size) m7.size)
 have r35 := ((((((((r14.mod m9 (nC (lG (lL (lL r3.lt sz2) ge3)) nN)).ext m10).mod m11 (nC (lG (lL (lL r3.lt sz2) ge3)) nN)).mod m12 (nC (lG (lL (lL r3.lt sz2) ge3)) nN)).mod m13 (nC (lG (lL (lL r3.lt sz2) ge3)) nN)).mod m14 (nC (lG (lL (lL r3.lt sz2) ge3)) nN)).mod m15 (nC (lG (lL (lL r3.lt sz2) ge3)) nN)).mod m16 (nC (lG (lL (lL r2.lt sz3) ge3)) nN))
 have sz4 := (lT (lT m1.size m2.size) m3.size)
 have sz5 := (lT (lT sz4 m4.size) m5.size)
 have sz6 := (lT (lT sz5 m6.size) m7.size)
 have sz7 := (lT (lT m5.size m6.size) m7.size)
 refine ⟨b'1, P1, b'2, P2, b'3, rfl, h1, h2, r33, r34, r35, (lT sz4 ge1), (lT sz5 ge2), (lT sz6 ge3), (lE (lL (lL r5.lt m5.size) ge2)), (lE (lL (lL r5.lt sz7) ge3)), (lE (lL (lL r10.lt m7.size) ge3)), (OF.low ((((((((((((fm1.mod m5 (fun j hj => (nC (lG (lL r3.lt (fm1.ge j (Nat.lt_of_lt_of_eq (Nat.lt_of_lt_of_eq hj (rd_len lnR)) (rd_len lnR).symm)))) nN))).ext m6).mod m7 (fun j hj => (nC (lG (lL r3.lt (fm1.ge j (Nat.lt_of_lt_of_eq (Nat.lt_of_lt_of_eq hj (rd_len lnR)) (rd_len lnR).symm)))) nN))).ext m8).mod m9 (fun j hj => (nC (lG (lL r3.lt (fm1.ge j (Nat.lt_of_lt_of_eq (Nat.lt_of_lt_of_eq hj (rd_len lnR)) (rd_len lnR).symm)))) nN))).ext m10).mod m11 (fun j hj => (nC (lG (lL r3.lt (fm1.ge j (Nat.lt_of_lt_of_eq (Nat.lt_of_lt_of_eq hj (rd_len lnR)) (rd_len lnR).symm)))) nN))).mod m12 (fun j hj => (nC (lG (lL r3.lt (fm1.ge j (Nat.lt_of_lt_of_eq (Nat.lt_of_lt_of_eq hj (rd_len lnR)) (rd_len lnR).symm)))) nN))).mod m13 (fun j hj => (nC (lG (lL r3.lt (fm1.ge j (Nat.lt_of_lt_of_eq (Nat.lt_of_lt_of_eq hj (rd_len lnR)) (rd_len lnR).symm)))) nN))).mod m14 (fun j hj => (nC (lG (lL r3.lt (fm1.ge j (Nat.lt_of_lt_of_eq (Nat.lt_of_lt_of_eq hj (rd_len lnR)) (rd_len lnR).symm)))) nN))).mod m15 (fun j hj => (nC (lG (lL r3.lt (fm1.ge j (Nat.lt_of_lt_of_eq (Nat.lt_of_lt_of_eq hj (rd_len lnR)) (rd_len lnR).symm)))) nN))).mod m16 (fun j hj => (nC (lG (lL (lL r2.lt m3.size) (fm1.ge j (Nat.lt_of_lt_of_eq (Nat.lt_of_lt_of_eq hj (rd_len lnR)) (rd_len lnR).symm)))) nN))) sz4), (fun j hj => (fn1 j (show j < nR by omega))), (fun j hj => (lE (lL (OF.lt fm1 (Nat.lt_of_lt_of_eq (show j < nR by omega) (rd_len lnR).symm)) (lT m5.size ge2)))), (fun j hj => (lE (lL (OF.lt fm1 (Nat.lt_of_lt_of_eq (show j < nR by omega) (rd_len lnR).symm)) (lT sz7 ge3)))), (fun j q hj hq => (lE (lL (lL (OF.lt fm1 (Nat.lt_of_lt_of_eq (show j < nR by omega) (rd_len lnR).symm)) m5.size) (fm2.ge q (Nat.lt_of_lt_of_eq (show q < nL by omega) (rd_len lnL).symm))))), (OF.low ((((((((((fm2.mod m7 (fun j hj => (nC (lG (lL (lL r3.lt (lT m4.size m5.size)) (fm2.ge j (Nat.lt_of_lt_of_eq (Nat.lt_of_lt_of_eq hj (rd_len lnL)) (rd_len lnL).symm)))) nN))).ext m8).mod m9 (fun j hj => (nC (lG (lL (lL r3.lt (lT m4.size m5.size)) (fm2.ge j (Nat.lt_of_lt_of_eq (Nat.lt_of_lt_of_eq hj (rd_len lnL)) (rd_len lnL).symm)))) nN))).ext m10).mod m11 (fun j hj => (nC (lG (lL (lL r3.lt (lT m4.size m5.size)) (fm2.ge j (Nat.lt_of_lt_of_eq (Nat.lt_of_lt_of_eq hj (rd_len lnL)) (rd_len lnL).symm)))) nN))).mod m12 (fun j hj => (nC (lG (lL (lL r3.lt (lT m4.size m5.size)) (fm2.ge j (Nat.lt_of_lt_of_eq (Nat.lt_of_lt_of_eq hj (rd_len lnL)) (rd_len lnL).symm)))) nN))).mod m13 (fun j hj => (nC (lG (lL (lL r3.lt (lT m4.size m5.size)) (fm2.ge j (Nat.lt_of_lt_of_eq (Nat.lt_of_lt_of_eq hj (rd_len lnL)) (rd_len lnL).symm)))) nN))).mod m14 (fun j hj => (nC (lG (lL (lL r3.lt (lT m4.size m5.size)) (fm2.ge j (Nat.lt_of_lt_of_eq (Nat.lt_of_lt_of_eq hj (rd_len lnL)) (rd_len lnL).symm)))) nN))).mod m15 (fun j hj => (nC (lG (lL (lL r3.lt (lT m4.size m5.size)) (fm2.ge j (Nat.lt_of_lt_of_eq (Nat.lt_of_lt_of_eq hj (rd_len lnL)) (rd_len lnL).symm)))) nN))).mod m16 (fun j hj => (nC (lG (lL (lL r2.lt sz1) (fm2.ge j (Nat.lt_of_lt_of_eq (Nat.lt_of_lt_of_eq hj (rd_len lnL)) (rd_len lnL).symm)))) nN))) sz5), (fun j hj => (lG (lL (lL r5.lt m5.size) (fm2.ge j (Nat.lt_of_lt_of_eq (show j < nL by omega) (rd_len lnL).symm))))), (fun j hj => (fn2 j (show j < nL by omega))), (fun j hj => (lE (lL (OF.lt fm2 (Nat.lt_of_lt_of_eq (show j < nL by omega) (rd_len lnL).symm)) (lT m7.size ge3)))), (((((((((((((((((Mod.refl [] w).nt m1).nt m2).nt m3).nt m4).then m5 ((aC (.inr (lT (lT m1.size m2.size) lR)) aN))).nt m6).then m7 ((aC (.inr (lT (lT m1.size m2.size) lR)) aN))).nt m8).then m9 ((aC (.inr (lT (lT m1.size m2.size) lR)) aN))).nt m10).then m11 ((aC (.inr (lT (lT m1.size m2.size) lR)) aN))).then m12 ((aC (.inr (lT (lT m1.size m2.size) lR)) aN))).then m13 ((aC (.inr (lT (lT m1.size m2.size) lR)) aN))).then m14 ((aC (.inr (lT (lT m1.size m2.size) lR)) aN))).then m15 ((aC (.inr (lT (lT m1.size m2.size) lR)) aN))).then m16 ((aC (.inr (lT m1.size lR)) aN)))⟩

theorem c_eqPipe (nR : Nat) (GR : List RD) (nL : Nat) (GL : List RD) (nS : Nat) (xS : List Nat) (cR : Nat) (bR : Nat) (PR : List BC) (loR : Nat) (cL : Nat) (bL : Nat) (PL : List BC) (loL : Nat) (cS : Nat) (bS : Nat) (cR' : Nat) (bR' : Nat) (PR' : List BC) (loR' : Nat) (cL' : Nat) (bL' : Nat) (PL' : List BC) (loL' : Nat) (cS' : Nat) (bS' : Nat) (k : Int) (kc0 : Nat) (kc1 : Nat) (kc2 : Nat) (ks0 : Nat) (ks1 : Nat) (op : Bool) (lo : Nat) (re : Nat) (sl : Nat) (lDR : GR.length = nR) (lDL : GL.length = nL) (lnS : xS.length = nS) (hzR : ∀ i, (GR.getD i RD.d).xs.length ≤ 1048576) (hzL : ∀ i, (GL.getD i RD.d).xs.length ≤ 1048576) (mR : nR ≤ 1048576) (mL : nL ≤ 1048576) (mS : nS ≤ 1048576) (lPR : PR.length = nR) (lPL : PL.length = nL) (lPR' : PR'.length = nR) (lPL' : PL'.length = nL) (w : World) (rR : Rng w bR 0 (olc GR PR)) (rL : Rng w bL 0 (olc GL PL)) (rS : Rng w bS 0 (fl xS)) (rR' : Rng w bR' 0 (olc GR PR')) (rL' : Rng w bL' 0 (olc GL PL')) (rS' : Rng w bS' 0 (fl xS))  (FR : OF loR w GR PR) (FL : OF loL w GL PL) (FR' : OF loR' w GR PR') (FL' : OF loL' w GL PL') : Cl Try.prog 28 #[.agg #[vS bR 0 nR cR, vS bL 0 nL cL, vS bS 0 nS cS, vI k, vF kc0, vF kc1, vF kc2, vF ks0, vF ks1, .bool op, vF lo, vF re, vF sl], .agg #[vS bR' 0 nR cR', vS bL' 0 nL cL', vS bS' 0 nS cS', vI k, vF kc0, vF kc1, vF kc2, vF ks0, vF ks1, .bool op, vF lo, vF re, vF sl]] w fun v w' => v = .bool true ∧ Mod [] w w' := by
 refine Cl.of Try.func28 Try.ntmps28 rfl rfl (ρ := [(0, .agg #[vS bR 0 nR cR, vS bL 0 nL cL, vS bS 0 nS cS, vI k, vF kc0, vF kc1, vF kc2, vF ks0, vF ks1, .bool op, vF lo, vF re, vF sl]), (1, .agg #[vS bR' 0 nR cR', vS bL' 0 nL cL', vS bS' 0 nS cS', vI k, vF kc0, vF kc1, vF kc2, vF ks0, vF ks1, .bool op, vF lo, vF re, vF sl])]) rfl ?_
 refine CE.seq (CE.region ?_)
 refine WL.op (op_box (cs := [vS bR 0 nR cR, vS bL 0 nL cL, vS bS 0 nS cS, vI k, vF kc0, vF kc1, vF kc2, vF ks0, vF ks1, .bool op, vF lo, vF re, vF sl]) rfl rfl) rfl rfl (ltb rfl) ?_
 rintro _ w1 ⟨rfl, r1, m1, z1⟩
 refine WL.op (op_box (cs := [vS bR' 0 nR cR', vS bL' 0 nL cL', vS bS' 0 nS cS', vI k, vF kc0, vF kc1, vF kc2, vF ks0, vF ks1, .bool op, vF lo, vF re, vF sl]) rfl rfl) rfl rfl (ltb rfl) ?_
 rintro _ w2 ⟨rfl, r2, m2, z2⟩
 refine WL.det (op_assign rfl) rfl rfl rfl ?_
 refine WL.end (NE.code (CE.seq (CE.seq (CE.region ?_))))
 refine WL.det (op_fieldAddr (off' := 0) rfl Try.runUnderlying33 rfl rfl Try.sizeOf25 rfl) rfl rfl rfl ?_
 refine WL.det (op_load1 (i := 0) rfl Try.isAgg25 (r1.ext m2).rng rfl rfl) rfl rfl rfl ?_
 refine WL.det (op_fieldAddr (off' := 0) rfl Try.runUnderlying33 rfl rfl Try.sizeOf25 rfl) rfl rfl rfl ?_
 refine WL.det (op_load1 (i := 0) rfl Try.isAgg25 r2.rng rfl rfl) rfl rfl rfl ?_
 refine WL.call (oc_call (vs := [vS bR 0 nR cR, vS bR' 0 nR cR']) (cap := []) rfl rfl rfl Try.call84 (c_eqRingS nR cR bR GR PR loR cR' bR' PR' loR' lDR lPR lPR' (by assumption) (by omega) w2 ((rR.ext m1).ext m2) ((rR'.ext m1).ext m2) ((FR.ext m1).ext m2) ((FR'.ext m1).ext m2))) rfl rfl (ltb rfl) ?_
 rintro _ w3 ⟨rfl, m3⟩
 refine WL.det (op_not rfl) rfl rfl rfl ?_
 refine WL.end (NE.code ?_)
 refine CE.cond_f rfl rfl ?_
 refine CE.skip' (NE.code (CE.seq (CE.seq (CE.region ?_))))
 refine WL.det (op_fieldAddr (off' := 1) rfl Try.runUnderlying33 rfl rfl Try.sizeOf25 rfl) rfl rfl rfl ?_
 refine WL.det (op_load1 (i := 1) rfl Try.isAgg25 ((r1.ext m2).ext m3).rng rfl rfl) rfl rfl rfl ?_
 refine WL.det (op_fieldAddr (off' := 1) rfl Try.runUnderlying33 rfl rfl Try.sizeOf25 rfl) rfl rfl rfl ?_
 refine WL.det (op_load1 (i := 1) rfl Try.isAgg25 (r2.ext m3).rng rfl rfl) rfl rfl rfl ?_
 have r3 := (((rL.ext m1).ext m2).ext m3)
 have r4 := (((rL'.ext m1).ext m2).ext m3)
 refine WL.call (oc_call (vs := [vS bL 0 nL cL, vS bL' 0 nL cL']) (cap := []) rfl rfl rfl Try.call84 (c_eqRingS nL cL bL GL PL loL cL' bL' PL' loL' lDL lPL lPL' (by assumption) (by omega) w3 r3 r4 (((FL.ext m1).ext m2).ext m3) (((FL'.ext m1).ext m2).ext m3))) rfl rfl (ltb rfl) ?_
 rintro _ w4 ⟨rfl, m4⟩
 refine WL.det (op_not rfl) rfl rfl rfl ?_
 refine WL.end (NE.code ?_)
 refine CE.cond_f rfl rfl ?_
 refine CE.skip' (NE.code (CE.seq (CE.seq (CE.region ?_))))
 refine WL.det (op_fieldAddr (off' := 2) rfl Try.runUnderlying33 rfl rfl Try.sizeOf26 rfl) rfl rfl rfl ?_
 have r5 := (((r1.ext m2).ext m3).ext m4)
 refine WL.det (op_load1 (i := 2) rfl Try.isAgg26 r5.rng rfl rfl) rfl rfl rfl ?_
 refine WL.det (op_fieldAddr (off' := 2) rfl Try.runUnderlying33 rfl rfl Try.sizeOf26 rfl) rfl rfl rfl ?_
 refine WL.det (op_load1 (i := 2) rfl Try.isAgg26 ((r2.ext m3).ext m4).rng rfl rfl) rfl rfl rfl ?_
 have r6 := ((((rS.ext m1).ext m2).ext m3).ext m4)
 have r7 := ((((rS'.ext m1).ext m2).ext m3).ext m4)
 refine WL.call (oc_call (vs := [vS bS 0 nS cS, vS bS' 0 nS cS']) (cap := []) rfl rfl rfl Try.call50 (c_eq32_same nS cS (some ⟨bS, 0, none⟩) bS 0 xS cS' (some ⟨bS', 0, none⟩) bS' 0 lnS (fun _ => rfl) (fun _ => rfl) (by omega) w4 r6 r7)) rfl rfl (ltb rfl) ?_
 rintro _ w5 ⟨rfl, m5⟩
 refine WL.det (op_not rfl) rfl rfl rfl ?_
 refine WL.end (NE.code ?_)
 refine CE.cond_f rfl rfl ?_
 refine CE.skip' (NE.code (CE.seq (CE.seq (CE.region ?_))))
 refine WL.det (op_fieldAddr (off' := 3) rfl Try.runUnderlying33 rfl rfl Try.sizeOf31 rfl) rfl rfl rfl ?_
 refine WL.det (op_loadA (i := 3) (cs := [vI k, vF kc0, vF kc1, vF kc2, vF ks0, vF ks1]) rfl Try.isAgg31 Try.sizeOf31 (r5.ext m5).rng rfl rfl rfl) rfl rfl rfl ?_
 refine WL.det (op_fieldAddr (off' := 3) rfl Try.runUnderlying33 rfl rfl Try.sizeOf31 rfl) rfl rfl rfl ?_
 have r8 := (((r2.ext m3).ext m4).ext m5)
 refine WL.det (op_loadA (i := 3) (cs := [vI k, vF kc0, vF kc1, vF kc2, vF ks0, vF ks1]) rfl Try.isAgg31 Try.sizeOf31 r8.rng rfl rfl rfl) rfl rfl rfl ?_
 refine WL.call (oc_call (vs := [.agg #[vI k, vF kc0, vF kc1, vF kc2, vF ks0, vF ks1], .agg #[vI k, vF kc0, vF kc1, vF kc2, vF ks0, vF ks1]]) (cap := []) rfl rfl rfl Try.call85 (c_eqFilter k kc0 kc0 kc1 kc1 kc2 kc2 ks0 ks0 ks1 ks1 kc0 kc1 kc2 ks0 ks1 rfl rfl rfl rfl rfl rfl rfl rfl rfl rfl w5)) rfl rfl (ltb rfl) ?_
 rintro _ w6 ⟨rfl, m6⟩
 refine WL.det (op_not rfl) rfl rfl rfl ?_
 refine WL.end (NE.code ?_)
 refine CE.cond_f rfl rfl ?_
 refine CE.skip' (NE.code (CE.seq (CE.seq (CE.region ?_))))
 refine WL.det (op_fieldAddr (off' := 9) rfl Try.runUnderlying33 rfl rfl Try.sizeOf4 rfl) rfl rfl rfl ?_
 refine WL.det (op_load1 (i := 9) rfl Try.isAgg4 ((r5.ext m5).ext m6).rng rfl rfl) rfl rfl rfl ?_
 refine WL.det (op_fieldAddr (off' := 9) rfl Try.runUnderlying33 rfl rfl Try.sizeOf4 rfl) rfl rfl rfl ?_
 refine WL.det (op_load1 (i := 9) rfl Try.isAgg4 (r8.ext m6).rng rfl rfl) rfl rfl rfl ?_
 refine WL.det (op_neb_same rfl rfl Try.underlying4) rfl rfl rfl ?_
 refine WL.end (NE.code ?_)
 refine CE.cond_f rfl rfl ?_
 refine CE.skip' (NE.code (CE.seq (CE.seq (CE.region ?_))))
 refine WL.det (op_fieldAddr (off' := 10) rfl Try.runUnderlying33 rfl rfl Try.sizeOf27 rfl) rfl rfl rfl ?_
 refine WL.det (op_load1 (i := 10) rfl Try.isAgg27 ((r5.ext m5).ext m6).rng rfl rfl) rfl rfl rfl ?_
 refine WL.op (op_widen (e := (wide lo)) rfl rfl Try.runUnderlying27 Try.runUnderlying78 rfl) rfl rfl (ltb rfl) ?_
 rintro _ w7 ⟨⟨f1, rfl, hf1, lf1⟩, m7⟩
 refine WL.det (op_fieldAddr (off' := 10) rfl Try.runUnderlying33 rfl rfl Try.sizeOf27 rfl) rfl rfl rfl ?_
 refine WL.det (op_load1 (i := 10) rfl Try.isAgg27 ((r8.ext m6).ext m7).rng rfl rfl) rfl rfl rfl ?_
 refine WL.op (op_widen (e := (wide lo)) rfl rfl Try.runUnderlying27 Try.runUnderlying78 rfl) rfl rfl (ltb rfl) ?_
 rintro _ w8 ⟨⟨f2, rfl, hf2, lf2⟩, m8⟩
 refine WL.call (oc_call (vs := [.float .f64 f1, .float .f64 f2]) (cap := []) rfl rfl rfl Try.call48 (c_sameFloat f1 (wide lo) f2 (wide lo) hf1 hf2 w8)) rfl rfl (ltb rfl) ?_
 rintro _ w9 ⟨rfl, m9⟩
 refine WL.det (op_not rfl) rfl rfl rfl ?_
 refine WL.end (NE.code ?_)
 refine CE.cond_f rfl (bnot_t (sameF_self _)) ?_
 refine CE.skip' (NE.code (CE.seq (CE.seq (CE.region ?_))))
 refine WL.det (op_fieldAddr (off' := 11) rfl Try.runUnderlying33 rfl rfl Try.sizeOf27 rfl) rfl rfl rfl ?_
 have r9 := (((((r5.ext m5).ext m6).ext m7).ext m8).ext m9)
 refine WL.det (op_load1 (i := 11) rfl Try.isAgg27 r9.rng rfl rfl) rfl rfl rfl ?_
 refine WL.op (op_widen (e := (wide re)) rfl rfl Try.runUnderlying27 Try.runUnderlying78 rfl) rfl rfl (ltb rfl) ?_
 rintro _ w10 ⟨⟨f3, rfl, hf3, lf3⟩, m10⟩
 refine WL.det (op_fieldAddr (off' := 11) rfl Try.runUnderlying33 rfl rfl Try.sizeOf27 rfl) rfl rfl rfl ?_
 have r10 := (((((r8.ext m6).ext m7).ext m8).ext m9).ext m10)
 refine WL.det (op_load1 (i := 11) rfl Try.isAgg27 r10.rng rfl rfl) rfl rfl rfl ?_
 refine WL.op (op_widen (e := (wide re)) rfl rfl Try.runUnderlying27 Try.runUnderlying78 rfl) rfl rfl (ltb rfl) ?_
 rintro _ w11 ⟨⟨f4, rfl, hf4, lf4⟩, m11⟩
 refine WL.call (oc_call (vs := [.float .f64 f3, .float .f64 f4]) (cap := []) rfl rfl rfl Try.call48 (c_sameFloat f3 (wide re) f4 (wide re) hf3 hf4 w11)) rfl rfl (ltb rfl) ?_
 rintro _ w12 ⟨rfl, m12⟩
 refine WL.det (op_not rfl) rfl rfl rfl ?_
 refine WL.end (NE.code ?_)
 refine CE.cond_f rfl (bnot_t (sameF_self _)) ?_
 refine CE.skip' (NE.code (CE.seq (CE.seq (CE.region ?_))))
 refine WL.det (op_fieldAddr (off' := 12) rfl Try.runUnderlying33 rfl rfl Try.sizeOf27 rfl) rfl rfl rfl ?_
 have r11 := (((r9.ext m10).ext m11).ext m12)
 refine WL.det (op_load1 (i := 12) rfl Try.isAgg27 r11.rng rfl rfl) rfl rfl rfl ?_
 refine WL.op (op_widen (e := (wide sl)) rfl rfl Try.runUnderlying27 Try.runUnderlying78 rfl) rfl rfl (ltb rfl) ?_
 rintro _ w13 ⟨⟨f5, rfl, hf5, lf5⟩, m13⟩
 refine WL.det (op_fieldAddr (off' := 12) rfl Try.runUnderlying33 rfl rfl Try.sizeOf27 rfl) rfl rfl rfl ?_
 have r12 := (((r10.ext m11).ext m12).ext m13)
 refine WL.det (op_load1 (i := 12) rfl Try.isAgg27 r12.rng rfl rfl) rfl rfl rfl ?_
 refine WL.op (op_widen (e := (wide sl)) rfl rfl Try.runUnderlying27 Try.runUnderlying78 rfl) rfl rfl (ltb rfl) ?_
 rintro _ w14 ⟨⟨f6, rfl, hf6, lf6⟩, m14⟩
 refine WL.call (oc_call (vs := [.float .f64 f5, .float .f64 f6]) (cap := []) rfl rfl rfl Try.call48 (c_sameFloat f5 (wide sl) f6 (wide sl) hf5 hf6 w14)) rfl rfl (ltb rfl) ?_
 rintro _ w15 ⟨rfl, m15⟩
 refine WL.det (op_not rfl) rfl rfl rfl ?_
 refine WL.end (NE.code ?_)
 refine CE.cond_f rfl (bnot_t (sameF_self _)) ?_
 refine CE.skip' (NE.code (CE.seq (CE.region ?_)))
 refine WL.det (op_assign rfl) rfl rfl rfl ?_
 refine WL.end (NE.code (CE.ret' ?_))
 refine XE.leave1 Try.results28 rfl ?_
 refine ⟨rfl, ((((((((((((((((Mod.refl [] w).nt m1).nt m2).nt m3).nt m4).nt m5).nt m6).nt m7).nt m8).nt m9).nt m10).nt m11).nt m12).nt m13).nt m14).nt m15)⟩

theorem c_markPipe (nR : Nat) (GR : List RD) (nL : Nat) (GL : List RD) (nS : Nat) (xS : List Nat) (cR : Nat) (bR : Nat) (PR : List BC) (loR : Nat) (cL : Nat) (bL : Nat) (PL : List BC) (loL : Nat) (cS : Nat) (bS : Nat) (k : Int) (kc0 : Nat) (kc1 : Nat) (kc2 : Nat) (ks0 : Nat) (ks1 : Nat) (op : Bool) (lo : Nat) (re : Nat) (sl : Nat) (q : Nat) (lDR : GR.length = nR) (lDL : GL.length = nL) (lnS : xS.length = nS) (hzR : ∀ i, (GR.getD i RD.d).xs.length ≤ 1048576) (hzL : ∀ i, (GL.getD i RD.d).xs.length ≤ 1048576) (mR : nR ≤ 1048576) (mL : nL ≤ 1048576) (mS : nS ≤ 1048576) (lPR : PR.length = nR) (lPL : PL.length = nL) (hq : q ≤ 1048576) (w : World) (rR : Row w bR 0 (olc GR PR)) (rL : Row w bL 0 (olc GL PL)) (rS : Row w bS 0 (fl xS)) (eRL : bR ≠ bL) (eRS : bR ≠ bS) (eLS : bL ≠ bS)  (FR : OF loR w GR PR) (gRR : (∀ i, i < nR → (PR.getD i BC.d).b ≠ bR)) (gRL : (∀ i, i < nR → (PR.getD i BC.d).b ≠ bL)) (gRS : (∀ i, i < nR → (PR.getD i BC.d).b ≠ bS)) (gPP : (∀ i j, i < nR → j < nL → (PR.getD i BC.d).b ≠ (PL.getD j BC.d).b)) (FL : OF loL w GL PL) (gLR : (∀ i, i < nL → (PL.getD i BC.d).b ≠ bR)) (gLL : (∀ i, i < nL → (PL.getD i BC.d).b ≠ bL)) (gLS : (∀ i, i < nL → (PL.getD i BC.d).b ≠ bS)) : Cl Try.prog 29 #[.agg #[vS bR 0 nR cR, vS bL 0 nL cL, vS bS 0 nS cS, vI k, vF kc0, vF kc1, vF kc2, vF ks0, vF ks1, .bool op, vF lo, vF re, vF sl], vI ((q : Nat) : Int)] w fun v w' => ∃ (z : Nat), v = vI ((z : Nat) : Int) ∧ (z ≤ q + 1048577 * nR + 1048577 * nL + nS) ∧ Mod (bR :: bL :: bS :: (PR.map BC.b ++ (PL.map BC.b ++ []))) w w' := by
 refine Cl.of Try.func29 Try.ntmps29 rfl rfl (ρ := [(0, .agg #[vS bR 0 nR cR, vS bL 0 nL cL, vS bS 0 nS cS, vI k, vF kc0, vF kc1, vF kc2, vF ks0, vF ks1, .bool op, vF lo, vF re, vF sl]), (1, vI ((q : Nat) : Int))]) rfl ?_
 refine CE.seq (CE.region ?_)
 refine WL.op (op_box (cs := [vS bR 0 nR cR, vS bL 0 nL cL, vS bS 0 nS cS, vI k, vF kc0, vF kc1, vF kc2, vF ks0, vF ks1, .bool op, vF lo, vF re, vF sl]) rfl rfl) rfl rfl (ltb rfl) ?_
 rintro _ w1 ⟨rfl, r1, m1, z1⟩
 refine WL.det (op_assign rfl) rfl rfl rfl ?_
 refine WL.end (NE.code (CE.seq (CE.region ?_)))
 refine WL.det (op_fieldAddr (off' := 0) rfl Try.runUnderlying33 rfl rfl Try.sizeOf25 rfl) rfl rfl rfl ?_
 refine WL.det (op_load1 (i := 0) rfl Try.isAgg25 r1.rng rfl rfl) rfl rfl rfl ?_
 refine WL.det (op_move rfl) rfl rfl rfl ?_
 refine WL.call (oc_call (vs := [vS bR 0 nR cR, vI ((q : Nat) : Int)]) (cap := []) rfl rfl rfl Try.call86 (c_markRingS nR cR bR GR PR loR q lDR lPR (by assumption) (by omega) (by omega) w1 (rR.ext m1) (FR.ext m1) (fun j hj => (gRR j hj)))) rfl rfl (ltb rfl) ?_
 rintro _ w2 ⟨z2, rfl, h1, m2⟩
 refine WL.det (op_assign rfl) rfl rfl rfl ?_
 refine WL.end (NE.code (CE.seq (CE.region ?_)))
 refine WL.det (op_fieldAddr (off' := 1) rfl Try.runUnderlying33 rfl rfl Try.sizeOf25 rfl) rfl rfl rfl ?_
 have r2 := (r1.mod m2 (nC (lG (lL rR.lt lR)) (nA lPR (fun j hj => (lE (lL (OF.lt FR (Nat.lt_of_lt_of_eq hj lDR.symm)) lR))) nN)))
 refine WL.det (op_load1 (i := 1) rfl Try.isAgg25 r2.rng rfl rfl) rfl rfl rfl ?_
 refine WL.det (op_move rfl) rfl rfl rfl ?_
 have r3 := ((rL.ext m1).mod m2 (nC (Ne.symm eRL) (nA lPR (fun j hj => (gRL j hj)) nN)))
 refine WL.call (oc_call (vs := [vS bL 0 nL cL, vI ((z2 : Nat) : Int)]) (cap := []) rfl rfl rfl Try.call86 (c_markRingS nL cL bL GL PL loL z2 lDL lPL (by assumption) (by omega) (by omega) w2 r3 ((FL.ext m1).mod m2 (fun j hj => (nC (gLR j (Nat.lt_of_lt_of_eq hj lDL)) (nA lPR (fun q hq => Ne.symm (Ne.symm (gPP q j hq (Nat.lt_of_lt_of_eq hj lDL)))) nN)))) (fun j hj => (gLL j hj)))) rfl rfl (ltb rfl) ?_
 rintro _ w3 ⟨z3, rfl, h2, m3⟩
 refine WL.det (op_assign rfl) rfl rfl rfl ?_
 refine WL.end (NE.code (CE.seq (CE.region ?_)))
 refine WL.det (op_fieldAddr (off' := 2) rfl Try.runUnderlying33 rfl rfl Try.sizeOf26 rfl) rfl rfl rfl ?_
 have r4 := (r2.mod m3 (nC (lG (lL rL.lt lR)) (nA lPL (fun j hj => (lE (lL (OF.lt FL (Nat.lt_of_lt_of_eq hj lDL.symm)) lR))) nN)))
 refine WL.det (op_load1 (i := 2) rfl Try.isAgg26 r4.rng rfl rfl) rfl rfl rfl ?_
 refine WL.det (op_move rfl) rfl rfl rfl ?_
 have r5 := (((rS.ext m1).mod m2 (nC (Ne.symm eRS) (nA lPR (fun j hj => (gRS j hj)) nN))).mod m3 (nC (Ne.symm eLS) (nA lPL (fun j hj => (gLS j hj)) nN)))
 refine WL.call (oc_call (vs := [vS bS 0 nS cS, vI ((z3 : Nat) : Int)]) (cap := []) rfl rfl rfl Try.call51 (c_mark32 nS cS (some ⟨bS, 0, none⟩) bS 0 xS z3 lnS (fun _ => rfl) (by first | assumption | omega) (by first | assumption | omega) w3 r5)) rfl rfl (ltb rfl) ?_
 rintro _ w4 ⟨rfl, r6, m4⟩
 refine WL.det (op_assign rfl) rfl rfl rfl ?_
 refine WL.end (NE.code (CE.seq (CE.region ?_)))
 refine WL.det (op_move rfl) rfl rfl rfl ?_
 refine WL.det (op_assign rfl) rfl rfl rfl ?_
 refine WL.end (NE.code (CE.ret' ?_))
 refine XE.leave1 Try.results29 rfl ?_
 refine ⟨(z3 + nS), rfl, ?_, (((((Mod.refl (bR :: bL :: bS :: (PR.map BC.b ++ (PL.map BC.b ++ []))) w).nt m1).then m2 ((aC (.inl (by simp)) (aI (fun x hx => by simp only [List.mem_cons, List.mem_append, hx, true_or, or_true]) aN)))).then m3 ((aC (.inl (by simp)) (aI (fun x hx => by simp only [List.mem_cons, List.mem_append, hx, true_or, or_true]) aN)))).then m4 ((aC (.inl (by simp)) aN)))⟩
 all_goals omega

theorem c_l04Ok_bad (nR : Nat) (cR : Nat) (AR : Option Addr) (nL : Nat) (cL : Nat) (AL : Option Addr) (nS : Nat) (cS : Nat) (AS : Option Addr) (k : Int) (kc0 : Nat) (kc1 : Nat) (kc2 : Nat) (ks0 : Nat) (ks1 : Nat) (op : Bool) (lo : Nat) (re : Nat) (sl : Nat) (p : Nat) (hv : ¬ (1 ≤ nR ∧ nR ≤ 3 ∧ nL = nR ∧ nS + 1 = nR)) (mR : nR ≤ 1048576) (mL : nL ≤ 1048576) (mS : nS ≤ 1048576) (w : World) (q : Rng w p 0 [.slice AR nR cR, .slice AL nL cL, .slice AS nS cS, vI k, vF kc0, vF kc1, vF kc2, vF ks0, vF ks1, .bool op, vF lo, vF re, vF sl]) : Cl Try.prog 57 #[vP p 0] w fun v w' => v = .bool false ∧ Mod [] w w' := by
 refine Cl.of Try.func57 Try.ntmps57 rfl rfl (ρ := [(0, vP p 0)]) rfl ?_
 refine CE.seq (CE.region ?_)
 refine WL.det (op_assign rfl) rfl rfl rfl ?_
 refine WL.end (NE.code (CE.seq (CE.region ?_)))
 refine WL.det (op_move rfl) rfl rfl rfl ?_
 refine WL.det (op_nilCheck rfl) rfl rfl rfl ?_
 refine WL.det (op_fieldAddr (off' := 0) rfl Try.runUnderlying33 rfl rfl Try.sizeOf25 rfl) rfl rfl rfl ?_
 refine WL.det (op_load1 (i := 0) rfl Try.isAgg25 q rfl rfl) rfl rfl rfl ?_
 refine WL.det (op_len rfl Try.runUnderlying25) rfl rfl rfl ?_
 refine WL.det (op_assign rfl) rfl rfl rfl ?_
 refine WL.end (NE.code (CE.seq (CE.seq (CE.region ?_))))
 refine WL.det (op_move rfl) rfl rfl rfl ?_
 refine WL.det (op_lti rfl rfl) rfl rfl rfl ?_
 refine WL.det (op_move rfl) rfl rfl rfl ?_
 rcases Bool.eq_false_or_eq_true (decide (((nR : Nat) : Int) < (1 : Int))) with hb1 | hb1
 ·have hp1 := of_decide_eq_true hb1
  iterate 2 refine WL.no rfl rfl rfl (ltb rfl) rfl hb1 rfl (ltb rfl) ?_
  refine WL.det (op_pick_t rfl hb1 rfl) rfl rfl rfl ?_
  refine WL.det (op_move rfl) rfl rfl rfl ?_
  iterate 7 refine WL.no rfl rfl rfl (ltb rfl) rfl rfl rfl (ltb rfl) ?_
  refine WL.det (op_pick_t rfl rfl rfl) rfl rfl rfl ?_
  refine WL.det (op_move rfl) rfl rfl rfl ?_
  iterate 8 refine WL.no rfl rfl rfl (ltb rfl) rfl rfl rfl (ltb rfl) ?_
  refine WL.det (op_pick_t rfl rfl rfl) rfl rfl rfl ?_
  refine WL.det (op_move rfl) rfl rfl rfl ?_
  iterate 6 refine WL.no rfl rfl rfl (ltb rfl) rfl rfl rfl (ltb rfl) ?_
  refine WL.det (op_pick_t rfl rfl rfl) rfl rfl rfl ?_
  refine WL.det (op_move rfl) rfl rfl rfl ?_
  iterate 6 refine WL.no rfl rfl rfl (ltb rfl) rfl rfl rfl (ltb rfl) ?_
  refine WL.det (op_pick_t rfl rfl rfl) rfl rfl rfl ?_
  refine WL.end (NE.code ?_)
  refine CE.cond_t rfl rfl ?_
  refine CE.seq (CE.region ?_)
  refine WL.det (op_assign rfl) rfl rfl rfl ?_
  refine WL.end (NE.code (CE.ret' (XE.ret_then ?_)))
  refine XE.leave1 Try.results57 rfl ?_
  refine ⟨rfl, (Mod.refl [] w)⟩
 ·have hp1 := of_decide_eq_false hb1
  refine WL.yes rfl rfl rfl (ltb rfl) rfl hb1 ?_
  refine WL.det (op_move rfl) rfl rfl rfl ?_
  refine WL.yes rfl rfl rfl (ltb rfl) rfl hb1 ?_
  refine WL.det (op_gti rfl rfl) rfl rfl rfl ?_
  refine WL.det (op_pick_f rfl hb1 rfl) rfl rfl rfl ?_
  refine WL.det (op_move rfl) rfl rfl rfl ?_
  rcases Bool.eq_false_or_eq_true (decide ((3 : Int) < ((nR : Nat) : Int))) with hb2 | hb2
  ·have hp2 := of_decide_eq_true hb2
   iterate 7 refine WL.no rfl rfl rfl (ltb rfl) rfl hb2 rfl (ltb rfl) ?_
   refine WL.det (op_pick_t rfl hb2 rfl) rfl rfl rfl ?_
   refine WL.det (op_move rfl) rfl rfl rfl ?_
   iterate 8 refine WL.no rfl rfl rfl (ltb rfl) rfl rfl rfl (ltb rfl) ?_
   refine WL.det (op_pick_t rfl rfl rfl) rfl rfl rfl ?_
   refine WL.det (op_move rfl) rfl rfl rfl ?_
   iterate 6 refine WL.no rfl rfl rfl (ltb rfl) rfl rfl rfl (ltb rfl) ?_
   refine WL.det (op_pick_t rfl rfl rfl) rfl rfl rfl ?_
   refine WL.det (op_move rfl) rfl rfl rfl ?_
   iterate 6 refine WL.no rfl rfl rfl (ltb rfl) rfl rfl rfl (ltb rfl) ?_
   refine WL.det (op_pick_t rfl rfl rfl) rfl rfl rfl ?_
   refine WL.end (NE.code ?_)
   refine CE.cond_t rfl rfl ?_
   refine CE.seq (CE.region ?_)
   refine WL.det (op_assign rfl) rfl rfl rfl ?_
   refine WL.end (NE.code (CE.ret' (XE.ret_then ?_)))
   refine XE.leave1 Try.results57 rfl ?_
   refine ⟨rfl, (Mod.refl [] w)⟩
  ·have hp2 := of_decide_eq_false hb2
   refine WL.yes rfl rfl rfl (ltb rfl) rfl hb2 ?_
   refine WL.det (op_move rfl) rfl rfl rfl ?_
   refine WL.yes rfl rfl rfl (ltb rfl) rfl hb2 ?_
   refine WL.det (op_nilCheck rfl) rfl rfl rfl ?_
   refine WL.yes rfl rfl rfl (ltb rfl) rfl hb2 ?_
   refine WL.det (op_fieldAddr (off' := 1) rfl Try.runUnderlying33 rfl rfl Try.sizeOf25 rfl) rfl rfl rfl ?_
   refine WL.yes rfl rfl rfl (ltb rfl) rfl hb2 ?_
   refine WL.det (op_load1 (i := 1) rfl Try.isAgg25 q rfl rfl) rfl rfl rfl ?_
   refine WL.yes rfl rfl rfl (ltb rfl) rfl hb2 ?_
   refine WL.det (op_len rfl Try.runUnderlying25) rfl rfl rfl ?_
   refine WL.yes rfl rfl rfl (ltb rfl) rfl hb2 ?_
   refine WL.det (op_move rfl) rfl rfl rfl ?_
   refine WL.yes rfl rfl rfl (ltb rfl) rfl hb2 ?_
   refine WL.det (op_nei rfl rfl) rfl rfl rfl ?_
   refine WL.det (op_pick_f rfl hb2 rfl) rfl rfl rfl ?_
   refine WL.det (op_move rfl) rfl rfl rfl ?_
   rcases Bool.eq_false_or_eq_true ((((nL : Nat) : Int) != ((nR : Nat) : Int))) with hb3 | hb3
   ·have hp3 := bne_iff_ne.1 hb3
    iterate 8 refine WL.no rfl rfl rfl (ltb rfl) rfl hb3 rfl (ltb rfl) ?_
    refine WL.det (op_pick_t rfl hb3 rfl) rfl rfl rfl ?_
    refine WL.det (op_move rfl) rfl rfl rfl ?_
    iterate 6 refine WL.no rfl rfl rfl (ltb rfl) rfl rfl rfl (ltb rfl) ?_
    refine WL.det (op_pick_t rfl rfl rfl) rfl rfl rfl ?_
    refine WL.det (op_move rfl) rfl rfl rfl ?_
    iterate 6 refine WL.no rfl rfl rfl (ltb rfl) rfl rfl rfl (ltb rfl) ?_
    refine WL.det (op_pick_t rfl rfl rfl) rfl rfl rfl ?_
    refine WL.end (NE.code ?_)
    refine CE.cond_t rfl rfl ?_
    refine CE.seq (CE.region ?_)
    refine WL.det (op_assign rfl) rfl rfl rfl ?_
    refine WL.end (NE.code (CE.ret' (XE.ret_then ?_)))
    refine XE.leave1 Try.results57 rfl ?_
    refine ⟨rfl, (Mod.refl [] w)⟩
   ·have hp3 := bne_eq_false_iff_eq.1 hb3
    refine WL.yes rfl rfl rfl (ltb rfl) rfl hb3 ?_
    refine WL.det (op_move rfl) rfl rfl rfl ?_
    refine WL.yes rfl rfl rfl (ltb rfl) rfl hb3 ?_
    refine WL.det (op_nilCheck rfl) rfl rfl rfl ?_
    refine WL.yes rfl rfl rfl (ltb rfl) rfl hb3 ?_
    refine WL.det (op_fieldAddr (off' := 2) rfl Try.runUnderlying33 rfl rfl Try.sizeOf26 rfl) rfl rfl rfl ?_
    refine WL.yes rfl rfl rfl (ltb rfl) rfl hb3 ?_
    refine WL.det (op_load1 (i := 2) rfl Try.isAgg26 q rfl rfl) rfl rfl rfl ?_
    refine WL.yes rfl rfl rfl (ltb rfl) rfl hb3 ?_
    refine WL.det (op_len rfl Try.runUnderlying26) rfl rfl rfl ?_
    refine WL.yes rfl rfl rfl (ltb rfl) rfl hb3 ?_
    refine WL.det (op_move rfl) rfl rfl rfl ?_
    refine WL.yes rfl rfl rfl (ltb rfl) rfl hb3 ?_
    refine WL.det (op_sub (r := (((nR : Nat) : Int) - (1 : Int))) rfl rfl (w_i64 (by omega) (by omega))) rfl rfl rfl ?_
    refine WL.yes rfl rfl rfl (ltb rfl) rfl hb3 ?_
    refine WL.det (op_nei rfl rfl) rfl rfl rfl ?_
    refine WL.det (op_pick_f rfl hb3 rfl) rfl rfl rfl ?_
    refine WL.det (op_move rfl) rfl rfl rfl ?_
    iterate 6 refine WL.no rfl rfl rfl (ltb rfl) rfl (bne_iff_ne.2 (by omega)) rfl (ltb rfl) ?_
    refine WL.det (op_pick_t rfl (bne_iff_ne.2 (by omega)) rfl) rfl rfl rfl ?_
    refine WL.det (op_move rfl) rfl rfl rfl ?_
    iterate 6 refine WL.no rfl rfl rfl (ltb rfl) rfl rfl rfl (ltb rfl) ?_
    refine WL.det (op_pick_t rfl rfl rfl) rfl rfl rfl ?_
    refine WL.end (NE.code ?_)
    refine CE.cond_t rfl rfl ?_
    refine CE.seq (CE.region ?_)
    refine WL.det (op_assign rfl) rfl rfl rfl ?_
    refine WL.end (NE.code (CE.ret' (XE.ret_then ?_)))
    refine XE.leave1 Try.results57 rfl ?_
    refine ⟨rfl, (Mod.refl [] w)⟩

theorem c_ValidPipe_bad (nR : Nat) (cR : Nat) (AR : Option Addr) (nL : Nat) (cL : Nat) (AL : Option Addr) (nS : Nat) (cS : Nat) (AS : Option Addr) (k : Int) (kc0 : Nat) (kc1 : Nat) (kc2 : Nat) (ks0 : Nat) (ks1 : Nat) (op : Bool) (lo : Nat) (re : Nat) (sl : Nat) (hv : ¬ (1 ≤ nR ∧ nR ≤ 3 ∧ nL = nR ∧ nS + 1 = nR)) (mR : nR ≤ 1048576) (mL : nL ≤ 1048576) (mS : nS ≤ 1048576) (w : World) : Cl Try.prog 44 #[.agg #[.slice AR nR cR, .slice AL nL cL, .slice AS nS cS, vI k, vF kc0, vF kc1, vF kc2, vF ks0, vF ks1, .bool op, vF lo, vF re, vF sl]] w fun v w' => v = .bool false ∧ Mod [] w w' := by
 refine Cl.of Try.func44 Try.ntmps44 rfl rfl (ρ := [(0, .agg #[.slice AR nR cR, .slice AL nL cL, .slice AS nS cS, vI k, vF kc0, vF kc1, vF kc2, vF ks0, vF ks1, .bool op, vF lo, vF re, vF sl])]) rfl ?_
 refine CE.seq (CE.region ?_)
 refine WL.op (op_box (cs := [.slice AR nR cR, .slice AL nL cL, .slice AS nS cS, vI k, vF kc0, vF kc1, vF kc2, vF ks0, vF ks1, .bool op, vF lo, vF re, vF sl]) rfl rfl) rfl rfl (ltb rfl) ?_
 rintro _ w1 ⟨rfl, r1, m1, z1⟩
 refine WL.det (op_assign rfl) rfl rfl rfl ?_
 refine WL.end (NE.code (CE.seq (CE.region ?_)))
 refine WL.det (op_fieldAddr (off' := 0) rfl Try.runUnderlying33 rfl rfl Try.sizeOf25 rfl) rfl rfl rfl ?_
 refine WL.det (op_load1 (i := 0) rfl Try.isAgg25 r1.rng rfl rfl) rfl rfl rfl ?_
 refine WL.det (op_len rfl Try.runUnderlying25) rfl rfl rfl ?_
 refine WL.det (op_assign rfl) rfl rfl rfl ?_
 refine WL.end (NE.code (CE.seq (CE.seq (CE.region ?_))))
 refine WL.det (op_move rfl) rfl rfl rfl ?_
 refine WL.call (oc_call (vs := [vI ((nR : Nat) : Int), vI 1, vI 3]) (cap := []) rfl rfl rfl Try.call62 (c_within ((nR : Nat) : Int) (1 : Int) (3 : Int) w1)) rfl rfl (ltb rfl) ?_
 rintro _ _ ⟨rfl, rfl⟩
 refine WL.det (op_not rfl) rfl rfl rfl ?_
 refine WL.det (op_move rfl) rfl rfl rfl ?_
 rcases Bool.eq_false_or_eq_true (vIn ((nR : Nat) : Int) (1 : Int) (3 : Int)) with hb1 | hb1
 ·have hp1 := hb1; try simp only [Bool.and_eq_true, Bool.or_eq_true, Bool.not_eq_true', Bool.not_eq_false', Bool.and_eq_false_iff, Bool.or_eq_false_iff, decide_eq_true_eq, decide_eq_false_iff_not, beq_iff_eq, bne_iff_ne, beq_eq_false_iff_ne, bne_eq_false_iff_eq, ne_eq, Bool.false_eq_true, not_false_eq_true, not_true_eq_false, vIn_t, vIn_f] at hp1
  refine WL.yes rfl rfl rfl (ltb rfl) rfl (bnot_t hb1) ?_
  refine WL.det (op_fieldAddr (off' := 1) rfl Try.runUnderlying33 rfl rfl Try.sizeOf25 rfl) rfl rfl rfl ?_
  refine WL.yes rfl rfl rfl (ltb rfl) rfl (bnot_t hb1) ?_
  refine WL.det (op_load1 (i := 1) rfl Try.isAgg25 r1.rng rfl rfl) rfl rfl rfl ?_
  refine WL.yes rfl rfl rfl (ltb rfl) rfl (bnot_t hb1) ?_
  refine WL.det (op_len rfl Try.runUnderlying25) rfl rfl rfl ?_
  refine WL.yes rfl rfl rfl (ltb rfl) rfl (bnot_t hb1) ?_
  refine WL.det (op_move rfl) rfl rfl rfl ?_
  refine WL.yes rfl rfl rfl (ltb rfl) rfl (bnot_t hb1) ?_
  refine WL.det (op_nei rfl rfl) rfl rfl rfl ?_
  refine WL.det (op_pick_f rfl (bnot_t hb1) rfl) rfl rfl rfl ?_
  refine WL.det (op_move rfl) rfl rfl rfl ?_
  rcases Bool.eq_false_or_eq_true ((((nL : Nat) : Int) != ((nR : Nat) : Int))) with hb2 | hb2
  ·have hp2 := bne_iff_ne.1 hb2
   iterate 6 refine WL.no rfl rfl rfl (ltb rfl) rfl hb2 rfl (ltb rfl) ?_
   refine WL.det (op_pick_t rfl hb2 rfl) rfl rfl rfl ?_
   refine WL.det (op_move rfl) rfl rfl rfl ?_
   iterate 4 refine WL.no rfl rfl rfl (ltb rfl) rfl rfl rfl (ltb rfl) ?_
   refine WL.det (op_pick_t rfl rfl rfl) rfl rfl rfl ?_
   refine WL.det (op_move rfl) rfl rfl rfl ?_
   iterate 9 refine WL.no rfl rfl rfl (ltb rfl) rfl rfl rfl (ltb rfl) ?_
   refine WL.det (op_pick_t rfl rfl rfl) rfl rfl rfl ?_
   refine WL.end (NE.code ?_)
   refine CE.cond_t rfl rfl ?_
   refine CE.seq (CE.region ?_)
   refine WL.det (op_assign rfl) rfl rfl rfl ?_
   refine WL.end (NE.code (CE.ret' (XE.ret_then ?_)))
   refine XE.leave1 Try.results44 rfl ?_
   refine ⟨rfl, ((Mod.refl [] w).nt m1)⟩
  ·have hp2 := bne_eq_false_iff_eq.1 hb2
   refine WL.yes rfl rfl rfl (ltb rfl) rfl hb2 ?_
   refine WL.det (op_fieldAddr (off' := 2) rfl Try.runUnderlying33 rfl rfl Try.sizeOf26 rfl) rfl rfl rfl ?_
   refine WL.yes rfl rfl rfl (ltb rfl) rfl hb2 ?_
   refine WL.det (op_load1 (i := 2) rfl Try.isAgg26 r1.rng rfl rfl) rfl rfl rfl ?_
   refine WL.yes rfl rfl rfl (ltb rfl) rfl hb2 ?_
   refine WL.det (op_len rfl Try.runUnderlying26) rfl rfl rfl ?_
   refine WL.yes rfl rfl rfl (ltb rfl) rfl hb2 ?_
   refine WL.det (op_move rfl) rfl rfl rfl ?_
   refine WL.yes rfl rfl rfl (ltb rfl) rfl hb2 ?_
   refine WL.det (op_sub (r := (((nR : Nat) : Int) - (1 : Int))) rfl rfl (w_i64 (by omega) (by omega))) rfl rfl rfl ?_
   refine WL.yes rfl rfl rfl (ltb rfl) rfl hb2 ?_
   refine WL.det (op_nei rfl rfl) rfl rfl rfl ?_
   refine WL.det (op_pick_f rfl hb2 rfl) rfl rfl rfl ?_
   refine WL.det (op_move rfl) rfl rfl rfl ?_
   iterate 4 refine WL.no rfl rfl rfl (ltb rfl) rfl (bne_iff_ne.2 (by omega)) rfl (ltb rfl) ?_
   refine WL.det (op_pick_t rfl (bne_iff_ne.2 (by omega)) rfl) rfl rfl rfl ?_
   refine WL.det (op_move rfl) rfl rfl rfl ?_
   iterate 9 refine WL.no rfl rfl rfl (ltb rfl) rfl rfl rfl (ltb rfl) ?_
   refine WL.det (op_pick_t rfl rfl rfl) rfl rfl rfl ?_
   refine WL.end (NE.code ?_)
   refine CE.cond_t rfl rfl ?_
   refine CE.seq (CE.region ?_)
   refine WL.det (op_assign rfl) rfl rfl rfl ?_
   refine WL.end (NE.code (CE.ret' (XE.ret_then ?_)))
   refine XE.leave1 Try.results44 rfl ?_
   refine ⟨rfl, ((Mod.refl [] w).nt m1)⟩
 ·have hp1 := hb1; try simp only [Bool.and_eq_true, Bool.or_eq_true, Bool.not_eq_true', Bool.not_eq_false', Bool.and_eq_false_iff, Bool.or_eq_false_iff, decide_eq_true_eq, decide_eq_false_iff_not, beq_iff_eq, bne_iff_ne, beq_eq_false_iff_ne, bne_eq_false_iff_eq, ne_eq, Bool.false_eq_true, not_false_eq_true, not_true_eq_false, vIn_t, vIn_f] at hp1
  iterate 5 refine WL.no rfl rfl rfl (ltb rfl) rfl (bnot_f hb1) rfl (ltb rfl) ?_
  refine WL.det (op_pick_t rfl (bnot_f hb1) rfl) rfl rfl rfl ?_
  refine WL.det (op_move rfl) rfl rfl rfl ?_
  iterate 6 refine WL.no rfl rfl rfl (ltb rfl) rfl rfl rfl (ltb rfl) ?_
  refine WL.det (op_pick_t rfl rfl rfl) rfl rfl rfl ?_
  refine WL.det (op_move rfl) rfl rfl rfl ?_
  iterate 4 refine WL.no rfl rfl rfl (ltb rfl) rfl rfl rfl (ltb rfl) ?_
  refine WL.det (op_pick_t rfl rfl rfl) rfl rfl rfl ?_
  refine WL.det (op_move rfl) rfl rfl rfl ?_
  iterate 9 refine WL.no rfl rfl rfl (ltb rfl) rfl rfl rfl (ltb rfl) ?_
  refine WL.det (op_pick_t rfl rfl rfl) rfl rfl rfl ?_
  refine WL.end (NE.code ?_)
  refine CE.cond_t rfl rfl ?_
  refine CE.seq (CE.region ?_)
  refine WL.det (op_assign rfl) rfl rfl rfl ?_
  refine WL.end (NE.code (CE.ret' (XE.ret_then ?_)))
  refine XE.leave1 Try.results44 rfl ?_
  refine ⟨rfl, ((Mod.refl [] w).nt m1)⟩

theorem c_markPipe_nil (q : Nat) (hq : q ≤ 1048576) (w : World) : Cl Try.prog 29 #[.agg #[.slice none 0 0, .slice none 0 0, .slice none 0 0, vI 0, vF 0, vF 0, vF 0, vF 0, vF 0, .bool false, vF 0, vF 0, vF 0], vI ((q : Nat) : Int)] w fun v w' => v = vI ((q : Nat) : Int) ∧ Mod [] w w' := by
 refine Cl.of Try.func29 Try.ntmps29 rfl rfl (ρ := [(0, .agg #[.slice none 0 0, .slice none 0 0, .slice none 0 0, vI 0, vF 0, vF 0, vF 0, vF 0, vF 0, .bool false, vF 0, vF 0, vF 0]), (1, vI ((q : Nat) : Int))]) rfl ?_
 refine CE.seq (CE.region ?_)
 refine WL.op (op_box (cs := [.slice none 0 0, .slice none 0 0, .slice none 0 0, vI 0, vF 0, vF 0, vF 0, vF 0, vF 0, .bool false, vF 0, vF 0, vF 0]) rfl rfl) rfl rfl (ltb rfl) ?_
 rintro _ w1 ⟨rfl, r1, m1, z1⟩
 refine WL.det (op_assign rfl) rfl rfl rfl ?_
 refine WL.end (NE.code (CE.seq (CE.region ?_)))
 refine WL.det (op_fieldAddr (off' := 0) rfl Try.runUnderlying33 rfl rfl Try.sizeOf25 rfl) rfl rfl rfl ?_
 refine WL.det (op_load1 (i := 0) rfl Try.isAgg25 r1.rng rfl rfl) rfl rfl rfl ?_
 refine WL.det (op_move rfl) rfl rfl rfl ?_
 refine WL.call (oc_call (vs := [.slice none 0 0, vI ((q : Nat) : Int)]) (cap := []) rfl rfl rfl Try.call86 (c_markRingS_nil q (by omega) w1)) rfl rfl (ltb rfl) ?_
 rintro _ w2 ⟨rfl, m2⟩
 refine WL.det (op_assign rfl) rfl rfl rfl ?_
 refine WL.end (NE.code (CE.seq (CE.region ?_)))
 refine WL.det (op_fieldAddr (off' := 1) rfl Try.runUnderlying33 rfl rfl Try.sizeOf25 rfl) rfl rfl rfl ?_
 refine WL.det (op_load1 (i := 1) rfl Try.isAgg25 (r1.ext m2).rng rfl rfl) rfl rfl rfl ?_
 refine WL.det (op_move rfl) rfl rfl rfl ?_
 refine WL.call (oc_call (vs := [.slice none 0 0, vI ((q : Nat) : Int)]) (cap := []) rfl rfl rfl Try.call86 (c_markRingS_nil q (by omega) w2)) rfl rfl (ltb rfl) ?_
 rintro _ w3 ⟨rfl, m3⟩
 refine WL.det (op_assign rfl) rfl rfl rfl ?_
 refine WL.end (NE.code (CE.seq (CE.region ?_)))
 refine WL.det (op_fieldAddr (off' := 2) rfl Try.runUnderlying33 rfl rfl Try.sizeOf26 rfl) rfl rfl rfl ?_
 refine WL.det (op_load1 (i := 2) rfl Try.isAgg26 ((r1.ext m2).ext m3).rng rfl rfl) rfl rfl rfl ?_
 refine WL.det (op_move rfl) rfl rfl rfl ?_
 refine WL.call (oc_call (vs := [.slice none 0 0, vI ((q : Nat) : Int)]) (cap := []) rfl rfl rfl Try.call51 (c_mark32_nil q w3)) rfl rfl (ltb rfl) ?_
 rintro _ _ ⟨rfl, rfl⟩
 refine WL.det (op_assign rfl) rfl rfl rfl ?_
 refine WL.end (NE.code (CE.seq (CE.region ?_)))
 refine WL.det (op_move rfl) rfl rfl rfl ?_
 refine WL.det (op_assign rfl) rfl rfl rfl ?_
 refine WL.end (NE.code (CE.ret' ?_))
 refine XE.leave1 Try.results29 rfl ?_
 refine ⟨rfl, ((((Mod.refl [] w).nt m1).nt m2).nt m3)⟩

theorem c_heldPipe_nil (q : Nat) (hq : q ≤ 1048576) (w : World) : Cl Try.prog 30 #[.agg #[.slice none 0 0, .slice none 0 0, .slice none 0 0, vI 0, vF 0, vF 0, vF 0, vF 0, vF 0, .bool false, vF 0, vF 0, vF 0], vI ((q : Nat) : Int)] w fun v w' => v = vI ((q : Nat) : Int) ∧ Mod [] w w' := by
 refine Cl.of Try.func30 Try.ntmps30 rfl rfl (ρ := [(0, .agg #[.slice none 0 0, .slice none 0 0, .slice none 0 0, vI 0, vF 0, vF 0, vF 0, vF 0, vF 0, .bool false, vF 0, vF 0, vF 0]), (1, vI ((q : Nat) : Int))]) rfl ?_
 refine CE.seq (CE.region ?_)
 refine WL.op (op_box (cs := [.slice none 0 0, .slice none 0 0, .slice none 0 0, vI 0, vF 0, vF 0, vF 0, vF 0, vF 0, .bool false, vF 0, vF 0, vF 0]) rfl rfl) rfl rfl (ltb rfl) ?_
 rintro _ w1 ⟨rfl, r1, m1, z1⟩
 refine WL.det (op_assign rfl) rfl rfl rfl ?_
 refine WL.end (NE.code (CE.seq (CE.region ?_)))
 refine WL.det (op_fieldAddr (off' := 0) rfl Try.runUnderlying33 rfl rfl Try.sizeOf25 rfl) rfl rfl rfl ?_
 refine WL.det (op_load1 (i := 0) rfl Try.isAgg25 r1.rng rfl rfl) rfl rfl rfl ?_
 refine WL.det (op_move rfl) rfl rfl rfl ?_
 refine WL.call (oc_call (vs := [.slice none 0 0, vI ((q : Nat) : Int)]) (cap := []) rfl rfl rfl Try.call87 (c_heldRingS_nil q (by omega) w1)) rfl rfl (ltb rfl) ?_
 rintro _ w2 ⟨rfl, m2⟩
 refine WL.det (op_assign rfl) rfl rfl rfl ?_
 refine WL.end (NE.code (CE.seq (CE.seq (CE.region ?_))))
 refine WL.det (op_move rfl) rfl rfl rfl ?_
 refine WL.det (op_lti_f rfl rfl (Int.not_lt.2 (Int.natCast_nonneg _))) rfl rfl rfl ?_
 refine WL.end (NE.code ?_)
 refine CE.cond_f rfl rfl ?_
 refine CE.skip' (NE.code (CE.seq (CE.region ?_)))
 refine WL.det (op_fieldAddr (off' := 1) rfl Try.runUnderlying33 rfl rfl Try.sizeOf25 rfl) rfl rfl rfl ?_
 refine WL.det (op_load1 (i := 1) rfl Try.isAgg25 (r1.ext m2).rng rfl rfl) rfl rfl rfl ?_
 refine WL.det (op_move rfl) rfl rfl rfl ?_
 refine WL.call (oc_call (vs := [.slice none 0 0, vI ((q : Nat) : Int)]) (cap := []) rfl rfl rfl Try.call87 (c_heldRingS_nil q (by omega) w2)) rfl rfl (ltb rfl) ?_
 rintro _ w3 ⟨rfl, m3⟩
 refine WL.det (op_assign rfl) rfl rfl rfl ?_
 refine WL.end (NE.code (CE.seq (CE.seq (CE.region ?_))))
 refine WL.det (op_move rfl) rfl rfl rfl ?_
 refine WL.det (op_lti_f rfl rfl (Int.not_lt.2 (Int.natCast_nonneg _))) rfl rfl rfl ?_
 refine WL.end (NE.code ?_)
 refine CE.cond_f rfl rfl ?_
 refine CE.skip' (NE.code (CE.seq (CE.region ?_)))
 refine WL.det (op_fieldAddr (off' := 2) rfl Try.runUnderlying33 rfl rfl Try.sizeOf26 rfl) rfl rfl rfl ?_
 refine WL.det (op_load1 (i := 2) rfl Try.isAgg26 ((r1.ext m2).ext m3).rng rfl rfl) rfl rfl rfl ?_
 refine WL.det (op_move rfl) rfl rfl rfl ?_
 refine WL.call (oc_call (vs := [.slice none 0 0, vI ((q : Nat) : Int)]) (cap := []) rfl rfl rfl Try.call52 (c_held32 0 0 none 0 0 [] q rfl (fun h => absurd h (Nat.lt_irrefl _)) (by first | assumption | omega) (by first | assumption | omega) (by first | assumption | exact marks_held _ _ _ | exact (hh _ (by omega)).1 | (rw [sumK_marks lZR lZL]; exact marks_held _ _ _)) w3 (Rng.nil _ _ _))) rfl rfl (ltb rfl) ?_
 rintro _ w4 ⟨rfl, m4⟩
 refine WL.det (op_assign rfl) rfl rfl rfl ?_
 refine WL.end (NE.code (CE.seq (CE.seq (CE.region ?_))))
 refine WL.det (op_move rfl) rfl rfl rfl ?_
 refine WL.det (op_lti_f rfl rfl (Int.not_lt.2 (Int.natCast_nonneg _))) rfl rfl rfl ?_
 refine WL.end (NE.code ?_)
 refine CE.cond_f rfl rfl ?_
 refine CE.skip' (NE.code (CE.seq (CE.region ?_)))
 refine WL.det (op_move rfl) rfl rfl rfl ?_
 refine WL.det (op_assign rfl) rfl rfl rfl ?_
 refine WL.end (NE.code (CE.ret' ?_))
 refine XE.leave1 Try.results30 rfl ?_
 refine ⟨?_, (((((Mod.refl [] w).nt m1).nt m2).nt m3).nt m4)⟩
 all_goals simp_all

theorem c_eqPipe_nil (w : World) : Cl Try.prog 28 #[.agg #[.slice none 0 0, .slice none 0 0, .slice none 0 0, vI 0, vF 0, vF 0, vF 0, vF 0, vF 0, .bool false, vF 0, vF 0, vF 0], .agg #[.slice none 0 0, .slice none 0 0, .slice none 0 0, vI 0, vF 0, vF 0, vF 0, vF 0, vF 0, .bool false, vF 0, vF 0, vF 0]] w fun v w' => v = .bool true ∧ Mod [] w w' := by
 refine Cl.of Try.func28 Try.ntmps28 rfl rfl (ρ := [(0, .agg #[.slice none 0 0, .slice none 0 0, .slice none 0 0, vI 0, vF 0, vF 0, vF 0, vF 0, vF 0, .bool false, vF 0, vF 0, vF 0]), (1, .agg #[.slice none 0 0, .slice none 0 0, .slice none 0 0, vI 0, vF 0, vF 0, vF 0, vF 0, vF 0, .bool false, vF 0, vF 0, vF 0])]) rfl ?_
 refine CE.seq (CE.region ?_)
 refine WL.op (op_box (cs := [.slice none 0 0, .slice none 0 0, .slice none 0 0, vI 0, vF 0, vF 0, vF 0, vF 0, vF 0, .bool false, vF 0, vF 0, vF 0]) rfl rfl) rfl rfl (ltb rfl) ?_
 rintro _ w1 ⟨rfl, r1, m1, z1⟩
 refine WL.op (op_box (cs := [.slice none 0 0, .slice none 0 0, .slice none 0 0, vI 0, vF 0, vF 0, vF 0, vF 0, vF 0, .bool false, vF 0, vF 0, vF 0]) rfl rfl) rfl rfl (ltb rfl) ?_
 rintro _ w2 ⟨rfl, r2, m2, z2⟩
 refine WL.det (op_assign rfl) rfl rfl rfl ?_
 refine WL.end (NE.code (CE.seq (CE.seq (CE.region ?_))))
 refine WL.det (op_fieldAddr (off' := 0) rfl Try.runUnderlying33 rfl rfl Try.sizeOf25 rfl) rfl rfl rfl ?_
 refine WL.det (op_load1 (i := 0) rfl Try.isAgg25 (r1.ext m2).rng rfl rfl) rfl rfl rfl ?_
 refine WL.det (op_fieldAddr (off' := 0) rfl Try.runUnderlying33 rfl rfl Try.sizeOf25 rfl) rfl rfl rfl ?_
 refine WL.det (op_load1 (i := 0) rfl Try.isAgg25 r2.rng rfl rfl) rfl rfl rfl ?_
 refine WL.call (oc_call (vs := [.slice none 0 0, .slice none 0 0]) (cap := []) rfl rfl rfl Try.call84 (c_eqRingS_nil w2)) rfl rfl (ltb rfl) ?_
 rintro _ w3 ⟨rfl, m3⟩
 refine WL.det (op_not rfl) rfl rfl rfl ?_
 refine WL.end (NE.code ?_)
 refine CE.cond_f rfl rfl ?_
 refine CE.skip' (NE.code (CE.seq (CE.seq (CE.region ?_))))
 refine WL.det (op_fieldAddr (off' := 1) rfl Try.runUnderlying33 rfl rfl Try.sizeOf25 rfl) rfl rfl rfl ?_
 refine WL.det (op_load1 (i := 1) rfl Try.isAgg25 ((r1.ext m2).ext m3).rng rfl rfl) rfl rfl rfl ?_
 refine WL.det (op_fieldAddr (off' := 1) rfl Try.runUnderlying33 rfl rfl Try.sizeOf25 rfl) rfl rfl rfl ?_
 refine WL.det (op_load1 (i := 1) rfl Try.isAgg25 (r2.ext m3).rng rfl rfl) rfl rfl rfl ?_
 refine WL.call (oc_call (vs := [.slice none 0 0, .slice none 0 0]) (cap := []) rfl rfl rfl Try.call84 (c_eqRingS_nil w3)) rfl rfl (ltb rfl) ?_
 rintro _ w4 ⟨rfl, m4⟩
 refine WL.det (op_not rfl) rfl rfl rfl ?_
 refine WL.end (NE.code ?_)
 refine CE.cond_f rfl rfl ?_
 refine CE.skip' (NE.code (CE.seq (CE.seq (CE.region ?_))))
 refine WL.det (op_fieldAddr (off' := 2) rfl Try.runUnderlying33 rfl rfl Try.sizeOf26 rfl) rfl rfl rfl ?_
 have r3 := (((r1.ext m2).ext m3).ext m4)
 refine WL.det (op_load1 (i := 2) rfl Try.isAgg26 r3.rng rfl rfl) rfl rfl rfl ?_
 refine WL.det (op_fieldAddr (off' := 2) rfl Try.runUnderlying33 rfl rfl Try.sizeOf26 rfl) rfl rfl rfl ?_
 refine WL.det (op_load1 (i := 2) rfl Try.isAgg26 ((r2.ext m3).ext m4).rng rfl rfl) rfl rfl rfl ?_
 refine WL.call (oc_call (vs := [.slice none 0 0, .slice none 0 0]) (cap := []) rfl rfl rfl Try.call50 (c_eq32_same 0 0 none 0 0 [] 0 none 0 0 rfl (fun h => absurd h (Nat.lt_irrefl _)) (fun h => absurd h (Nat.lt_irrefl _)) (by omega) w4 (Rng.nil _ _ _) (Rng.nil _ _ _))) rfl rfl (ltb rfl) ?_
 rintro _ w5 ⟨rfl, m5⟩
 refine WL.det (op_not rfl) rfl rfl rfl ?_
 refine WL.end (NE.code ?_)
 refine CE.cond_f rfl rfl ?_
 refine CE.skip' (NE.code (CE.seq (CE.seq (CE.region ?_))))
 refine WL.det (op_fieldAddr (off' := 3) rfl Try.runUnderlying33 rfl rfl Try.sizeOf31 rfl) rfl rfl rfl ?_
 refine WL.det (op_loadA (i := 3) (cs := [vI 0, vF 0, vF 0, vF 0, vF 0, vF 0]) rfl Try.isAgg31 Try.sizeOf31 (r3.ext m5).rng rfl rfl rfl) rfl rfl rfl ?_
 refine WL.det (op_fieldAddr (off' := 3) rfl Try.runUnderlying33 rfl rfl Try.sizeOf31 rfl) rfl rfl rfl ?_
 have r4 := (((r2.ext m3).ext m4).ext m5)
 refine WL.det (op_loadA (i := 3) (cs := [vI 0, vF 0, vF 0, vF 0, vF 0, vF 0]) rfl Try.isAgg31 Try.sizeOf31 r4.rng rfl rfl rfl) rfl rfl rfl ?_
 refine WL.call (oc_call (vs := [.agg #[vI 0, vF 0, vF 0, vF 0, vF 0, vF 0], .agg #[vI 0, vF 0, vF 0, vF 0, vF 0, vF 0]]) (cap := []) rfl rfl rfl Try.call85 (c_eqFilter (0 : Int) 0 0 0 0 0 0 0 0 0 0 0 0 0 0 0 rfl rfl rfl rfl rfl rfl rfl rfl rfl rfl w5)) rfl rfl (ltb rfl) ?_
 rintro _ w6 ⟨rfl, m6⟩
 refine WL.det (op_not rfl) rfl rfl rfl ?_
 refine WL.end (NE.code ?_)
 refine CE.cond_f rfl rfl ?_
 refine CE.skip' (NE.code (CE.seq (CE.seq (CE.region ?_))))
 refine WL.det (op_fieldAddr (off' := 9) rfl Try.runUnderlying33 rfl rfl Try.sizeOf4 rfl) rfl rfl rfl ?_
 refine WL.det (op_load1 (i := 9) rfl Try.isAgg4 ((r3.ext m5).ext m6).rng rfl rfl) rfl rfl rfl ?_
 refine WL.det (op_fieldAddr (off' := 9) rfl Try.runUnderlying33 rfl rfl Try.sizeOf4 rfl) rfl rfl rfl ?_
 refine WL.det (op_load1 (i := 9) rfl Try.isAgg4 (r4.ext m6).rng rfl rfl) rfl rfl rfl ?_
 refine WL.det (op_neb_same rfl rfl Try.underlying4) rfl rfl rfl ?_
 refine WL.end (NE.code ?_)
 refine CE.cond_f rfl rfl ?_
 refine CE.skip' (NE.code (CE.seq (CE.seq (CE.region ?_))))
 refine WL.det (op_fieldAddr (off' := 10) rfl Try.runUnderlying33 rfl rfl Try.sizeOf27 rfl) rfl rfl rfl ?_
 refine WL.det (op_load1 (i := 10) rfl Try.isAgg27 ((r3.ext m5).ext m6).rng rfl rfl) rfl rfl rfl ?_
 refine WL.op (op_widen (e := (wide 0)) rfl rfl Try.runUnderlying27 Try.runUnderlying78 rfl) rfl rfl (ltb rfl) ?_
 rintro _ w7 ⟨⟨f1, rfl, hf1, lf1⟩, m7⟩
 refine WL.det (op_fieldAddr (off' := 10) rfl Try.runUnderlying33 rfl rfl Try.sizeOf27 rfl) rfl rfl rfl ?_
 refine WL.det (op_load1 (i := 10) rfl Try.isAgg27 ((r4.ext m6).ext m7).rng rfl rfl) rfl rfl rfl ?_
 refine WL.op (op_widen (e := (wide 0)) rfl rfl Try.runUnderlying27 Try.runUnderlying78 rfl) rfl rfl (ltb rfl) ?_
 rintro _ w8 ⟨⟨f2, rfl, hf2, lf2⟩, m8⟩
 refine WL.call (oc_call (vs := [.float .f64 f1, .float .f64 f2]) (cap := []) rfl rfl rfl Try.call48 (c_sameFloat f1 (wide 0) f2 (wide 0) hf1 hf2 w8)) rfl rfl (ltb rfl) ?_
 rintro _ w9 ⟨rfl, m9⟩
 refine WL.det (op_not rfl) rfl rfl rfl ?_
 refine WL.end (NE.code ?_)
 refine CE.cond_f rfl (bnot_t (sameF_self _)) ?_
 refine CE.skip' (NE.code (CE.seq (CE.seq (CE.region ?_))))
 refine WL.det (op_fieldAddr (off' := 11) rfl Try.runUnderlying33 rfl rfl Try.sizeOf27 rfl) rfl rfl rfl ?_
 have r5 := (((((r3.ext m5).ext m6).ext m7).ext m8).ext m9)
 refine WL.det (op_load1 (i := 11) rfl Try.isAgg27 r5.rng rfl rfl) rfl rfl rfl ?_
 refine WL.op (op_widen (e := (wide 0)) rfl rfl Try.runUnderlying27 Try.runUnderlying78 rfl) rfl rfl (ltb rfl) ?_
 rintro _ w10 ⟨⟨f3, rfl, hf3, lf3⟩, m10⟩
 refine WL.det (op_fieldAddr (off' := 11) rfl Try.runUnderlying33 rfl rfl Try.sizeOf27 rfl) rfl rfl rfl ?_
 have r6 := (((((r4.ext m6).ext m7).ext m8).ext m9).ext m10)
 refine WL.det (op_load1 (i := 11) rfl Try.isAgg27 r6.rng rfl rfl) rfl rfl rfl ?_
 refine WL.op (op_widen (e := (wide 0)) rfl rfl Try.runUnderlying27 Try.runUnderlying78 rfl) rfl rfl (ltb rfl) ?_
 rintro _ w11 ⟨⟨f4, rfl, hf4, lf4⟩, m11⟩
 refine WL.call (oc_call (vs := [.float .f64 f3, .float .f64 f4]) (cap := []) rfl rfl rfl Try.call48 (c_sameFloat f3 (wide 0) f4 (wide 0) hf3 hf4 w11)) rfl rfl (ltb rfl) ?_
 rintro _ w12 ⟨rfl, m12⟩
 refine WL.det (op_not rfl) rfl rfl rfl ?_
 refine WL.end (NE.code ?_)
 refine CE.cond_f rfl (bnot_t (sameF_self _)) ?_
 refine CE.skip' (NE.code (CE.seq (CE.seq (CE.region ?_))))
 refine WL.det (op_fieldAddr (off' := 12) rfl Try.runUnderlying33 rfl rfl Try.sizeOf27 rfl) rfl rfl rfl ?_
 have r7 := (((r5.ext m10).ext m11).ext m12)
 refine WL.det (op_load1 (i := 12) rfl Try.isAgg27 r7.rng rfl rfl) rfl rfl rfl ?_
 refine WL.op (op_widen (e := (wide 0)) rfl rfl Try.runUnderlying27 Try.runUnderlying78 rfl) rfl rfl (ltb rfl) ?_
 rintro _ w13 ⟨⟨f5, rfl, hf5, lf5⟩, m13⟩
 refine WL.det (op_fieldAddr (off' := 12) rfl Try.runUnderlying33 rfl rfl Try.sizeOf27 rfl) rfl rfl rfl ?_
 have r8 := (((r6.ext m11).ext m12).ext m13)
 refine WL.det (op_load1 (i := 12) rfl Try.isAgg27 r8.rng rfl rfl) rfl rfl rfl ?_
 refine WL.op (op_widen (e := (wide 0)) rfl rfl Try.runUnderlying27 Try.runUnderlying78 rfl) rfl rfl (ltb rfl) ?_
 rintro _ w14 ⟨⟨f6, rfl, hf6, lf6⟩, m14⟩
 refine WL.call (oc_call (vs := [.float .f64 f5, .float .f64 f6]) (cap := []) rfl rfl rfl Try.call48 (c_sameFloat f5 (wide 0) f6 (wide 0) hf5 hf6 w14)) rfl rfl (ltb rfl) ?_
 rintro _ w15 ⟨rfl, m15⟩
 refine WL.det (op_not rfl) rfl rfl rfl ?_
 refine WL.end (NE.code ?_)
 refine CE.cond_f rfl (bnot_t (sameF_self _)) ?_
 refine CE.skip' (NE.code (CE.seq (CE.region ?_)))
 refine WL.det (op_assign rfl) rfl rfl rfl ?_
 refine WL.end (NE.code (CE.ret' ?_))
 refine XE.leave1 Try.results28 rfl ?_
 refine ⟨rfl, ((((((((((((((((Mod.refl [] w).nt m1).nt m2).nt m3).nt m4).nt m5).nt m6).nt m7).nt m8).nt m9).nt m10).nt m11).nt m12).nt m13).nt m14).nt m15)⟩

end Go.Proofs.Ytnahhdnkbbdceaa
