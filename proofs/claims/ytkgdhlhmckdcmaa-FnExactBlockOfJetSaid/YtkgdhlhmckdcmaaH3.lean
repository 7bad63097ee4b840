/- What the functions on jets compute. -/
import Derived.Test.YtkgdhlhmckdcmaaH0
set_option linter.unusedVariables false
set_option linter.unusedSimpArgs false
namespace Go.Proofs.Ytkgdhlhmckdcmaa

def clampF (x b : Nat) : Nat := if fGt .f32 x b then b else if fLt .f32 x (Op.negFloat .f32 b) then Op.negFloat .f32 b else x
def jetF (x : Nat) : Nat := clampF (fop .mul .f32 x (fop .sub .f32 (fop .mul .f32 x x) 1065353216)) 1065353216
theorem jetF_lt (x : Nat) : jetF x < wid .f32 := by
  unfold jetF clampF
  split
  · decide +kernel
  · split
    · exact negFloat_lt (by decide +kernel)
    · exact fop_lt _ _ _ _
def vJet (n : Nat) (j : Int) (m : Nat) (jj : Int) (xs ys : List Nat) (lk : Int) (lc0 lc1 lc2 ls0 ls1 : Nat) (dk : Int) (dc0 dc1 dc2 ds0 ds1 ne fa : Nat) : Bool :=
  (vRingF n j xs && vRingF m jj ys) && (vFil lk lc0 lc1 lc2 ls0 ls1 && (lk == 1)) && (vFil dk dc0 dc1 dc2 ds0 ds1 && (dk == 5)) && allF [ne, fa] 2
theorem vJet_t {n : Nat} {j : Int} {m : Nat} {jj : Int} {xs ys : List Nat} {lk : Int} {lc0 lc1 lc2 ls0 ls1 : Nat} {dk : Int} {dc0 dc1 dc2 ds0 ds1 ne fa : Nat} (h : vJet n j m jj xs ys lk lc0 lc1 lc2 ls0 ls1 dk dc0 dc1 dc2 ds0 ds1 ne fa = true) : (1 ≤ n ∧ n ≤ 1024 ∧ 0 ≤ j ∧ j < n) ∧ (1 ≤ m ∧ m ≤ 1024 ∧ 0 ≤ jj ∧ jj < m) := by
  simp only [vJet, vRingF, Bool.and_eq_true] at h; exact ⟨vRing_t h.1.1.1.1.1, vRing_t h.1.1.1.2.1⟩

set_option maxRecDepth 100000 in
set_option maxHeartbeats 2000000 in
theorem c_szJet (l : Nat) (nTr : Nat) (cTr : Nat) (ATr : Option Addr) (Tj : Int) (nBr : Nat) (cBr : Nat) (ABr : Option Addr) (Bj : Int) (Lk : Int) (Lc0 : Nat) (Lc1 : Nat) (Lc2 : Nat) (Ls0 : Nat) (Ls1 : Nat) (Dk : Int) (Dc0 : Nat) (Dc1 : Nat) (Dc2 : Nat) (Ds0 : Nat) (Ds1 : Nat) (ne : Nat) (fa : Nat) (hl : nTr + nBr ≤ l) (hm : l ≤ 1048576) (w : World) : Cl Try.prog 30 #[.agg #[.slice ATr nTr cTr, vI Tj, .slice ABr nBr cBr, vI Bj, vI Lk, vF Lc0, vF Lc1, vF Lc2, vF Ls0, vF Ls1, vI Dk, vF Dc0, vF Dc1, vF Dc2, vF Ds0, vF Ds1, vF ne, vF fa], vI ((l : Nat) : Int)] w fun v w' => v = vI ((l - nTr - nBr : Nat) : Int) ∧ Mod [] w w' := by
  refine Cl.of Try.func30 Try.ntmps30 rfl rfl (ρ := [(0, .agg #[.slice ATr nTr cTr, vI Tj, .slice ABr nBr cBr, vI Bj, vI Lk, vF Lc0, vF Lc1, vF Lc2, vF Ls0, vF Ls1, vI Dk, vF Dc0, vF Dc1, vF Dc2, vF Ds0, vF Ds1, vF ne, vF fa]), (1, vI ((l : Nat) : Int))]) rfl ?_
  refine CE.seq ?_
  refine CE.region ?_
  refine WL.op (op_box (cs := [.slice ATr nTr cTr, vI Tj, .slice ABr nBr cBr, vI Bj, vI Lk, vF Lc0, vF Lc1, vF Lc2, vF Ls0, vF Ls1, vI Dk, vF Dc0, vF Dc1, vF Dc2, vF Ds0, vF Ds1, vF ne, vF fa]) rfl rfl) rfl rfl (ltb rfl) ?_
  rintro _ w1 ⟨rfl, r1, m1, z1⟩
  refine WL.det (op_assign rfl) rfl rfl rfl ?_
  refine WL.end ?_
  refine NE.code ?_
  refine CE.seq ?_
  refine CE.region ?_
  refine WL.det (op_fieldAddr (off' := 0) rfl Try.runUnderlying58 rfl rfl Try.sizeOf24 rfl) rfl rfl rfl ?_
  refine WL.det (op_loadA (i := 0) (cs := [.slice ATr nTr cTr, vI Tj]) rfl Try.isAgg24 Try.sizeOf24 r1.rng rfl rfl rfl) rfl rfl rfl ?_
  refine WL.det (op_move rfl) rfl rfl rfl ?_
  refine WL.call (oc_call (vs := [.agg #[.slice ATr nTr cTr, vI Tj], vI ((l : Nat) : Int)]) (cap := []) rfl rfl rfl Try.call54 (c_szRing l nTr cTr ATr Tj (by omega) (by omega) w1)) rfl rfl (ltb rfl) ?_
  rintro _ w2 ⟨rfl, m2⟩
  refine WL.det (op_assign rfl) rfl rfl rfl ?_
  refine WL.end ?_
  refine NE.code ?_
  refine CE.seq ?_
  refine CE.seq ?_
  refine CE.region ?_
  refine WL.det (op_move rfl) rfl rfl rfl ?_
  refine WL.det (op_lti_f rfl rfl (by omega)) rfl rfl rfl ?_
  refine WL.end ?_
  refine NE.code ?_
  refine CE.cond_f rfl rfl ?_
  refine CE.skip' ?_
  refine NE.code ?_
  refine CE.seq ?_
  refine CE.region ?_
  refine WL.det (op_fieldAddr (off' := 2) rfl Try.runUnderlying58 rfl rfl Try.sizeOf24 rfl) rfl rfl rfl ?_
  refine WL.det (op_loadA (i := 2) (cs := [.slice ABr nBr cBr, vI Bj]) rfl Try.isAgg24 Try.sizeOf24 (r1.ext m2).rng rfl rfl rfl) rfl rfl rfl ?_
  refine WL.det (op_move rfl) rfl rfl rfl ?_
  refine WL.call (oc_call (vs := [.agg #[.slice ABr nBr cBr, vI Bj], vI ((l - nTr : Nat) : Int)]) (cap := []) rfl rfl rfl Try.call54 (c_szRing (l - nTr) nBr cBr ABr Bj (by omega) (by omega) w2)) rfl rfl (ltb rfl) ?_
  rintro _ w3 ⟨rfl, m3⟩
  refine WL.det (op_assign rfl) rfl rfl rfl ?_
  refine WL.end ?_
  refine NE.code ?_
  refine CE.seq ?_
  refine CE.seq ?_
  refine CE.region ?_
  refine WL.det (op_move rfl) rfl rfl rfl ?_
  refine WL.det (op_lti_f rfl rfl (by omega)) rfl rfl rfl ?_
  refine WL.end ?_
  refine NE.code ?_
  refine CE.cond_f rfl rfl ?_
  refine CE.skip' ?_
  refine NE.code ?_
  refine CE.seq ?_
  refine CE.region ?_
  refine WL.det (op_move rfl) rfl rfl rfl ?_
  refine WL.det (op_assign rfl) rfl rfl rfl ?_
  refine WL.end ?_
  refine NE.code ?_
  refine CE.ret' ?_
  refine XE.leave1 Try.results30 rfl ?_
  refine ⟨?_, ((((Mod.refl [] w).nt m1).nt m2).nt m3)⟩
  all_goals rfl

set_option maxRecDepth 100000 in
set_option maxHeartbeats 2000000 in
theorem c_szJet_over (l : Nat) (nTr : Nat) (cTr : Nat) (ATr : Option Addr) (Tj : Int) (nBr : Nat) (cBr : Nat) (ABr : Option Addr) (Bj : Int) (Lk : Int) (Lc0 : Nat) (Lc1 : Nat) (Lc2 : Nat) (Ls0 : Nat) (Ls1 : Nat) (Dk : Int) (Dc0 : Nat) (Dc1 : Nat) (Dc2 : Nat) (Ds0 : Nat) (Ds1 : Nat) (ne : Nat) (fa : Nat) (hl : l < nTr + nBr) (hm : l ≤ 1048576) (hnTr : nTr ≤ 9223372036854775807) (hnBr : nBr ≤ 9223372036854775807) (w : World) : Cl Try.prog 30 #[.agg #[.slice ATr nTr cTr, vI Tj, .slice ABr nBr cBr, vI Bj, vI Lk, vF Lc0, vF Lc1, vF Lc2, vF Ls0, vF Ls1, vI Dk, vF Dc0, vF Dc1, vF Dc2, vF Ds0, vF Ds1, vF ne, vF fa], vI ((l : Nat) : Int)] w fun v w' => v = vI (-1) ∧ Mod [] w w' := by
  refine Cl.of Try.func30 Try.ntmps30 rfl rfl (ρ := [(0, .agg #[.slice ATr nTr cTr, vI Tj, .slice ABr nBr cBr, vI Bj, vI Lk, vF Lc0, vF Lc1, vF Lc2, vF Ls0, vF Ls1, vI Dk, vF Dc0, vF Dc1, vF Dc2, vF Ds0, vF Ds1, vF ne, vF fa]), (1, vI ((l : Nat) : Int))]) rfl ?_
  refine CE.seq ?_
  refine CE.region ?_
  refine WL.op (op_box (cs := [.slice ATr nTr cTr, vI Tj, .slice ABr nBr cBr, vI Bj, vI Lk, vF Lc0, vF Lc1, vF Lc2, vF Ls0, vF Ls1, vI Dk, vF Dc0, vF Dc1, vF Dc2, vF Ds0, vF Ds1, vF ne, vF fa]) rfl rfl) rfl rfl (ltb rfl) ?_
  rintro _ w1 ⟨rfl, r1, m1, z1⟩
  refine WL.det (op_assign rfl) rfl rfl rfl ?_
  refine WL.end ?_
  refine NE.code ?_
  refine CE.seq ?_
  refine CE.region ?_
  refine WL.det (op_fieldAddr (off' := 0) rfl Try.runUnderlying58 rfl rfl Try.sizeOf24 rfl) rfl rfl rfl ?_
  refine WL.det (op_loadA (i := 0) (cs := [.slice ATr nTr cTr, vI Tj]) rfl Try.isAgg24 Try.sizeOf24 r1.rng rfl rfl rfl) rfl rfl rfl ?_
  refine WL.det (op_move rfl) rfl rfl rfl ?_
  rcases Bool.eq_false_or_eq_true (decide (l < nTr)) with hb1 | hb1
  · have hp1 := hb1; try simp only [Bool.and_eq_true, Bool.or_eq_true, Bool.not_eq_true', Bool.not_eq_false', Bool.and_eq_false_iff, Bool.or_eq_false_iff, decide_eq_true_eq, decide_eq_false_iff_not, beq_iff_eq, bne_iff_ne, beq_eq_false_iff_ne, bne_eq_false_iff_eq, ne_eq, Bool.false_eq_true, not_false_eq_true, not_true_eq_false, vIn_t, vIn_f] at hp1
    refine WL.call (oc_call (vs := [.agg #[.slice ATr nTr cTr, vI Tj], vI ((l : Nat) : Int)]) (cap := []) rfl rfl rfl Try.call54 (c_szRing_over l nTr cTr ATr Tj (by omega) (by omega) (by omega) w1)) rfl rfl (ltb rfl) ?_
    rintro _ w2 ⟨rfl, m2⟩
    refine WL.det (op_assign rfl) rfl rfl rfl ?_
    refine WL.end ?_
    refine NE.code ?_
    refine CE.seq ?_
    refine CE.seq ?_
    refine CE.region ?_
    refine WL.det (op_move rfl) rfl rfl rfl ?_
    refine WL.det (op_lti rfl rfl) rfl rfl rfl ?_
    refine WL.end ?_
    refine NE.code ?_
    refine CE.cond_t rfl rfl ?_
    refine CE.seq ?_
    refine CE.region ?_
    refine WL.det (op_assign rfl) rfl rfl rfl ?_
    refine WL.end ?_
    refine NE.code ?_
    refine CE.ret' ?_
    refine XE.ret_then ?_
    refine XE.leave1 Try.results30 rfl ?_
    refine ⟨rfl, (((Mod.refl [] w).nt m1).nt m2)⟩
  · have hp1 := hb1; try simp only [Bool.and_eq_true, Bool.or_eq_true, Bool.not_eq_true', Bool.not_eq_false', Bool.and_eq_false_iff, Bool.or_eq_false_iff, decide_eq_true_eq, decide_eq_false_iff_not, beq_iff_eq, bne_iff_ne, beq_eq_false_iff_ne, bne_eq_false_iff_eq, ne_eq, Bool.false_eq_true, not_false_eq_true, not_true_eq_false, vIn_t, vIn_f] at hp1
    refine WL.call (oc_call (vs := [.agg #[.slice ATr nTr cTr, vI Tj], vI ((l : Nat) : Int)]) (cap := []) rfl rfl rfl Try.call54 (c_szRing l nTr cTr ATr Tj (by omega) (by omega) w1)) rfl rfl (ltb rfl) ?_
    rintro _ w3 ⟨rfl, m3⟩
    refine WL.det (op_assign rfl) rfl rfl rfl ?_
    refine WL.end ?_
    refine NE.code ?_
    refine CE.seq ?_
    refine CE.seq ?_
    refine CE.region ?_
    refine WL.det (op_move rfl) rfl rfl rfl ?_
    refine WL.det (op_lti_f rfl rfl (by omega)) rfl rfl rfl ?_
    refine WL.end ?_
    refine NE.code ?_
    refine CE.cond_f rfl rfl ?_
    refine CE.skip' ?_
    refine NE.code ?_
    refine CE.seq ?_
    refine CE.region ?_
    refine WL.det (op_fieldAddr (off' := 2) rfl Try.runUnderlying58 rfl rfl Try.sizeOf24 rfl) rfl rfl rfl ?_
    refine WL.det (op_loadA (i := 2) (cs := [.slice ABr nBr cBr, vI Bj]) rfl Try.isAgg24 Try.sizeOf24 (r1.ext m3).rng rfl rfl rfl) rfl rfl rfl ?_
    refine WL.det (op_move rfl) rfl rfl rfl ?_
    rcases Bool.eq_false_or_eq_true (decide (l - nTr < nBr)) with hb2 | hb2
    · have hp2 := hb2; try simp only [Bool.and_eq_true, Bool.or_eq_true, Bool.not_eq_true', Bool.not_eq_false', Bool.and_eq_false_iff, Bool.or_eq_false_iff, decide_eq_true_eq, decide_eq_false_iff_not, beq_iff_eq, bne_iff_ne, beq_eq_false_iff_ne, bne_eq_false_iff_eq, ne_eq, Bool.false_eq_true, not_false_eq_true, not_true_eq_false, vIn_t, vIn_f] at hp2
      refine WL.call (oc_call (vs := [.agg #[.slice ABr nBr cBr, vI Bj], vI ((l - nTr : Nat) : Int)]) (cap := []) rfl rfl rfl Try.call54 (c_szRing_over (l - nTr) nBr cBr ABr Bj (by omega) (by omega) (by omega) w3)) rfl rfl (ltb rfl) ?_
      rintro _ w4 ⟨rfl, m4⟩
      refine WL.det (op_assign rfl) rfl rfl rfl ?_
      refine WL.end ?_
      refine NE.code ?_
      refine CE.seq ?_
      refine CE.seq ?_
      refine CE.region ?_
      refine WL.det (op_move rfl) rfl rfl rfl ?_
      refine WL.det (op_lti rfl rfl) rfl rfl rfl ?_
      refine WL.end ?_
      refine NE.code ?_
      refine CE.cond_t rfl rfl ?_
      refine CE.seq ?_
      refine CE.region ?_
      refine WL.det (op_assign rfl) rfl rfl rfl ?_
      refine WL.end ?_
      refine NE.code ?_
      refine CE.ret' ?_
      refine XE.ret_then ?_
      refine XE.leave1 Try.results30 rfl ?_
      refine ⟨rfl, ((((Mod.refl [] w).nt m1).nt m3).nt m4)⟩
    · have hp2 := hb2; try simp only [Bool.and_eq_true, Bool.or_eq_true, Bool.not_eq_true', Bool.not_eq_false', Bool.and_eq_false_iff, Bool.or_eq_false_iff, decide_eq_true_eq, decide_eq_false_iff_not, beq_iff_eq, bne_iff_ne, beq_eq_false_iff_ne, bne_eq_false_iff_eq, ne_eq, Bool.false_eq_true, not_false_eq_true, not_true_eq_false, vIn_t, vIn_f] at hp2
      refine WL.call (oc_call (vs := [.agg #[.slice ABr nBr cBr, vI Bj], vI ((l - nTr : Nat) : Int)]) (cap := []) rfl rfl rfl Try.call54 (c_szRing (l - nTr) nBr cBr ABr Bj (by omega) (by omega) w3)) rfl rfl (ltb rfl) ?_
      rintro _ w5 ⟨rfl, m5⟩
      refine WL.det (op_assign rfl) rfl rfl rfl ?_
      refine WL.end ?_
      refine NE.code ?_
      refine CE.seq ?_
      refine CE.seq ?_
      refine CE.region ?_
      refine WL.det (op_move rfl) rfl rfl rfl ?_
      refine WL.det (op_lti_f rfl rfl (by omega)) rfl rfl rfl ?_
      refine WL.end ?_
      refine NE.code ?_
      refine CE.cond_f rfl rfl ?_
      refine CE.skip' ?_
      refine NE.code ?_
      refine CE.seq ?_
      refine CE.region ?_
      refine WL.det (op_move rfl) rfl rfl rfl ?_
      refine WL.det (op_assign rfl) rfl rfl rfl ?_
      refine WL.end ?_
      refine NE.code ?_
      refine CE.ret' ?_
      refine XE.leave1 Try.results30 rfl ?_
      refine ⟨?_, ((((Mod.refl [] w).nt m1).nt m3).nt m5)⟩
      all_goals (exfalso; omega)

set_option maxRecDepth 100000 in
set_option maxHeartbeats 2000000 in
theorem c_toJet (nTr : Nat) (cTr : Nat) (ATr : Option Addr) (bTr : Nat) (oTr : Nat) (xTr : List Nat) (Tj : Int) (nBr : Nat) (cBr : Nat) (ABr : Option Addr) (bBr : Nat) (oBr : Nat) (xBr : List Nat) (Bj : Int) (Lk : Int) (Lc0 : Nat) (Lc1 : Nat) (Lc2 : Nat) (Ls0 : Nat) (Ls1 : Nat) (Dk : Int) (Dc0 : Nat) (Dc1 : Nat) (Dc2 : Nat) (Ds0 : Nat) (Ds1 : Nat) (ne : Nat) (fa : Nat) (lnTr : xTr.length = nTr) (hATr : 0 < nTr → ATr = some ⟨bTr, oTr, none⟩) (lnBr : xBr.length = nBr) (hABr : 0 < nBr → ABr = some ⟨bBr, oBr, none⟩) (hnnTr : nTr ≤ 1048576) (hnnBr : nBr ≤ 1048576) (w : World) (rTr : Rng w bTr oTr (fl xTr)) (rBr : Rng w bBr oBr (fl xBr)) : Cl Try.prog 32 #[.agg #[.slice ATr nTr cTr, vI Tj, .slice ABr nBr cBr, vI Bj, vI Lk, vF Lc0, vF Lc1, vF Lc2, vF Ls0, vF Ls1, vI Dk, vF Dc0, vF Dc1, vF Dc2, vF Ds0, vF Ds1, vF ne, vF fa]] w fun v w' => ∃ (bTr' : Nat) (bBr' : Nat), v = .agg #[vS bTr' 0 nTr nTr, vI Tj, vS bBr' 0 nBr nBr, vI Bj, vI Lk, vF Lc0, vF Lc1, vF Lc2, vF Ls0, vF Ls1, vI Dk, vF Dc0, vF Dc1, vF Dc2, vF Ds0, vF Ds1, vF ne, vF fa] ∧ Row w' bTr' 0 (fl xTr) ∧ Row w' bBr' 0 (fl xBr) ∧ w.heap.size ≤ bTr' ∧ w.heap.size ≤ bBr' ∧ bTr' ≠ bBr' ∧ Mod [] w w' := by
  refine Cl.of Try.func32 Try.ntmps32 rfl rfl (ρ := [(0, .agg #[.slice ATr nTr cTr, vI Tj, .slice ABr nBr cBr, vI Bj, vI Lk, vF Lc0, vF Lc1, vF Lc2, vF Ls0, vF Ls1, vI Dk, vF Dc0, vF Dc1, vF Dc2, vF Ds0, vF Ds1, vF ne, vF fa])]) rfl ?_
  refine CE.seq ?_
  refine CE.region ?_
  refine WL.op (op_box (cs := [.slice ATr nTr cTr, vI Tj, .slice ABr nBr cBr, vI Bj, vI Lk, vF Lc0, vF Lc1, vF Lc2, vF Ls0, vF Ls1, vI Dk, vF Dc0, vF Dc1, vF Dc2, vF Ds0, vF Ds1, vF ne, vF fa]) rfl rfl) rfl rfl (ltb rfl) ?_
  rintro _ w1 ⟨rfl, r1, m1, z1⟩
  refine WL.op (op_alloc (cs := [.slice none 0 0, vI 0, .slice none 0 0, vI 0, vI 0, vF 0, vF 0, vF 0, vF 0, vF 0, vI 0, vF 0, vF 0, vF 0, vF 0, vF 0, vF 0, vF 0]) Try.zeroValue61 rfl) rfl rfl (ltb rfl) ?_
  rintro _ w2 ⟨rfl, r2, m2, z2⟩
  refine WL.end ?_
  refine NE.code ?_
  refine CE.seq ?_
  refine CE.region ?_
  refine WL.op (op_alloc (cs := [.slice none 0 0, vI 0, .slice none 0 0, vI 0, vI 0, vF 0, vF 0, vF 0, vF 0, vF 0, vI 0, vF 0, vF 0, vF 0, vF 0, vF 0, vF 0, vF 0]) Try.zeroValue61 rfl) rfl rfl (ltb rfl) ?_
  rintro _ w3 ⟨rfl, r3, m3, z3⟩
  refine WL.end ?_
  refine NE.code ?_
  refine CE.seq ?_
  refine CE.region ?_
  refine WL.det (op_fieldAddr (off' := 0) rfl Try.runUnderlying58 rfl rfl Try.sizeOf24 rfl) rfl rfl rfl ?_
  refine WL.det (op_loadA (i := 0) (cs := [.slice ATr nTr cTr, vI Tj]) rfl Try.isAgg24 Try.sizeOf24 ((r1.ext m2).ext m3).rng rfl rfl rfl) rfl rfl rfl ?_
  refine WL.call (oc_call (vs := [.agg #[.slice ATr nTr cTr, vI Tj]]) (cap := []) rfl rfl rfl Try.call59 (c_toRing nTr cTr ATr bTr oTr xTr Tj lnTr hATr (by omega) w3 (((rTr.ext m1).ext m2).ext m3))) rfl rfl (ltb rfl) ?_
  rintro _ w4 ⟨br'1, rfl, r4, ge1, m4⟩
  refine WL.det (op_fieldAddr (off' := 0) rfl Try.runUnderlying61 rfl rfl Try.sizeOf33 rfl) rfl rfl rfl ?_
  refine WL.op0 (op_store (i := 0) (cs := [vS br'1 0 nTr nTr, vI Tj]) rfl rfl rfl Try.sizeOf33 rfl (r3.ext m4) rfl (lB rfl) rfl) rfl rfl ?_
  rintro _ w5 ⟨r5, m5, z4⟩
  have r6 : Row w5 w2.heap.size 0 [vS br'1 0 nTr nTr, vI Tj, .slice none 0 0, vI 0, vI 0, vF 0, vF 0, vF 0, vF 0, vF 0, vI 0, vF 0, vF 0, vF 0, vF 0, vF 0, vF 0, vF 0] := Row.congr r5 rfl
  refine WL.end ?_
  refine NE.code ?_
  refine CE.seq ?_
  refine CE.region ?_
  refine WL.det (op_fieldAddr (off' := 2) rfl Try.runUnderlying58 rfl rfl Try.sizeOf24 rfl) rfl rfl rfl ?_
  refine WL.det (op_loadA (i := 2) (cs := [.slice ABr nBr cBr, vI Bj]) rfl Try.isAgg24 Try.sizeOf24 ((((r1.ext m2).ext m3).ext m4).mod m5 (nC (lE (lL (lL r1.lt m2.size) lR)) nN)).rng rfl rfl rfl) rfl rfl rfl ?_
  refine WL.call (oc_call (vs := [.agg #[.slice ABr nBr cBr, vI Bj]]) (cap := []) rfl rfl rfl Try.call59 (c_toRing nBr cBr ABr bBr oBr xBr Bj lnBr hABr (by omega) w5 (Rng.youngS rBr ((((rBr.ext m1).ext m2).ext m3).ext m4) m5 (allge_cons (lT (lT m1.size m2.size) lR) allge_nil)))) rfl rfl (ltb rfl) ?_
  rintro _ w6 ⟨br'2, rfl, r7, ge2, m6⟩
  refine WL.det (op_fieldAddr (off' := 2) rfl Try.runUnderlying61 rfl rfl Try.sizeOf33 rfl) rfl rfl rfl ?_
  refine WL.op0 (op_store (i := 2) (cs := [vS br'2 0 nBr nBr, vI Bj]) rfl rfl rfl Try.sizeOf33 rfl (r6.ext m6) rfl (lB rfl) rfl) rfl rfl ?_
  rintro _ w7 ⟨r8, m7, z5⟩
  have r9 : Row w7 w2.heap.size 0 [vS br'1 0 nTr nTr, vI Tj, vS br'2 0 nBr nBr, vI Bj, vI 0, vF 0, vF 0, vF 0, vF 0, vF 0, vI 0, vF 0, vF 0, vF 0, vF 0, vF 0, vF 0, vF 0] := Row.congr r8 rfl
  refine WL.end ?_
  refine NE.code ?_
  refine CE.seq ?_
  refine CE.region ?_
  refine WL.det (op_fieldAddr (off' := 4) rfl Try.runUnderlying58 rfl rfl Try.sizeOf29 rfl) rfl rfl rfl ?_
  refine WL.det (op_loadA (i := 4) (cs := [vI Lk, vF Lc0, vF Lc1, vF Lc2, vF Ls0, vF Ls1]) rfl Try.isAgg29 Try.sizeOf29 ((((((r1.ext m2).ext m3).ext m4).mod m5 (nC (lE (lL (lL r1.lt m2.size) lR)) nN)).ext m6).mod m7 (nC (lE (lL (lL r1.lt m2.size) lR)) nN)).rng rfl rfl rfl) rfl rfl rfl ?_
  refine WL.call (oc_call (vs := [.agg #[vI Lk, vF Lc0, vF Lc1, vF Lc2, vF Ls0, vF Ls1]]) (cap := []) rfl rfl rfl Try.call60 (c_toFilter Lk Lc0 Lc1 Lc2 Ls0 Ls1 w7)) rfl rfl (ltb rfl) ?_
  rintro _ w8 ⟨rfl, m8⟩
  refine WL.det (op_fieldAddr (off' := 4) rfl Try.runUnderlying61 rfl rfl Try.sizeOf34 rfl) rfl rfl rfl ?_
  refine WL.op0 (op_store (i := 4) (cs := [vI Lk, vF Lc0, vF Lc1, vF Lc2, vF Ls0, vF Ls1]) rfl rfl rfl Try.sizeOf34 rfl (r9.ext m8) rfl (lB rfl) rfl) rfl rfl ?_
  rintro _ w9 ⟨r10, m9, z6⟩
  have r11 : Row w9 w2.heap.size 0 [vS br'1 0 nTr nTr, vI Tj, vS br'2 0 nBr nBr, vI Bj, vI Lk, vF Lc0, vF Lc1, vF Lc2, vF Ls0, vF Ls1, vI 0, vF 0, vF 0, vF 0, vF 0, vF 0, vF 0, vF 0] := Row.congr r10 rfl
  refine WL.end ?_
  refine NE.code ?_
  refine CE.seq ?_
  refine CE.region ?_
  refine WL.det (op_fieldAddr (off' := 10) rfl Try.runUnderlying58 rfl rfl Try.sizeOf29 rfl) rfl rfl rfl ?_
  refine WL.det (op_loadA (i := 10) (cs := [vI Dk, vF Dc0, vF Dc1, vF Dc2, vF Ds0, vF Ds1]) rfl Try.isAgg29 Try.sizeOf29 ((((((((r1.ext m2).ext m3).ext m4).mod m5 (nC (lE (lL (lL r1.lt m2.size) lR)) nN)).ext m6).mod m7 (nC (lE (lL (lL r1.lt m2.size) lR)) nN)).ext m8).mod m9 (nC (lE (lL (lL r1.lt m2.size) lR)) nN)).rng rfl rfl rfl) rfl rfl rfl ?_
  refine WL.call (oc_call (vs := [.agg #[vI Dk, vF Dc0, vF Dc1, vF Dc2, vF Ds0, vF Ds1]]) (cap := []) rfl rfl rfl Try.call60 (c_toFilter Dk Dc0 Dc1 Dc2 Ds0 Ds1 w9)) rfl rfl (ltb rfl) ?_
  rintro _ w10 ⟨rfl, m10⟩
  refine WL.det (op_fieldAddr (off' := 10) rfl Try.runUnderlying61 rfl rfl Try.sizeOf34 rfl) rfl rfl rfl ?_
  refine WL.op0 (op_store (i := 10) (cs := [vI Dk, vF Dc0, vF Dc1, vF Dc2, vF Ds0, vF Ds1]) rfl rfl rfl Try.sizeOf34 rfl (r11.ext m10) rfl (lB rfl) rfl) rfl rfl ?_
  rintro _ w11 ⟨r12, m11, z7⟩
  have r13 : Row w11 w2.heap.size 0 [vS br'1 0 nTr nTr, vI Tj, vS br'2 0 nBr nBr, vI Bj, vI Lk, vF Lc0, vF Lc1, vF Lc2, vF Ls0, vF Ls1, vI Dk, vF Dc0, vF Dc1, vF Dc2, vF Ds0, vF Ds1, vF 0, vF 0] := Row.congr r12 rfl
  refine WL.end ?_
  refine NE.code ?_
  refine CE.seq ?_
  refine CE.region ?_
  refine WL.det (op_fieldAddr (off' := 16) rfl Try.runUnderlying58 rfl rfl Try.sizeOf25 rfl) rfl rfl rfl ?_
  refine WL.det (op_load1 (i := 16) rfl Try.isAgg25 ((((((((((r1.ext m2).ext m3).ext m4).mod m5 (nC (lE (lL (lL r1.lt m2.size) lR)) nN)).ext m6).mod m7 (nC (lE (lL (lL r1.lt m2.size) lR)) nN)).ext m8).mod m9 (nC (lE (lL (lL r1.lt m2.size) lR)) nN)).ext m10).mod m11 (nC (lE (lL (lL r1.lt m2.size) lR)) nN)).rng rfl rfl) rfl rfl rfl ?_
  refine WL.det (op_fieldAddr (off' := 16) rfl Try.runUnderlying61 rfl rfl Try.sizeOf25 rfl) rfl rfl rfl ?_
  refine WL.op0 (op_store (i := 16) (cs := [vF ne]) rfl rfl rfl Try.sizeOf25 rfl r13 rfl (lB rfl) rfl) rfl rfl ?_
  rintro _ w12 ⟨r14, m12, z8⟩
  have r15 : Row w12 w2.heap.size 0 [vS br'1 0 nTr nTr, vI Tj, vS br'2 0 nBr nBr, vI Bj, vI Lk, vF Lc0, vF Lc1, vF Lc2, vF Ls0, vF Ls1, vI Dk, vF Dc0, vF Dc1, vF Dc2, vF Ds0, vF Ds1, vF ne, vF 0] := Row.congr r14 rfl
  refine WL.end ?_
  refine NE.code ?_
  refine CE.seq ?_
  refine CE.region ?_
  refine WL.det (op_fieldAddr (off' := 17) rfl Try.runUnderlying58 rfl rfl Try.sizeOf25 rfl) rfl rfl rfl ?_
  refine WL.det (op_load1 (i := 17) rfl Try.isAgg25 (((((((((((r1.ext m2).ext m3).ext m4).mod m5 (nC (lE (lL (lL r1.lt m2.size) lR)) nN)).ext m6).mod m7 (nC (lE (lL (lL r1.lt m2.size) lR)) nN)).ext m8).mod m9 (nC (lE (lL (lL r1.lt m2.size) lR)) nN)).ext m10).mod m11 (nC (lE (lL (lL r1.lt m2.size) lR)) nN)).mod m12 (nC (lE (lL (lL r1.lt m2.size) lR)) nN)).rng rfl rfl) rfl rfl rfl ?_
  refine WL.det (op_fieldAddr (off' := 17) rfl Try.runUnderlying61 rfl rfl Try.sizeOf25 rfl) rfl rfl rfl ?_
  refine WL.op0 (op_store (i := 17) (cs := [vF fa]) rfl rfl rfl Try.sizeOf25 rfl r15 rfl (lB rfl) rfl) rfl rfl ?_
  rintro _ w13 ⟨r16, m13, z9⟩
  have r17 : Row w13 w2.heap.size 0 [vS br'1 0 nTr nTr, vI Tj, vS br'2 0 nBr nBr, vI Bj, vI Lk, vF Lc0, vF Lc1, vF Lc2, vF Ls0, vF Ls1, vI Dk, vF Dc0, vF Dc1, vF Dc2, vF Ds0, vF Ds1, vF ne, vF fa] := Row.congr r16 rfl
  refine WL.end ?_
  refine NE.code ?_
  refine CE.seq ?_
  refine CE.region ?_
  refine WL.det (op_loadA (i := 0) (cs := [vS br'1 0 nTr nTr, vI Tj, vS br'2 0 nBr nBr, vI Bj, vI Lk, vF Lc0, vF Lc1, vF Lc2, vF Ls0, vF Ls1, vI Dk, vF Dc0, vF Dc1, vF Dc2, vF Ds0, vF Ds1, vF ne, vF fa]) rfl Try.isAgg61 Try.sizeOf61 r17.rng rfl rfl rfl) rfl rfl rfl ?_
  refine WL.op0 (op_store (i := 0) (cs := [vS br'1 0 nTr nTr, vI Tj, vS br'2 0 nBr nBr, vI Bj, vI Lk, vF Lc0, vF Lc1, vF Lc2, vF Ls0, vF Ls1, vI Dk, vF Dc0, vF Dc1, vF Dc2, vF Ds0, vF Ds1, vF ne, vF fa]) rfl rfl rfl Try.sizeOf61 rfl (((((((((((r2.ext m3).ext m4).mod m5 (nC (lE (lL r2.lt lR)) nN)).ext m6).mod m7 (nC (lE (lL r2.lt lR)) nN)).ext m8).mod m9 (nC (lE (lL r2.lt lR)) nN)).ext m10).mod m11 (nC (lE (lL r2.lt lR)) nN)).mod m12 (nC (lE (lL r2.lt lR)) nN)).mod m13 (nC (lE (lL r2.lt lR)) nN)) rfl (lB rfl) rfl) rfl rfl ?_
  rintro _ w14 ⟨r18, m14, z10⟩
  have r19 : Row w14 w1.heap.size 0 [vS br'1 0 nTr nTr, vI Tj, vS br'2 0 nBr nBr, vI Bj, vI Lk, vF Lc0, vF Lc1, vF Lc2, vF Ls0, vF Ls1, vI Dk, vF Dc0, vF Dc1, vF Dc2, vF Ds0, vF Ds1, vF ne, vF fa] := Row.congr r18 rfl
  refine WL.end ?_
  refine NE.code ?_
  refine CE.ret' ?_
  refine XE.leaveC Try.results32 (res_agg (cs := [vS br'1 0 nTr nTr, vI Tj, vS br'2 0 nBr nBr, vI Bj, vI Lk, vF Lc0, vF Lc1, vF Lc2, vF Ls0, vF Ls1, vI Dk, vF Dc0, vF Dc1, vF Dc2, vF Ds0, vF Ds1, vF ne, vF fa]) rfl Try.isAgg61 Try.sizeOf61 r19.rng rfl res_nil) ?_
  refine ⟨br'1, br'2, rfl, ((((((((((r4.mod m5 (nC (lG (lL r3.lt ge1)) nN)).ext m6).mod m7 (nC (lG (lL r3.lt ge1)) nN)).ext m8).mod m9 (nC (lG (lL r3.lt ge1)) nN)).ext m10).mod m11 (nC (lG (lL r3.lt ge1)) nN)).mod m12 (nC (lG (lL r3.lt ge1)) nN)).mod m13 (nC (lG (lL r3.lt ge1)) nN)).mod m14 (nC (lG (lL (lL r2.lt m3.size) ge1)) nN)), ((((((((r7.mod m7 (nC (lG (lL (lL r3.lt (lT m4.size m5.size)) ge2)) nN)).ext m8).mod m9 (nC (lG (lL (lL r3.lt (lT m4.size m5.size)) ge2)) nN)).ext m10).mod m11 (nC (lG (lL (lL r3.lt (lT m4.size m5.size)) ge2)) nN)).mod m12 (nC (lG (lL (lL r3.lt (lT m4.size m5.size)) ge2)) nN)).mod m13 (nC (lG (lL (lL r3.lt (lT m4.size m5.size)) ge2)) nN)).mod m14 (nC (lG (lL (lL r2.lt (lT (lT m3.size m4.size) m5.size)) ge2)) nN)), (lT (lT (lT m1.size m2.size) m3.size) ge1), (lT (lT (lT (lT (lT m1.size m2.size) m3.size) m4.size) m5.size) ge2), (lE (lL (lL r4.lt m5.size) ge2)), (((((((((((((((Mod.refl [] w).nt m1).nt m2).nt m3).nt m4).then m5 ((aC (.inr (lT (lT m1.size m2.size) lR)) aN))).nt m6).then m7 ((aC (.inr (lT (lT m1.size m2.size) lR)) aN))).nt m8).then m9 ((aC (.inr (lT (lT m1.size m2.size) lR)) aN))).nt m10).then m11 ((aC (.inr (lT (lT m1.size m2.size) lR)) aN))).then m12 ((aC (.inr (lT (lT m1.size m2.size) lR)) aN))).then m13 ((aC (.inr (lT (lT m1.size m2.size) lR)) aN))).then m14 ((aC (.inr (lT m1.size lR)) aN)))⟩

set_option maxRecDepth 100000 in
set_option maxHeartbeats 2000000 in
theorem c_eqJet (nTr : Nat) (cTr : Nat) (ATr : Option Addr) (bTr : Nat) (oTr : Nat) (xTr : List Nat) (Tj : Int) (nBr : Nat) (cBr : Nat) (ABr : Option Addr) (bBr : Nat) (oBr : Nat) (xBr : List Nat) (Bj : Int) (Lk : Int) (Lc0 : Nat) (Lc0e : Nat) (Lc1 : Nat) (Lc1e : Nat) (Lc2 : Nat) (Lc2e : Nat) (Ls0 : Nat) (Ls0e : Nat) (Ls1 : Nat) (Ls1e : Nat) (Dk : Int) (Dc0 : Nat) (Dc0e : Nat) (Dc1 : Nat) (Dc1e : Nat) (Dc2 : Nat) (Dc2e : Nat) (Ds0 : Nat) (Ds0e : Nat) (Ds1 : Nat) (Ds1e : Nat) (ne : Nat) (nee : Nat) (fa : Nat) (fae : Nat) (cTr' : Nat) (ATr' : Option Addr) (bTr' : Nat) (oTr' : Nat) (cBr' : Nat) (ABr' : Option Addr) (bBr' : Nat) (oBr' : Nat) (Lc0' : Nat) (Lc1' : Nat) (Lc2' : Nat) (Ls0' : Nat) (Ls1' : Nat) (Dc0' : Nat) (Dc1' : Nat) (Dc2' : Nat) (Ds0' : Nat) (Ds1' : Nat) (ne' : Nat) (fa' : Nat) (lnTr : xTr.length = nTr) (hATr : 0 < nTr → ATr = some ⟨bTr, oTr, none⟩) (lnBr : xBr.length = nBr) (hABr : 0 < nBr → ABr = some ⟨bBr, oBr, none⟩) (hATr' : 0 < nTr → ATr' = some ⟨bTr', oTr', none⟩) (hABr' : 0 < nBr → ABr' = some ⟨bBr', oBr', none⟩) (hLc0 : cn .f32 Lc0 = cn .f32 Lc0e) (hLc0' : cn .f32 Lc0' = cn .f32 Lc0e) (hLc1 : cn .f32 Lc1 = cn .f32 Lc1e) (hLc1' : cn .f32 Lc1' = cn .f32 Lc1e) (hLc2 : cn .f32 Lc2 = cn .f32 Lc2e) (hLc2' : cn .f32 Lc2' = cn .f32 Lc2e) (hLs0 : cn .f32 Ls0 = cn .f32 Ls0e) (hLs0' : cn .f32 Ls0' = cn .f32 Ls0e) (hLs1 : cn .f32 Ls1 = cn .f32 Ls1e) (hLs1' : cn .f32 Ls1' = cn .f32 Ls1e) (hDc0 : cn .f32 Dc0 = cn .f32 Dc0e) (hDc0' : cn .f32 Dc0' = cn .f32 Dc0e) (hDc1 : cn .f32 Dc1 = cn .f32 Dc1e) (hDc1' : cn .f32 Dc1' = cn .f32 Dc1e) (hDc2 : cn .f32 Dc2 = cn .f32 Dc2e) (hDc2' : cn .f32 Dc2' = cn .f32 Dc2e) (hDs0 : cn .f32 Ds0 = cn .f32 Ds0e) (hDs0' : cn .f32 Ds0' = cn .f32 Ds0e) (hDs1 : cn .f32 Ds1 = cn .f32 Ds1e) (hDs1' : cn .f32 Ds1' = cn .f32 Ds1e) (hne : cn .f32 ne = cn .f32 nee) (hne' : cn .f32 ne' = cn .f32 nee) (hfa : cn .f32 fa = cn .f32 fae) (hfa' : cn .f32 fa' = cn .f32 fae) (hbnTr : nTr ≤ 9223372036854775807) (hbnBr : nBr ≤ 9223372036854775807) (w : World) (rTr : Rng w bTr oTr (fl xTr)) (rBr : Rng w bBr oBr (fl xBr)) (rTr' : Rng w bTr' oTr' (fl xTr)) (rBr' : Rng w bBr' oBr' (fl xBr)) : Cl Try.prog 34 #[.agg #[.slice ATr nTr cTr, vI Tj, .slice ABr nBr cBr, vI Bj, vI Lk, vF Lc0, vF Lc1, vF Lc2, vF Ls0, vF Ls1, vI Dk, vF Dc0, vF Dc1, vF Dc2, vF Ds0, vF Ds1, vF ne, vF fa], .agg #[.slice ATr' nTr cTr', vI Tj, .slice ABr' nBr cBr', vI Bj, vI Lk, vF Lc0', vF Lc1', vF Lc2', vF Ls0', vF Ls1', vI Dk, vF Dc0', vF Dc1', vF Dc2', vF Ds0', vF Ds1', vF ne', vF fa']] w fun v w' => v = .bool true ∧ Mod [] w w' := by
  refine Cl.of Try.func34 Try.ntmps34 rfl rfl (ρ := [(0, .agg #[.slice ATr nTr cTr, vI Tj, .slice ABr nBr cBr, vI Bj, vI Lk, vF Lc0, vF Lc1, vF Lc2, vF Ls0, vF Ls1, vI Dk, vF Dc0, vF Dc1, vF Dc2, vF Ds0, vF Ds1, vF ne, vF fa]), (1, .agg #[.slice ATr' nTr cTr', vI Tj, .slice ABr' nBr cBr', vI Bj, vI Lk, vF Lc0', vF Lc1', vF Lc2', vF Ls0', vF Ls1', vI Dk, vF Dc0', vF Dc1', vF Dc2', vF Ds0', vF Ds1', vF ne', vF fa'])]) rfl ?_
  refine CE.seq ?_
  refine CE.region ?_
  refine WL.op (op_box (cs := [.slice ATr nTr cTr, vI Tj, .slice ABr nBr cBr, vI Bj, vI Lk, vF Lc0, vF Lc1, vF Lc2, vF Ls0, vF Ls1, vI Dk, vF Dc0, vF Dc1, vF Dc2, vF Ds0, vF Ds1, vF ne, vF fa]) rfl rfl) rfl rfl (ltb rfl) ?_
  rintro _ w1 ⟨rfl, r1, m1, z1⟩
  refine WL.op (op_box (cs := [.slice ATr' nTr cTr', vI Tj, .slice ABr' nBr cBr', vI Bj, vI Lk, vF Lc0', vF Lc1', vF Lc2', vF Ls0', vF Ls1', vI Dk, vF Dc0', vF Dc1', vF Dc2', vF Ds0', vF Ds1', vF ne', vF fa']) rfl rfl) rfl rfl (ltb rfl) ?_
  rintro _ w2 ⟨rfl, r2, m2, z2⟩
  refine WL.det (op_assign rfl) rfl rfl rfl ?_
  refine WL.end ?_
  refine NE.code ?_
  refine CE.seq ?_
  refine CE.seq ?_
  refine CE.region ?_
  refine WL.det (op_fieldAddr (off' := 0) rfl Try.runUnderlying61 rfl rfl Try.sizeOf33 rfl) rfl rfl rfl ?_
  refine WL.det (op_loadA (i := 0) (cs := [.slice ATr nTr cTr, vI Tj]) rfl Try.isAgg33 Try.sizeOf33 (r1.ext m2).rng rfl rfl rfl) rfl rfl rfl ?_
  refine WL.det (op_fieldAddr (off' := 0) rfl Try.runUnderlying61 rfl rfl Try.sizeOf33 rfl) rfl rfl rfl ?_
  refine WL.det (op_loadA (i := 0) (cs := [.slice ATr' nTr cTr', vI Tj]) rfl Try.isAgg33 Try.sizeOf33 r2.rng rfl rfl rfl) rfl rfl rfl ?_
  refine WL.call (oc_call (vs := [.agg #[.slice ATr nTr cTr, vI Tj], .agg #[.slice ATr' nTr cTr', vI Tj]]) (cap := []) rfl rfl rfl Try.call65 (c_eqRing nTr cTr ATr bTr oTr xTr Tj cTr' ATr' bTr' oTr' lnTr hATr hATr' (by omega) w2 ((rTr.ext m1).ext m2) ((rTr'.ext m1).ext m2))) rfl rfl (ltb rfl) ?_
  rintro _ w3 ⟨rfl, m3⟩
  refine WL.det (op_not rfl) rfl rfl rfl ?_
  refine WL.end ?_
  refine NE.code ?_
  refine CE.cond_f rfl rfl ?_
  refine CE.skip' ?_
  refine NE.code ?_
  refine CE.seq ?_
  refine CE.seq ?_
  refine CE.region ?_
  refine WL.det (op_fieldAddr (off' := 2) rfl Try.runUnderlying61 rfl rfl Try.sizeOf33 rfl) rfl rfl rfl ?_
  refine WL.det (op_loadA (i := 2) (cs := [.slice ABr nBr cBr, vI Bj]) rfl Try.isAgg33 Try.sizeOf33 ((r1.ext m2).ext m3).rng rfl rfl rfl) rfl rfl rfl ?_
  refine WL.det (op_fieldAddr (off' := 2) rfl Try.runUnderlying61 rfl rfl Try.sizeOf33 rfl) rfl rfl rfl ?_
  refine WL.det (op_loadA (i := 2) (cs := [.slice ABr' nBr cBr', vI Bj]) rfl Try.isAgg33 Try.sizeOf33 (r2.ext m3).rng rfl rfl rfl) rfl rfl rfl ?_
  refine WL.call (oc_call (vs := [.agg #[.slice ABr nBr cBr, vI Bj], .agg #[.slice ABr' nBr cBr', vI Bj]]) (cap := []) rfl rfl rfl Try.call65 (c_eqRing nBr cBr ABr bBr oBr xBr Bj cBr' ABr' bBr' oBr' lnBr hABr hABr' (by omega) w3 (((rBr.ext m1).ext m2).ext m3) (((rBr'.ext m1).ext m2).ext m3))) rfl rfl (ltb rfl) ?_
  rintro _ w4 ⟨rfl, m4⟩
  refine WL.det (op_not rfl) rfl rfl rfl ?_
  refine WL.end ?_
  refine NE.code ?_
  refine CE.cond_f rfl rfl ?_
  refine CE.skip' ?_
  refine NE.code ?_
  refine CE.seq ?_
  refine CE.seq ?_
  refine CE.region ?_
  refine WL.det (op_fieldAddr (off' := 4) rfl Try.runUnderlying61 rfl rfl Try.sizeOf34 rfl) rfl rfl rfl ?_
  refine WL.det (op_loadA (i := 4) (cs := [vI Lk, vF Lc0, vF Lc1, vF Lc2, vF Ls0, vF Ls1]) rfl Try.isAgg34 Try.sizeOf34 (((r1.ext m2).ext m3).ext m4).rng rfl rfl rfl) rfl rfl rfl ?_
  refine WL.det (op_fieldAddr (off' := 4) rfl Try.runUnderlying61 rfl rfl Try.sizeOf34 rfl) rfl rfl rfl ?_
  refine WL.det (op_loadA (i := 4) (cs := [vI Lk, vF Lc0', vF Lc1', vF Lc2', vF Ls0', vF Ls1']) rfl Try.isAgg34 Try.sizeOf34 ((r2.ext m3).ext m4).rng rfl rfl rfl) rfl rfl rfl ?_
  refine WL.call (oc_call (vs := [.agg #[vI Lk, vF Lc0, vF Lc1, vF Lc2, vF Ls0, vF Ls1], .agg #[vI Lk, vF Lc0', vF Lc1', vF Lc2', vF Ls0', vF Ls1']]) (cap := []) rfl rfl rfl Try.call66 (c_eqFilter Lk Lc0 Lc0e Lc1 Lc1e Lc2 Lc2e Ls0 Ls0e Ls1 Ls1e Lc0' Lc1' Lc2' Ls0' Ls1' hLc0 hLc0' hLc1 hLc1' hLc2 hLc2' hLs0 hLs0' hLs1 hLs1' w4)) rfl rfl (ltb rfl) ?_
  rintro _ w5 ⟨rfl, m5⟩
  refine WL.det (op_not rfl) rfl rfl rfl ?_
  refine WL.end ?_
  refine NE.code ?_
  refine CE.cond_f rfl rfl ?_
  refine CE.skip' ?_
  refine NE.code ?_
  refine CE.seq ?_
  refine CE.seq ?_
  refine CE.region ?_
  refine WL.det (op_fieldAddr (off' := 10) rfl Try.runUnderlying61 rfl rfl Try.sizeOf34 rfl) rfl rfl rfl ?_
  refine WL.det (op_loadA (i := 10) (cs := [vI Dk, vF Dc0, vF Dc1, vF Dc2, vF Ds0, vF Ds1]) rfl Try.isAgg34 Try.sizeOf34 ((((r1.ext m2).ext m3).ext m4).ext m5).rng rfl rfl rfl) rfl rfl rfl ?_
  refine WL.det (op_fieldAddr (off' := 10) rfl Try.runUnderlying61 rfl rfl Try.sizeOf34 rfl) rfl rfl rfl ?_
  refine WL.det (op_loadA (i := 10) (cs := [vI Dk, vF Dc0', vF Dc1', vF Dc2', vF Ds0', vF Ds1']) rfl Try.isAgg34 Try.sizeOf34 (((r2.ext m3).ext m4).ext m5).rng rfl rfl rfl) rfl rfl rfl ?_
  refine WL.call (oc_call (vs := [.agg #[vI Dk, vF Dc0, vF Dc1, vF Dc2, vF Ds0, vF Ds1], .agg #[vI Dk, vF Dc0', vF Dc1', vF Dc2', vF Ds0', vF Ds1']]) (cap := []) rfl rfl rfl Try.call66 (c_eqFilter Dk Dc0 Dc0e Dc1 Dc1e Dc2 Dc2e Ds0 Ds0e Ds1 Ds1e Dc0' Dc1' Dc2' Ds0' Ds1' hDc0 hDc0' hDc1 hDc1' hDc2 hDc2' hDs0 hDs0' hDs1 hDs1' w5)) rfl rfl (ltb rfl) ?_
  rintro _ w6 ⟨rfl, m6⟩
  refine WL.det (op_not rfl) rfl rfl rfl ?_
  refine WL.end ?_
  refine NE.code ?_
  refine CE.cond_f rfl rfl ?_
  refine CE.skip' ?_
  refine NE.code ?_
  refine CE.seq ?_
  refine CE.seq ?_
  refine CE.region ?_
  refine WL.det (op_fieldAddr (off' := 16) rfl Try.runUnderlying61 rfl rfl Try.sizeOf25 rfl) rfl rfl rfl ?_
  refine WL.det (op_load1 (i := 16) rfl Try.isAgg25 (((((r1.ext m2).ext m3).ext m4).ext m5).ext m6).rng rfl rfl) rfl rfl rfl ?_
  refine WL.op (op_widen (e := (wide nee)) rfl hne Try.runUnderlying25 Try.runUnderlying67 rfl) rfl rfl (ltb rfl) ?_
  rintro _ w7 ⟨⟨f1, rfl, hf1, lf1⟩, m7⟩
  refine WL.det (op_fieldAddr (off' := 16) rfl Try.runUnderlying61 rfl rfl Try.sizeOf25 rfl) rfl rfl rfl ?_
  refine WL.det (op_load1 (i := 16) rfl Try.isAgg25 (((((r2.ext m3).ext m4).ext m5).ext m6).ext m7).rng rfl rfl) rfl rfl rfl ?_
  refine WL.op (op_widen (e := (wide nee)) rfl hne' Try.runUnderlying25 Try.runUnderlying67 rfl) rfl rfl (ltb rfl) ?_
  rintro _ w8 ⟨⟨f2, rfl, hf2, lf2⟩, m8⟩
  refine WL.call (oc_call (vs := [.float .f64 f1, .float .f64 f2]) (cap := []) rfl rfl rfl Try.call35 (c_sameFloat f1 (wide nee) f2 (wide nee) hf1 hf2 w8)) rfl rfl (ltb rfl) ?_
  rintro _ w9 ⟨rfl, m9⟩
  refine WL.det (op_not rfl) rfl rfl rfl ?_
  refine WL.end ?_
  refine NE.code ?_
  refine CE.cond_f rfl (bnot_t (sameF_self _)) ?_
  refine CE.skip' ?_
  refine NE.code ?_
  refine CE.seq ?_
  refine CE.seq ?_
  refine CE.region ?_
  refine WL.det (op_fieldAddr (off' := 17) rfl Try.runUnderlying61 rfl rfl Try.sizeOf25 rfl) rfl rfl rfl ?_
  refine WL.det (op_load1 (i := 17) rfl Try.isAgg25 ((((((((r1.ext m2).ext m3).ext m4).ext m5).ext m6).ext m7).ext m8).ext m9).rng rfl rfl) rfl rfl rfl ?_
  refine WL.op (op_widen (e := (wide fae)) rfl hfa Try.runUnderlying25 Try.runUnderlying67 rfl) rfl rfl (ltb rfl) ?_
  rintro _ w10 ⟨⟨f3, rfl, hf3, lf3⟩, m10⟩
  refine WL.det (op_fieldAddr (off' := 17) rfl Try.runUnderlying61 rfl rfl Try.sizeOf25 rfl) rfl rfl rfl ?_
  refine WL.det (op_load1 (i := 17) rfl Try.isAgg25 ((((((((r2.ext m3).ext m4).ext m5).ext m6).ext m7).ext m8).ext m9).ext m10).rng rfl rfl) rfl rfl rfl ?_
  refine WL.op (op_widen (e := (wide fae)) rfl hfa' Try.runUnderlying25 Try.runUnderlying67 rfl) rfl rfl (ltb rfl) ?_
  rintro _ w11 ⟨⟨f4, rfl, hf4, lf4⟩, m11⟩
  refine WL.call (oc_call (vs := [.float .f64 f3, .float .f64 f4]) (cap := []) rfl rfl rfl Try.call35 (c_sameFloat f3 (wide fae) f4 (wide fae) hf3 hf4 w11)) rfl rfl (ltb rfl) ?_
  rintro _ w12 ⟨rfl, m12⟩
  refine WL.det (op_not rfl) rfl rfl rfl ?_
  refine WL.end ?_
  refine NE.code ?_
  refine CE.cond_f rfl (bnot_t (sameF_self _)) ?_
  refine CE.skip' ?_
  refine NE.code ?_
  refine CE.seq ?_
  refine CE.region ?_
  refine WL.det (op_assign rfl) rfl rfl rfl ?_
  refine WL.end ?_
  refine NE.code ?_
  refine CE.ret' ?_
  refine XE.leave1 Try.results34 rfl ?_
  refine ⟨rfl, (((((((((((((Mod.refl [] w).nt m1).nt m2).nt m3).nt m4).nt m5).nt m6).nt m7).nt m8).nt m9).nt m10).nt m11).nt m12)⟩

set_option maxRecDepth 100000 in
set_option maxHeartbeats 2000000 in
theorem c_markJet (nTr : Nat) (cTr : Nat) (bTr : Nat) (xTr : List Nat) (Tj : Int) (nBr : Nat) (cBr : Nat) (bBr : Nat) (xBr : List Nat) (Bj : Int) (Lk : Int) (Lc0 : Nat) (Lc1 : Nat) (Lc2 : Nat) (Ls0 : Nat) (Ls1 : Nat) (Dk : Int) (Dc0 : Nat) (Dc1 : Nat) (Dc2 : Nat) (Ds0 : Nat) (Ds1 : Nat) (ne : Nat) (fa : Nat) (k : Nat) (lnTr : xTr.length = nTr) (lnBr : xBr.length = nBr) (hnnTr : nTr ≤ 1048576) (hnnBr : nBr ≤ 1048576) (hk : k ≤ 1048576) (w : World) (rTr : Row w bTr 0 (fl xTr)) (rBr : Row w bBr 0 (fl xBr)) (nebTrbBr : bTr ≠ bBr) : Cl Try.prog 36 #[.agg #[vS bTr 0 nTr cTr, vI Tj, vS bBr 0 nBr cBr, vI Bj, vI Lk, vF Lc0, vF Lc1, vF Lc2, vF Ls0, vF Ls1, vI Dk, vF Dc0, vF Dc1, vF Dc2, vF Ds0, vF Ds1, vF ne, vF fa], vI ((k : Nat) : Int)] w fun v w' => v = vI ((k + nTr + nBr : Nat) : Int) ∧ Row w' bTr 0 (fl (marks xTr k nTr)) ∧ Row w' bBr 0 (fl (marks xBr (k + nTr) nBr)) ∧ Mod [bTr, bBr] w w' := by
  refine Cl.of Try.func36 Try.ntmps36 rfl rfl (ρ := [(0, .agg #[vS bTr 0 nTr cTr, vI Tj, vS bBr 0 nBr cBr, vI Bj, vI Lk, vF Lc0, vF Lc1, vF Lc2, vF Ls0, vF Ls1, vI Dk, vF Dc0, vF Dc1, vF Dc2, vF Ds0, vF Ds1, vF ne, vF fa]), (1, vI ((k : Nat) : Int))]) rfl ?_
  refine CE.seq ?_
  refine CE.region ?_
  refine WL.op (op_box (cs := [vS bTr 0 nTr cTr, vI Tj, vS bBr 0 nBr cBr, vI Bj, vI Lk, vF Lc0, vF Lc1, vF Lc2, vF Ls0, vF Ls1, vI Dk, vF Dc0, vF Dc1, vF Dc2, vF Ds0, vF Ds1, vF ne, vF fa]) rfl rfl) rfl rfl (ltb rfl) ?_
  rintro _ w1 ⟨rfl, r1, m1, z1⟩
  refine WL.det (op_assign rfl) rfl rfl rfl ?_
  refine WL.end ?_
  refine NE.code ?_
  refine CE.seq ?_
  refine CE.region ?_
  refine WL.det (op_fieldAddr (off' := 0) rfl Try.runUnderlying61 rfl rfl Try.sizeOf33 rfl) rfl rfl rfl ?_
  refine WL.det (op_loadA (i := 0) (cs := [vS bTr 0 nTr cTr, vI Tj]) rfl Try.isAgg33 Try.sizeOf33 r1.rng rfl rfl rfl) rfl rfl rfl ?_
  refine WL.det (op_move rfl) rfl rfl rfl ?_
  refine WL.call (oc_call (vs := [.agg #[vS bTr 0 nTr cTr, vI Tj], vI ((k : Nat) : Int)]) (cap := []) rfl rfl rfl Try.call67 (c_markRing nTr cTr bTr xTr Tj k lnTr (by omega) (by omega) w1 (rTr.ext m1))) rfl rfl (ltb rfl) ?_
  rintro _ w2 ⟨rfl, r2, m2⟩
  refine WL.det (op_assign rfl) rfl rfl rfl ?_
  refine WL.end ?_
  refine NE.code ?_
  refine CE.seq ?_
  refine CE.region ?_
  refine WL.det (op_fieldAddr (off' := 2) rfl Try.runUnderlying61 rfl rfl Try.sizeOf33 rfl) rfl rfl rfl ?_
  refine WL.det (op_loadA (i := 2) (cs := [vS bBr 0 nBr cBr, vI Bj]) rfl Try.isAgg33 Try.sizeOf33 (r1.mod m2 (nC (lG (lL rTr.lt lR)) nN)).rng rfl rfl rfl) rfl rfl rfl ?_
  refine WL.det (op_move rfl) rfl rfl rfl ?_
  refine WL.call (oc_call (vs := [.agg #[vS bBr 0 nBr cBr, vI Bj], vI ((k + nTr : Nat) : Int)]) (cap := []) rfl rfl rfl Try.call67 (c_markRing nBr cBr bBr xBr Bj (k + nTr) lnBr (by omega) (by omega) w2 ((rBr.ext m1).mod m2 (nC (Ne.symm nebTrbBr) nN)))) rfl rfl (ltb rfl) ?_
  rintro _ w3 ⟨rfl, r3, m3⟩
  refine WL.det (op_assign rfl) rfl rfl rfl ?_
  refine WL.end ?_
  refine NE.code ?_
  refine CE.seq ?_
  refine CE.region ?_
  refine WL.det (op_move rfl) rfl rfl rfl ?_
  refine WL.det (op_assign rfl) rfl rfl rfl ?_
  refine WL.end ?_
  refine NE.code ?_
  refine CE.ret' ?_
  refine XE.leave1 Try.results36 rfl ?_
  refine ⟨?_, (r2.mod m3 (nC nebTrbBr nN)), r3, ((((Mod.refl [bTr, bBr] w).nt m1).then m2 ((aC (.inl (by simp)) aN))).then m3 ((aC (.inl (by simp)) aN)))⟩
  all_goals rfl

set_option maxRecDepth 100000 in
set_option maxHeartbeats 2000000 in
theorem c_heldJet (nTr : Nat) (cTr : Nat) (bTr : Nat) (xTr : List Nat) (Tj : Int) (nBr : Nat) (cBr : Nat) (bBr : Nat) (xBr : List Nat) (Bj : Int) (Lk : Int) (Lc0 : Nat) (Lc1 : Nat) (Lc2 : Nat) (Ls0 : Nat) (Ls1 : Nat) (Dk : Int) (Dc0 : Nat) (Dc1 : Nat) (Dc2 : Nat) (Ds0 : Nat) (Ds1 : Nat) (ne : Nat) (fa : Nat) (k : Nat) (lnTr : xTr.length = nTr) (lnBr : xBr.length = nBr) (hnnTr : nTr ≤ 1048576) (hnnBr : nBr ≤ 1048576) (hk : k ≤ 1048576) (hhTr : Held xTr k nTr) (hhBr : Held xBr (k + nTr) nBr) (w : World) (rTr : Rng w bTr 0 (fl xTr)) (rBr : Rng w bBr 0 (fl xBr)) : Cl Try.prog 37 #[.agg #[vS bTr 0 nTr cTr, vI Tj, vS bBr 0 nBr cBr, vI Bj, vI Lk, vF Lc0, vF Lc1, vF Lc2, vF Ls0, vF Ls1, vI Dk, vF Dc0, vF Dc1, vF Dc2, vF Ds0, vF Ds1, vF ne, vF fa], vI ((k : Nat) : Int)] w fun v w' => v = vI ((k + nTr + nBr : Nat) : Int) ∧ Mod [] w w' := by
  refine Cl.of Try.func37 Try.ntmps37 rfl rfl (ρ := [(0, .agg #[vS bTr 0 nTr cTr, vI Tj, vS bBr 0 nBr cBr, vI Bj, vI Lk, vF Lc0, vF Lc1, vF Lc2, vF Ls0, vF Ls1, vI Dk, vF Dc0, vF Dc1, vF Dc2, vF Ds0, vF Ds1, vF ne, vF fa]), (1, vI ((k : Nat) : Int))]) rfl ?_
  refine CE.seq ?_
  refine CE.region ?_
  refine WL.op (op_box (cs := [vS bTr 0 nTr cTr, vI Tj, vS bBr 0 nBr cBr, vI Bj, vI Lk, vF Lc0, vF Lc1, vF Lc2, vF Ls0, vF Ls1, vI Dk, vF Dc0, vF Dc1, vF Dc2, vF Ds0, vF Ds1, vF ne, vF fa]) rfl rfl) rfl rfl (ltb rfl) ?_
  rintro _ w1 ⟨rfl, r1, m1, z1⟩
  refine WL.det (op_assign rfl) rfl rfl rfl ?_
  refine WL.end ?_
  refine NE.code ?_
  refine CE.seq ?_
  refine CE.region ?_
  refine WL.det (op_fieldAddr (off' := 0) rfl Try.runUnderlying61 rfl rfl Try.sizeOf33 rfl) rfl rfl rfl ?_
  refine WL.det (op_loadA (i := 0) (cs := [vS bTr 0 nTr cTr, vI Tj]) rfl Try.isAgg33 Try.sizeOf33 r1.rng rfl rfl rfl) rfl rfl rfl ?_
  refine WL.det (op_move rfl) rfl rfl rfl ?_
  refine WL.call (oc_call (vs := [.agg #[vS bTr 0 nTr cTr, vI Tj], vI ((k : Nat) : Int)]) (cap := []) rfl rfl rfl Try.call68 (c_heldRing nTr cTr bTr xTr Tj k lnTr (by omega) (by omega) (by first | assumption | exact marks_held _ _ _) w1 (rTr.ext m1))) rfl rfl (ltb rfl) ?_
  rintro _ w2 ⟨rfl, m2⟩
  refine WL.det (op_assign rfl) rfl rfl rfl ?_
  refine WL.end ?_
  refine NE.code ?_
  refine CE.seq ?_
  refine CE.seq ?_
  refine CE.region ?_
  refine WL.det (op_move rfl) rfl rfl rfl ?_
  refine WL.det (op_lti_f rfl rfl (by omega)) rfl rfl rfl ?_
  refine WL.end ?_
  refine NE.code ?_
  refine CE.cond_f rfl rfl ?_
  refine CE.skip' ?_
  refine NE.code ?_
  refine CE.seq ?_
  refine CE.region ?_
  refine WL.det (op_fieldAddr (off' := 2) rfl Try.runUnderlying61 rfl rfl Try.sizeOf33 rfl) rfl rfl rfl ?_
  refine WL.det (op_loadA (i := 2) (cs := [vS bBr 0 nBr cBr, vI Bj]) rfl Try.isAgg33 Try.sizeOf33 (r1.ext m2).rng rfl rfl rfl) rfl rfl rfl ?_
  refine WL.det (op_move rfl) rfl rfl rfl ?_
  refine WL.call (oc_call (vs := [.agg #[vS bBr 0 nBr cBr, vI Bj], vI ((k + nTr : Nat) : Int)]) (cap := []) rfl rfl rfl Try.call68 (c_heldRing nBr cBr bBr xBr Bj (k + nTr) lnBr (by omega) (by omega) (by first | assumption | exact marks_held _ _ _) w2 ((rBr.ext m1).ext m2))) rfl rfl (ltb rfl) ?_
  rintro _ w3 ⟨rfl, m3⟩
  refine WL.det (op_assign rfl) rfl rfl rfl ?_
  refine WL.end ?_
  refine NE.code ?_
  refine CE.seq ?_
  refine CE.seq ?_
  refine CE.region ?_
  refine WL.det (op_move rfl) rfl rfl rfl ?_
  refine WL.det (op_lti_f rfl rfl (by omega)) rfl rfl rfl ?_
  refine WL.end ?_
  refine NE.code ?_
  refine CE.cond_f rfl rfl ?_
  refine CE.skip' ?_
  refine NE.code ?_
  refine CE.seq ?_
  refine CE.region ?_
  refine WL.det (op_move rfl) rfl rfl rfl ?_
  refine WL.det (op_assign rfl) rfl rfl rfl ?_
  refine WL.end ?_
  refine NE.code ?_
  refine CE.ret' ?_
  refine XE.leave1 Try.results37 rfl ?_
  refine ⟨?_, ((((Mod.refl [] w).nt m1).nt m2).nt m3)⟩
  all_goals rfl

set_option maxRecDepth 100000 in
set_option maxHeartbeats 2000000 in
theorem c_markJet_nil (Tj : Int) (Bj : Int) (Lk : Int) (Lc0 : Nat) (Lc1 : Nat) (Lc2 : Nat) (Ls0 : Nat) (Ls1 : Nat) (Dk : Int) (Dc0 : Nat) (Dc1 : Nat) (Dc2 : Nat) (Ds0 : Nat) (Ds1 : Nat) (ne : Nat) (fa : Nat) (k : Nat) (hk : k ≤ 1048576) (w : World) : Cl Try.prog 36 #[.agg #[.slice none 0 0, vI Tj, .slice none 0 0, vI Bj, vI Lk, vF Lc0, vF Lc1, vF Lc2, vF Ls0, vF Ls1, vI Dk, vF Dc0, vF Dc1, vF Dc2, vF Ds0, vF Ds1, vF ne, vF fa], vI ((k : Nat) : Int)] w fun v w' => v = vI ((k : Nat) : Int) ∧ Mod [] w w' := by
  refine Cl.of Try.func36 Try.ntmps36 rfl rfl (ρ := [(0, .agg #[.slice none 0 0, vI Tj, .slice none 0 0, vI Bj, vI Lk, vF Lc0, vF Lc1, vF Lc2, vF Ls0, vF Ls1, vI Dk, vF Dc0, vF Dc1, vF Dc2, vF Ds0, vF Ds1, vF ne, vF fa]), (1, vI ((k : Nat) : Int))]) rfl ?_
  refine CE.seq ?_
  refine CE.region ?_
  refine WL.op (op_box (cs := [.slice none 0 0, vI Tj, .slice none 0 0, vI Bj, vI Lk, vF Lc0, vF Lc1, vF Lc2, vF Ls0, vF Ls1, vI Dk, vF Dc0, vF Dc1, vF Dc2, vF Ds0, vF Ds1, vF ne, vF fa]) rfl rfl) rfl rfl (ltb rfl) ?_
  rintro _ w1 ⟨rfl, r1, m1, z1⟩
  refine WL.det (op_assign rfl) rfl rfl rfl ?_
  refine WL.end ?_
  refine NE.code ?_
  refine CE.seq ?_
  refine CE.region ?_
  refine WL.det (op_fieldAddr (off' := 0) rfl Try.runUnderlying61 rfl rfl Try.sizeOf33 rfl) rfl rfl rfl ?_
  refine WL.det (op_loadA (i := 0) (cs := [.slice none 0 0, vI Tj]) rfl Try.isAgg33 Try.sizeOf33 r1.rng rfl rfl rfl) rfl rfl rfl ?_
  refine WL.det (op_move rfl) rfl rfl rfl ?_
  refine WL.call (oc_call (vs := [.agg #[.slice none 0 0, vI Tj], vI ((k : Nat) : Int)]) (cap := []) rfl rfl rfl Try.call67 (c_markRing_nil Tj k (by omega) w1)) rfl rfl (ltb rfl) ?_
  rintro _ w2 ⟨rfl, m2⟩
  refine WL.det (op_assign rfl) rfl rfl rfl ?_
  refine WL.end ?_
  refine NE.code ?_
  refine CE.seq ?_
  refine CE.region ?_
  refine WL.det (op_fieldAddr (off' := 2) rfl Try.runUnderlying61 rfl rfl Try.sizeOf33 rfl) rfl rfl rfl ?_
  refine WL.det (op_loadA (i := 2) (cs := [.slice none 0 0, vI Bj]) rfl Try.isAgg33 Try.sizeOf33 (r1.ext m2).rng rfl rfl rfl) rfl rfl rfl ?_
  refine WL.det (op_move rfl) rfl rfl rfl ?_
  refine WL.call (oc_call (vs := [.agg #[.slice none 0 0, vI Bj], vI ((k : Nat) : Int)]) (cap := []) rfl rfl rfl Try.call67 (c_markRing_nil Bj k (by omega) w2)) rfl rfl (ltb rfl) ?_
  rintro _ w3 ⟨rfl, m3⟩
  refine WL.det (op_assign rfl) rfl rfl rfl ?_
  refine WL.end ?_
  refine NE.code ?_
  refine CE.seq ?_
  refine CE.region ?_
  refine WL.det (op_move rfl) rfl rfl rfl ?_
  refine WL.det (op_assign rfl) rfl rfl rfl ?_
  refine WL.end ?_
  refine NE.code ?_
  refine CE.ret' ?_
  refine XE.leave1 Try.results36 rfl ?_
  refine ⟨rfl, ((((Mod.refl [] w).nt m1).nt m2).nt m3)⟩

set_option maxRecDepth 100000 in
set_option maxHeartbeats 2000000 in
theorem c_heldJet_nil (Tj : Int) (Bj : Int) (Lk : Int) (Lc0 : Nat) (Lc1 : Nat) (Lc2 : Nat) (Ls0 : Nat) (Ls1 : Nat) (Dk : Int) (Dc0 : Nat) (Dc1 : Nat) (Dc2 : Nat) (Ds0 : Nat) (Ds1 : Nat) (ne : Nat) (fa : Nat) (k : Nat) (hk : k ≤ 1048576) (w : World) : Cl Try.prog 37 #[.agg #[.slice none 0 0, vI Tj, .slice none 0 0, vI Bj, vI Lk, vF Lc0, vF Lc1, vF Lc2, vF Ls0, vF Ls1, vI Dk, vF Dc0, vF Dc1, vF Dc2, vF Ds0, vF Ds1, vF ne, vF fa], vI ((k : Nat) : Int)] w fun v w' => v = vI ((k : Nat) : Int) ∧ Mod [] w w' := by
  refine Cl.of Try.func37 Try.ntmps37 rfl rfl (ρ := [(0, .agg #[.slice none 0 0, vI Tj, .slice none 0 0, vI Bj, vI Lk, vF Lc0, vF Lc1, vF Lc2, vF Ls0, vF Ls1, vI Dk, vF Dc0, vF Dc1, vF Dc2, vF Ds0, vF Ds1, vF ne, vF fa]), (1, vI ((k : Nat) : Int))]) rfl ?_
  refine CE.seq ?_
  refine CE.region ?_
  refine WL.op (op_box (cs := [.slice none 0 0, vI Tj, .slice none 0 0, vI Bj, vI Lk, vF Lc0, vF Lc1, vF Lc2, vF Ls0, vF Ls1, vI Dk, vF Dc0, vF Dc1, vF Dc2, vF Ds0, vF Ds1, vF ne, vF fa]) rfl rfl) rfl rfl (ltb rfl) ?_
  rintro _ w1 ⟨rfl, r1, m1, z1⟩
  refine WL.det (op_assign rfl) rfl rfl rfl ?_
  refine WL.end ?_
  refine NE.code ?_
  refine CE.seq ?_
  refine CE.region ?_
  refine WL.det (op_fieldAddr (off' := 0) rfl Try.runUnderlying61 rfl rfl Try.sizeOf33 rfl) rfl rfl rfl ?_
  refine WL.det (op_loadA (i := 0) (cs := [.slice none 0 0, vI Tj]) rfl Try.isAgg33 Try.sizeOf33 r1.rng rfl rfl rfl) rfl rfl rfl ?_
  refine WL.det (op_move rfl) rfl rfl rfl ?_
  refine WL.call (oc_call (vs := [.agg #[.slice none 0 0, vI Tj], vI ((k : Nat) : Int)]) (cap := []) rfl rfl rfl Try.call68 (c_heldRing_nil Tj k (by omega) w1)) rfl rfl (ltb rfl) ?_
  rintro _ w2 ⟨rfl, m2⟩
  refine WL.det (op_assign rfl) rfl rfl rfl ?_
  refine WL.end ?_
  refine NE.code ?_
  refine CE.seq ?_
  refine CE.seq ?_
  refine CE.region ?_
  refine WL.det (op_move rfl) rfl rfl rfl ?_
  refine WL.det (op_lti_f rfl rfl (by omega)) rfl rfl rfl ?_
  refine WL.end ?_
  refine NE.code ?_
  refine CE.cond_f rfl rfl ?_
  refine CE.skip' ?_
  refine NE.code ?_
  refine CE.seq ?_
  refine CE.region ?_
  refine WL.det (op_fieldAddr (off' := 2) rfl Try.runUnderlying61 rfl rfl Try.sizeOf33 rfl) rfl rfl rfl ?_
  refine WL.det (op_loadA (i := 2) (cs := [.slice none 0 0, vI Bj]) rfl Try.isAgg33 Try.sizeOf33 (r1.ext m2).rng rfl rfl rfl) rfl rfl rfl ?_
  refine WL.det (op_move rfl) rfl rfl rfl ?_
  refine WL.call (oc_call (vs := [.agg #[.slice none 0 0, vI Bj], vI ((k : Nat) : Int)]) (cap := []) rfl rfl rfl Try.call68 (c_heldRing_nil Bj k (by omega) w2)) rfl rfl (ltb rfl) ?_
  rintro _ w3 ⟨rfl, m3⟩
  refine WL.det (op_assign rfl) rfl rfl rfl ?_
  refine WL.end ?_
  refine NE.code ?_
  refine CE.seq ?_
  refine CE.seq ?_
  refine CE.region ?_
  refine WL.det (op_move rfl) rfl rfl rfl ?_
  refine WL.det (op_lti_f rfl rfl (by omega)) rfl rfl rfl ?_
  refine WL.end ?_
  refine NE.code ?_
  refine CE.cond_f rfl rfl ?_
  refine CE.skip' ?_
  refine NE.code ?_
  refine CE.seq ?_
  refine CE.region ?_
  refine WL.det (op_move rfl) rfl rfl rfl ?_
  refine WL.det (op_assign rfl) rfl rfl rfl ?_
  refine WL.end ?_
  refine NE.code ?_
  refine CE.ret' ?_
  refine XE.leave1 Try.results37 rfl ?_
  refine ⟨rfl, ((((Mod.refl [] w).nt m1).nt m2).nt m3)⟩

set_option maxRecDepth 100000 in
set_option maxHeartbeats 2000000 in
theorem c_clamp (a : Nat) (x : Nat) (b : Nat) (ha : cn .f32 a = cn .f32 x) (la : a < wid .f32) (lb : b < wid .f32) (w : World) : Cl Try.prog 77 #[vF a, vF b] w fun v w' => ∃ (r : Nat), v = vF r ∧ (cn .f32 r = cn .f32 (clampF x b)) ∧ (r < wid .f32) ∧ Mod [] w w' := by
  refine Cl.of Try.func77 Try.ntmps77 rfl rfl (ρ := [(0, vF a), (1, vF b)]) rfl ?_
  refine CE.seq ?_
  refine CE.region ?_
  refine WL.det (op_assign rfl) rfl rfl rfl ?_
  refine WL.end ?_
  refine NE.code ?_
  refine CE.seq ?_
  refine CE.block ?_
  refine CE.seq ?_
  refine CE.region ?_
  refine WL.det (op_move rfl) rfl rfl rfl ?_
  refine WL.det (op_move rfl) rfl rfl rfl ?_
  refine WL.det (op_fgt (c := fGt .f32 x b) rfl rfl ha rfl rfl) rfl rfl rfl ?_
  refine WL.det (op_assign rfl) rfl rfl rfl ?_
  refine WL.end ?_
  refine NE.code ?_
  rcases Bool.eq_false_or_eq_true (fGt .f32 x b) with hb1 | hb1
  · refine CE.cond_t rfl hb1 ?_
    refine CE.seq ?_
    refine CE.region ?_
    refine WL.det (op_move rfl) rfl rfl rfl ?_
    refine WL.det (op_assign rfl) rfl rfl rfl ?_
    refine WL.end ?_
    refine NE.code ?_
    refine CE.ret' ?_
    refine XE.ret_blk ?_
    refine XE.ret_then ?_
    refine XE.leave1 Try.results77 rfl ?_
    refine ⟨b, rfl, ?_, lb, (Mod.refl [] w)⟩
    all_goals first | assumption | exact negFloat_lt lb | (simp_all [clampF]; done)
  · refine CE.cond_f rfl hb1 ?_
    refine CE.seq ?_
    refine CE.region ?_
    refine WL.det (op_move rfl) rfl rfl rfl ?_
    refine WL.det (op_move rfl) rfl rfl rfl ?_
    refine WL.det (op_negf rfl) rfl rfl rfl ?_
    refine WL.det (op_flt (c := fLt .f32 x (Op.negFloat .f32 b)) rfl rfl ha (negf_congr rfl) rfl) rfl rfl rfl ?_
    refine WL.det (op_assign rfl) rfl rfl rfl ?_
    refine WL.end ?_
    refine NE.code ?_
    rcases Bool.eq_false_or_eq_true (fLt .f32 x (Op.negFloat .f32 b)) with hb2 | hb2
    · refine CE.cond_t rfl hb2 ?_
      refine CE.seq ?_
      refine CE.region ?_
      refine WL.det (op_move rfl) rfl rfl rfl ?_
      refine WL.det (op_negf rfl) rfl rfl rfl ?_
      refine WL.det (op_assign rfl) rfl rfl rfl ?_
      refine WL.end ?_
      refine NE.code ?_
      refine CE.ret' ?_
      refine XE.ret_blk ?_
      refine XE.ret_then ?_
      refine XE.leave1 Try.results77 rfl ?_
      refine ⟨(Op.negFloat .f32 b), rfl, ?_, (negFloat_lt lb), (Mod.refl [] w)⟩
      all_goals first | assumption | exact negFloat_lt lb | (simp_all [clampF]; done)
    · refine CE.cond_f rfl hb2 ?_
      refine CE.skip' ?_
      refine NE.blk ?_
      refine NE.code ?_
      refine CE.seq ?_
      refine CE.region ?_
      refine WL.det (op_move rfl) rfl rfl rfl ?_
      refine WL.det (op_assign rfl) rfl rfl rfl ?_
      refine WL.end ?_
      refine NE.code ?_
      refine CE.ret' ?_
      refine XE.leave1 Try.results77 rfl ?_
      refine ⟨a, rfl, ?_, la, (Mod.refl [] w)⟩
      all_goals first | assumption | exact negFloat_lt lb | (simp_all [clampF]; done)

set_option maxRecDepth 100000 in
set_option maxHeartbeats 2000000 in
theorem c_l01Clamp (a : Nat) (x : Nat) (b : Nat) (ha : cn .f32 a = cn .f32 x) (la : a < wid .f32) (lb : b < wid .f32) (w : World) : Cl Try.prog 131 #[vF a, vF b] w fun v w' => ∃ (r : Nat), v = vF r ∧ (cn .f32 r = cn .f32 (clampF x b)) ∧ (r < wid .f32) ∧ Mod [] w w' := by
  refine Cl.of Try.func131 Try.ntmps131 rfl rfl (ρ := [(0, vF a), (1, vF b)]) rfl ?_
  refine CE.seq ?_
  refine CE.region ?_
  refine WL.det (op_assign rfl) rfl rfl rfl ?_
  refine WL.end ?_
  refine NE.code ?_
  refine CE.seq ?_
  refine CE.seq ?_
  refine CE.region ?_
  refine WL.det (op_move rfl) rfl rfl rfl ?_
  refine WL.det (op_move rfl) rfl rfl rfl ?_
  refine WL.det (op_fgt (c := fGt .f32 x b) rfl rfl ha rfl rfl) rfl rfl rfl ?_
  refine WL.end ?_
  refine NE.code ?_
  rcases Bool.eq_false_or_eq_true (fGt .f32 x b) with hb1 | hb1
  · refine CE.cond_t rfl hb1 ?_
    refine CE.seq ?_
    refine CE.region ?_
    refine WL.det (op_move rfl) rfl rfl rfl ?_
    refine WL.det (op_assign rfl) rfl rfl rfl ?_
    refine WL.end ?_
    refine NE.code ?_
    refine CE.ret' ?_
    refine XE.ret_then ?_
    refine XE.leave1 Try.results131 rfl ?_
    refine ⟨b, rfl, ?_, lb, (Mod.refl [] w)⟩
    all_goals first | assumption | exact negFloat_lt lb | (simp_all [clampF]; done)
  · refine CE.cond_f rfl hb1 ?_
    refine CE.skip' ?_
    refine NE.code ?_
    refine CE.seq ?_
    refine CE.seq ?_
    refine CE.region ?_
    refine WL.det (op_move rfl) rfl rfl rfl ?_
    refine WL.det (op_move rfl) rfl rfl rfl ?_
    refine WL.det (op_negf rfl) rfl rfl rfl ?_
    refine WL.det (op_flt (c := fLt .f32 x (Op.negFloat .f32 b)) rfl rfl ha (negf_congr rfl) rfl) rfl rfl rfl ?_
    refine WL.end ?_
    refine NE.code ?_
    rcases Bool.eq_false_or_eq_true (fLt .f32 x (Op.negFloat .f32 b)) with hb2 | hb2
    · refine CE.cond_t rfl hb2 ?_
      refine CE.seq ?_
      refine CE.region ?_
      refine WL.det (op_move rfl) rfl rfl rfl ?_
      refine WL.det (op_negf rfl) rfl rfl rfl ?_
      refine WL.det (op_assign rfl) rfl rfl rfl ?_
      refine WL.end ?_
      refine NE.code ?_
      refine CE.ret' ?_
      refine XE.ret_then ?_
      refine XE.leave1 Try.results131 rfl ?_
      refine ⟨(Op.negFloat .f32 b), rfl, ?_, (negFloat_lt lb), (Mod.refl [] w)⟩
      all_goals first | assumption | exact negFloat_lt lb | (simp_all [clampF]; done)
    · refine CE.cond_f rfl hb2 ?_
      refine CE.skip' ?_
      refine NE.code ?_
      refine CE.seq ?_
      refine CE.region ?_
      refine WL.det (op_move rfl) rfl rfl rfl ?_
      refine WL.det (op_assign rfl) rfl rfl rfl ?_
      refine WL.end ?_
      refine NE.code ?_
      refine CE.ret' ?_
      refine XE.leave1 Try.results131 rfl ?_
      refine ⟨a, rfl, ?_, la, (Mod.refl [] w)⟩
      all_goals first | assumption | exact negFloat_lt lb | (simp_all [clampF]; done)

set_option maxRecDepth 100000 in
set_option maxHeartbeats 2000000 in
theorem c_jetAt (a : Nat) (x : Nat) (ha : cn .f32 a = cn .f32 x) (la : a < wid .f32) (w : World) : Cl Try.prog 29 #[vF a] w fun v w' => ∃ (r : Nat), v = vF r ∧ (cn .f32 r = cn .f32 (jetF x)) ∧ (r < wid .f32) ∧ Mod [] w w' := by
  refine Cl.of Try.func29 Try.ntmps29 rfl rfl (ρ := [(0, vF a)]) rfl ?_
  refine CE.seq ?_
  refine CE.region ?_
  refine WL.det (op_assign rfl) rfl rfl rfl ?_
  refine WL.end ?_
  refine NE.code ?_
  refine CE.seq ?_
  refine CE.region ?_
  refine WL.det (op_move rfl) rfl rfl rfl ?_
  refine WL.det (op_move rfl) rfl rfl rfl ?_
  refine WL.det (op_move rfl) rfl rfl rfl ?_
  refine WL.op (op_farith (e := (fop .mul .f32 x x)) (.inr (.inr (.inl rfl))) rfl rfl ha ha rfl) rfl rfl (ltb rfl) ?_
  rintro _ w1 ⟨⟨f1, rfl, hf1, lf1⟩, m1⟩
  refine WL.op (op_farith (e := (fop .sub .f32 (fop .mul .f32 x x) 1065353216)) (.inr (.inl rfl)) rfl rfl hf1 rfl rfl) rfl rfl (ltb rfl) ?_
  rintro _ w2 ⟨⟨f2, rfl, hf2, lf2⟩, m2⟩
  refine WL.op (op_farith (e := (fop .mul .f32 x (fop .sub .f32 (fop .mul .f32 x x) 1065353216))) (.inr (.inr (.inl rfl))) rfl rfl ha hf2 rfl) rfl rfl (ltb rfl) ?_
  rintro _ w3 ⟨⟨f3, rfl, hf3, lf3⟩, m3⟩
  refine WL.call (oc_call (vs := [vF f3, vF 1065353216]) (cap := []) rfl rfl rfl Try.call77 (c_clamp f3 (fop .mul .f32 x (fop .sub .f32 (fop .mul .f32 x x) 1065353216)) 1065353216 hf3 lf3 (by decide +kernel) w3)) rfl rfl (ltb rfl) ?_
  rintro _ w4 ⟨r1, rfl, h1, h2, m4⟩
  refine WL.det (op_assign rfl) rfl rfl rfl ?_
  refine WL.end ?_
  refine NE.code ?_
  refine CE.ret' ?_
  refine XE.leave1 Try.results29 rfl ?_
  refine ⟨r1, rfl, ?_, h2, (((((Mod.refl [] w).nt m1).nt m2).nt m3).nt m4)⟩
  all_goals first | assumption | rfl

set_option maxRecDepth 100000 in
set_option maxHeartbeats 2000000 in
theorem c_l05Edge (a : Nat) (x : Nat) (ha : cn .f32 a = cn .f32 x) (la : a < wid .f32) (w : World) : Cl Try.prog 112 #[vF a] w fun v w' => ∃ (r : Nat), v = vF r ∧ (cn .f32 r = cn .f32 (jetF x)) ∧ (r < wid .f32) ∧ Mod [] w w' := by
  refine Cl.of Try.func112 Try.ntmps112 rfl rfl (ρ := [(0, vF a)]) rfl ?_
  refine CE.seq ?_
  refine CE.region ?_
  refine WL.det (op_assign rfl) rfl rfl rfl ?_
  refine WL.end ?_
  refine NE.code ?_
  refine CE.seq ?_
  refine CE.region ?_
  refine WL.det (op_move rfl) rfl rfl rfl ?_
  refine WL.det (op_move rfl) rfl rfl rfl ?_
  refine WL.det (op_move rfl) rfl rfl rfl ?_
  refine WL.op (op_farith (e := (fop .mul .f32 x x)) (.inr (.inr (.inl rfl))) rfl rfl ha ha rfl) rfl rfl (ltb rfl) ?_
  rintro _ w1 ⟨⟨f1, rfl, hf1, lf1⟩, m1⟩
  refine WL.op (op_farith (e := (fop .sub .f32 (fop .mul .f32 x x) 1065353216)) (.inr (.inl rfl)) rfl rfl hf1 rfl rfl) rfl rfl (ltb rfl) ?_
  rintro _ w2 ⟨⟨f2, rfl, hf2, lf2⟩, m2⟩
  refine WL.op (op_farith (e := (fop .mul .f32 x (fop .sub .f32 (fop .mul .f32 x x) 1065353216))) (.inr (.inr (.inl rfl))) rfl rfl ha hf2 rfl) rfl rfl (ltb rfl) ?_
  rintro _ w3 ⟨⟨f3, rfl, hf3, lf3⟩, m3⟩
  refine WL.call (oc_call (vs := [vF f3, vF 1065353216]) (cap := []) rfl rfl rfl Try.call131 (c_l01Clamp f3 (fop .mul .f32 x (fop .sub .f32 (fop .mul .f32 x x) 1065353216)) 1065353216 hf3 lf3 (by decide +kernel) w3)) rfl rfl (ltb rfl) ?_
  rintro _ w4 ⟨r1, rfl, h1, h2, m4⟩
  refine WL.det (op_assign rfl) rfl rfl rfl ?_
  refine WL.end ?_
  refine NE.code ?_
  refine CE.ret' ?_
  refine XE.leave1 Try.results112 rfl ?_
  refine ⟨r1, rfl, ?_, h2, (((((Mod.refl [] w).nt m1).nt m2).nt m3).nt m4)⟩
  all_goals first | assumption | rfl

set_option maxRecDepth 100000 in
set_option maxHeartbeats 2000000 in
theorem c_ValidJet (n : Nat) (c : Nat) (b : Nat) (xs : List Nat) (m : Nat) (c2 : Nat) (d : Nat) (ys : List Nat) (j : Int) (jj : Int) (lk : Int) (lc0 : Nat) (lc1 : Nat) (lc2 : Nat) (ls0 : Nat) (ls1 : Nat) (dk : Int) (dc0 : Nat) (dc1 : Nat) (dc2 : Nat) (ds0 : Nat) (ds1 : Nat) (ne : Nat) (fa : Nat) (ln : xs.length = n) (lm : ys.length = m) (hn : n ≤ 1048576) (hm : m ≤ 1048576) (w : World) (r : Rng w b 0 (fl xs)) (ry : Rng w d 0 (fl ys)) : Cl Try.prog 81 #[.agg #[vS b 0 n c, vI j, vS d 0 m c2, vI jj, vI lk, vF lc0, vF lc1, vF lc2, vF ls0, vF ls1, vI dk, vF dc0, vF dc1, vF dc2, vF ds0, vF ds1, vF ne, vF fa]] w fun v w' => v = .bool (vJet n j m jj xs ys lk lc0 lc1 lc2 ls0 ls1 dk dc0 dc1 dc2 ds0 ds1 ne fa) ∧ Mod [] w w' := by
  refine Cl.of Try.func81 Try.ntmps81 rfl rfl (ρ := [(0, .agg #[vS b 0 n c, vI j, vS d 0 m c2, vI jj, vI lk, vF lc0, vF lc1, vF lc2, vF ls0, vF ls1, vI dk, vF dc0, vF dc1, vF dc2, vF ds0, vF ds1, vF ne, vF fa])]) rfl ?_
  refine CE.seq ?_
  refine CE.region ?_
  refine WL.op (op_box (cs := [vS b 0 n c, vI j, vS d 0 m c2, vI jj, vI lk, vF lc0, vF lc1, vF lc2, vF ls0, vF ls1, vI dk, vF dc0, vF dc1, vF dc2, vF ds0, vF ds1, vF ne, vF fa]) rfl rfl) rfl rfl (ltb rfl) ?_
  rintro _ w1 ⟨rfl, r1, m1, z1⟩
  refine WL.det (op_assign rfl) rfl rfl rfl ?_
  refine WL.end ?_
  refine NE.code ?_
  refine CE.seq ?_
  refine CE.region ?_
  refine WL.det (op_fieldAddr (off' := 0) rfl Try.runUnderlying61 rfl rfl Try.sizeOf33 rfl) rfl rfl rfl ?_
  refine WL.det (op_loadA (i := 0) (cs := [vS b 0 n c, vI j]) rfl Try.isAgg33 Try.sizeOf33 r1.rng rfl rfl rfl) rfl rfl rfl ?_
  refine WL.call (oc_call (vs := [.agg #[vS b 0 n c, vI j]]) (cap := []) rfl rfl rfl Try.call97 (c_isRing n c b xs j ln (by omega) w1 (r.ext m1))) rfl rfl (ltb rfl) ?_
  rintro _ w2 ⟨rfl, m2⟩
  refine WL.det (op_move rfl) rfl rfl rfl ?_
  rcases Bool.eq_false_or_eq_true (vRingF n j xs) with hb1 | hb1
  · refine WL.yes rfl rfl rfl (ltb rfl) rfl hb1 ?_
    refine WL.det (op_fieldAddr (off' := 2) rfl Try.runUnderlying61 rfl rfl Try.sizeOf33 rfl) rfl rfl rfl ?_
    refine WL.yes rfl rfl rfl (ltb rfl) rfl hb1 ?_
    refine WL.det (op_loadA (i := 2) (cs := [vS d 0 m c2, vI jj]) rfl Try.isAgg33 Try.sizeOf33 (r1.ext m2).rng rfl rfl rfl) rfl rfl rfl ?_
    refine WL.yes rfl rfl rfl (ltb rfl) rfl hb1 ?_
    refine WL.call (oc_call (vs := [.agg #[vS d 0 m c2, vI jj]]) (cap := []) rfl rfl rfl Try.call97 (c_isRing m c2 d ys jj lm (by omega) w2 ((ry.ext m1).ext m2))) rfl rfl (ltb rfl) ?_
    rintro _ w3 ⟨rfl, m3⟩
    refine WL.det (op_pick_t rfl hb1 rfl) rfl rfl rfl ?_
    refine WL.det (op_move rfl) rfl rfl rfl ?_
    rcases Bool.eq_false_or_eq_true (vRingF m jj ys) with hb2 | hb2
    · refine WL.yes rfl rfl rfl (ltb rfl) rfl hb2 ?_
      refine WL.det (op_fieldAddr (off' := 4) rfl Try.runUnderlying61 rfl rfl Try.sizeOf34 rfl) rfl rfl rfl ?_
      refine WL.yes rfl rfl rfl (ltb rfl) rfl hb2 ?_
      refine WL.det (op_loadA (i := 4) (cs := [vI lk, vF lc0, vF lc1, vF lc2, vF ls0, vF ls1]) rfl Try.isAgg34 Try.sizeOf34 ((r1.ext m2).ext m3).rng rfl rfl rfl) rfl rfl rfl ?_
      refine WL.yes rfl rfl rfl (ltb rfl) rfl hb2 ?_
      refine WL.call (oc_call (vs := [.agg #[vI lk, vF lc0, vF lc1, vF lc2, vF ls0, vF ls1], vI 1]) (cap := []) rfl rfl rfl Try.call98 (c_isFilter lk lc0 lc1 lc2 ls0 ls1 (1 : Int) w3)) rfl rfl (ltb rfl) ?_
      rintro _ w4 ⟨rfl, m4⟩
      refine WL.det (op_pick_t rfl hb2 rfl) rfl rfl rfl ?_
      refine WL.det (op_move rfl) rfl rfl rfl ?_
      rcases Bool.eq_false_or_eq_true ((vFil lk lc0 lc1 lc2 ls0 ls1 && (lk == (1 : Int)))) with hb3 | hb3
      · have hp3 := hb3; try simp only [Bool.and_eq_true, Bool.or_eq_true, Bool.not_eq_true', Bool.not_eq_false', Bool.and_eq_false_iff, Bool.or_eq_false_iff, decide_eq_true_eq, decide_eq_false_iff_not, beq_iff_eq, bne_iff_ne, beq_eq_false_iff_ne, bne_eq_false_iff_eq, ne_eq, Bool.false_eq_true, not_false_eq_true, not_true_eq_false, vIn_t, vIn_f] at hp3
        refine WL.yes rfl rfl rfl (ltb rfl) rfl hb3 ?_
        refine WL.det (op_fieldAddr (off' := 10) rfl Try.runUnderlying61 rfl rfl Try.sizeOf34 rfl) rfl rfl rfl ?_
        refine WL.yes rfl rfl rfl (ltb rfl) rfl hb3 ?_
        refine WL.det (op_loadA (i := 10) (cs := [vI dk, vF dc0, vF dc1, vF dc2, vF ds0, vF ds1]) rfl Try.isAgg34 Try.sizeOf34 (((r1.ext m2).ext m3).ext m4).rng rfl rfl rfl) rfl rfl rfl ?_
        refine WL.yes rfl rfl rfl (ltb rfl) rfl hb3 ?_
        refine WL.call (oc_call (vs := [.agg #[vI dk, vF dc0, vF dc1, vF dc2, vF ds0, vF ds1], vI 5]) (cap := []) rfl rfl rfl Try.call98 (c_isFilter dk dc0 dc1 dc2 ds0 ds1 (5 : Int) w4)) rfl rfl (ltb rfl) ?_
        rintro _ w5 ⟨rfl, m5⟩
        refine WL.det (op_pick_t rfl hb3 rfl) rfl rfl rfl ?_
        refine WL.det (op_move rfl) rfl rfl rfl ?_
        rcases Bool.eq_false_or_eq_true ((vFil dk dc0 dc1 dc2 ds0 ds1 && (dk == (5 : Int)))) with hb4 | hb4
        · have hp4 := hb4; try simp only [Bool.and_eq_true, Bool.or_eq_true, Bool.not_eq_true', Bool.not_eq_false', Bool.and_eq_false_iff, Bool.or_eq_false_iff, decide_eq_true_eq, decide_eq_false_iff_not, beq_iff_eq, bne_iff_ne, beq_eq_false_iff_ne, bne_eq_false_iff_eq, ne_eq, Bool.false_eq_true, not_false_eq_true, not_true_eq_false, vIn_t, vIn_f] at hp4
          refine WL.yes rfl rfl rfl (ltb rfl) rfl hb4 ?_
          refine WL.det (op_fieldAddr (off' := 16) rfl Try.runUnderlying61 rfl rfl Try.sizeOf25 rfl) rfl rfl rfl ?_
          refine WL.yes rfl rfl rfl (ltb rfl) rfl hb4 ?_
          refine WL.det (op_load1 (i := 16) rfl Try.isAgg25 ((((r1.ext m2).ext m3).ext m4).ext m5).rng rfl rfl) rfl rfl rfl ?_
          refine WL.yes rfl rfl rfl (ltb rfl) rfl hb4 ?_
          refine WL.det (op_fieldAddr (off' := 17) rfl Try.runUnderlying61 rfl rfl Try.sizeOf25 rfl) rfl rfl rfl ?_
          refine WL.yes rfl rfl rfl (ltb rfl) rfl hb4 ?_
          refine WL.det (op_load1 (i := 17) rfl Try.isAgg25 ((((r1.ext m2).ext m3).ext m4).ext m5).rng rfl rfl) rfl rfl rfl ?_
          refine WL.yes rfl rfl rfl (ltb rfl) rfl hb4 ?_
          refine WL.op (op_buildSl (qs := [(0, vF ne), (1, vF fa)]) (cells := #[vF ne, vF fa]) rfl Try.runUnderlying22 Try.sizeOf25 Try.zeroValue25 (by decide) (by decide) (by kernel_rfl)) rfl rfl (ltb rfl) ?_
          rintro _ w6 ⟨rfl, r2, m6, z2⟩
          refine WL.yes rfl rfl rfl (ltb rfl) rfl hb4 ?_
          refine WL.call (oc_call (vs := [vS w5.heap.size 0 2 2]) (cap := []) rfl rfl rfl Try.call99 (c_areFinite 2 2 w5.heap.size [ne, fa] rfl (by omega) w6 r2.rng)) rfl rfl (ltb rfl) ?_
          rintro _ w7 ⟨rfl, m7⟩
          refine WL.det (op_pick_t rfl hb4 rfl) rfl rfl rfl ?_
          refine WL.det (op_assign rfl) rfl rfl rfl ?_
          refine WL.end ?_
          refine NE.code ?_
          refine CE.ret' ?_
          refine XE.leave1 Try.results81 rfl ?_
          refine ⟨?_, ((((((((Mod.refl [] w).nt m1).nt m2).nt m3).nt m4).nt m5).nt m6).nt m7)⟩
          all_goals simp_all [vJet]
        · have hp4 := hb4; try simp only [Bool.and_eq_true, Bool.or_eq_true, Bool.not_eq_true', Bool.not_eq_false', Bool.and_eq_false_iff, Bool.or_eq_false_iff, decide_eq_true_eq, decide_eq_false_iff_not, beq_iff_eq, bne_iff_ne, beq_eq_false_iff_ne, bne_eq_false_iff_eq, ne_eq, Bool.false_eq_true, not_false_eq_true, not_true_eq_false, vIn_t, vIn_f] at hp4
          refine WL.no rfl rfl rfl (ltb rfl) rfl hb4 rfl (ltb rfl) ?_
          refine WL.no rfl rfl rfl (ltb rfl) rfl hb4 rfl (ltb rfl) ?_
          refine WL.no rfl rfl rfl (ltb rfl) rfl hb4 rfl (ltb rfl) ?_
          refine WL.no rfl rfl rfl (ltb rfl) rfl hb4 rfl (ltb rfl) ?_
          refine WL.no rfl rfl rfl (ltb rfl) rfl hb4 rfl (ltb rfl) ?_
          refine WL.no rfl rfl rfl (ltb rfl) rfl hb4 rfl (ltb rfl) ?_
          refine WL.det (op_pick_f rfl hb4 rfl) rfl rfl rfl ?_
          refine WL.det (op_assign rfl) rfl rfl rfl ?_
          refine WL.end ?_
          refine NE.code ?_
          refine CE.ret' ?_
          refine XE.leave1 Try.results81 rfl ?_
          refine ⟨?_, ((((((Mod.refl [] w).nt m1).nt m2).nt m3).nt m4).nt m5)⟩
          all_goals simp_all [vJet]
      · have hp3 := hb3; try simp only [Bool.and_eq_true, Bool.or_eq_true, Bool.not_eq_true', Bool.not_eq_false', Bool.and_eq_false_iff, Bool.or_eq_false_iff, decide_eq_true_eq, decide_eq_false_iff_not, beq_iff_eq, bne_iff_ne, beq_eq_false_iff_ne, bne_eq_false_iff_eq, ne_eq, Bool.false_eq_true, not_false_eq_true, not_true_eq_false, vIn_t, vIn_f] at hp3
        refine WL.no rfl rfl rfl (ltb rfl) rfl hb3 rfl (ltb rfl) ?_
        refine WL.no rfl rfl rfl (ltb rfl) rfl hb3 rfl (ltb rfl) ?_
        refine WL.no rfl rfl rfl (ltb rfl) rfl hb3 rfl (ltb rfl) ?_
        refine WL.det (op_pick_f rfl hb3 rfl) rfl rfl rfl ?_
        refine WL.det (op_move rfl) rfl rfl rfl ?_
        refine WL.no rfl rfl rfl (ltb rfl) rfl rfl rfl (ltb rfl) ?_
        refine WL.no rfl rfl rfl (ltb rfl) rfl rfl rfl (ltb rfl) ?_
        refine WL.no rfl rfl rfl (ltb rfl) rfl rfl rfl (ltb rfl) ?_
        refine WL.no rfl rfl rfl (ltb rfl) rfl rfl rfl (ltb rfl) ?_
        refine WL.no rfl rfl rfl (ltb rfl) rfl rfl rfl (ltb rfl) ?_
        refine WL.no rfl rfl rfl (ltb rfl) rfl rfl rfl (ltb rfl) ?_
        refine WL.det (op_pick_f rfl rfl rfl) rfl rfl rfl ?_
        refine WL.det (op_assign rfl) rfl rfl rfl ?_
        refine WL.end ?_
        refine NE.code ?_
        refine CE.ret' ?_
        refine XE.leave1 Try.results81 rfl ?_
        refine ⟨?_, (((((Mod.refl [] w).nt m1).nt m2).nt m3).nt m4)⟩
        all_goals simp_all [vJet]
    · refine WL.no rfl rfl rfl (ltb rfl) rfl hb2 rfl (ltb rfl) ?_
      refine WL.no rfl rfl rfl (ltb rfl) rfl hb2 rfl (ltb rfl) ?_
      refine WL.no rfl rfl rfl (ltb rfl) rfl hb2 rfl (ltb rfl) ?_
      refine WL.det (op_pick_f rfl hb2 rfl) rfl rfl rfl ?_
      refine WL.det (op_move rfl) rfl rfl rfl ?_
      refine WL.no rfl rfl rfl (ltb rfl) rfl rfl rfl (ltb rfl) ?_
      refine WL.no rfl rfl rfl (ltb rfl) rfl rfl rfl (ltb rfl) ?_
      refine WL.no rfl rfl rfl (ltb rfl) rfl rfl rfl (ltb rfl) ?_
      refine WL.det (op_pick_f rfl rfl rfl) rfl rfl rfl ?_
      refine WL.det (op_move rfl) rfl rfl rfl ?_
      refine WL.no rfl rfl rfl (ltb rfl) rfl rfl rfl (ltb rfl) ?_
      refine WL.no rfl rfl rfl (ltb rfl) rfl rfl rfl (ltb rfl) ?_
      refine WL.no rfl rfl rfl (ltb rfl) rfl rfl rfl (ltb rfl) ?_
      refine WL.no rfl rfl rfl (ltb rfl) rfl rfl rfl (ltb rfl) ?_
      refine WL.no rfl rfl rfl (ltb rfl) rfl rfl rfl (ltb rfl) ?_
      refine WL.no rfl rfl rfl (ltb rfl) rfl rfl rfl (ltb rfl) ?_
      refine WL.det (op_pick_f rfl rfl rfl) rfl rfl rfl ?_
      refine WL.det (op_assign rfl) rfl rfl rfl ?_
      refine WL.end ?_
      refine NE.code ?_
      refine CE.ret' ?_
      refine XE.leave1 Try.results81 rfl ?_
      refine ⟨?_, ((((Mod.refl [] w).nt m1).nt m2).nt m3)⟩
      all_goals simp_all [vJet]
  · refine WL.no rfl rfl rfl (ltb rfl) rfl hb1 rfl (ltb rfl) ?_
    refine WL.no rfl rfl rfl (ltb rfl) rfl hb1 rfl (ltb rfl) ?_
    refine WL.no rfl rfl rfl (ltb rfl) rfl hb1 rfl (ltb rfl) ?_
    refine WL.det (op_pick_f rfl hb1 rfl) rfl rfl rfl ?_
    refine WL.det (op_move rfl) rfl rfl rfl ?_
    refine WL.no rfl rfl rfl (ltb rfl) rfl rfl rfl (ltb rfl) ?_
    refine WL.no rfl rfl rfl (ltb rfl) rfl rfl rfl (ltb rfl) ?_
    refine WL.no rfl rfl rfl (ltb rfl) rfl rfl rfl (ltb rfl) ?_
    refine WL.det (op_pick_f rfl rfl rfl) rfl rfl rfl ?_
    refine WL.det (op_move rfl) rfl rfl rfl ?_
    refine WL.no rfl rfl rfl (ltb rfl) rfl rfl rfl (ltb rfl) ?_
    refine WL.no rfl rfl rfl (ltb rfl) rfl rfl rfl (ltb rfl) ?_
    refine WL.no rfl rfl rfl (ltb rfl) rfl rfl rfl (ltb rfl) ?_
    refine WL.det (op_pick_f rfl rfl rfl) rfl rfl rfl ?_
    refine WL.det (op_move rfl) rfl rfl rfl ?_
    refine WL.no rfl rfl rfl (ltb rfl) rfl rfl rfl (ltb rfl) ?_
    refine WL.no rfl rfl rfl (ltb rfl) rfl rfl rfl (ltb rfl) ?_
    refine WL.no rfl rfl rfl (ltb rfl) rfl rfl rfl (ltb rfl) ?_
    refine WL.no rfl rfl rfl (ltb rfl) rfl rfl rfl (ltb rfl) ?_
    refine WL.no rfl rfl rfl (ltb rfl) rfl rfl rfl (ltb rfl) ?_
    refine WL.no rfl rfl rfl (ltb rfl) rfl rfl rfl (ltb rfl) ?_
    refine WL.det (op_pick_f rfl rfl rfl) rfl rfl rfl ?_
    refine WL.det (op_assign rfl) rfl rfl rfl ?_
    refine WL.end ?_
    refine NE.code ?_
    refine CE.ret' ?_
    refine XE.leave1 Try.results81 rfl ?_
    refine ⟨?_, (((Mod.refl [] w).nt m1).nt m2)⟩
    all_goals simp_all [vJet]

set_option maxRecDepth 100000 in
set_option maxHeartbeats 2000000 in
theorem c_l05Jet (n : Nat) (c : Nat) (b : Nat) (xs : List Nat) (m : Nat) (c2 : Nat) (d : Nat) (ys : List Nat) (j : Int) (jj : Int) (lk : Int) (lc0 : Nat) (lc1 : Nat) (lc2 : Nat) (ls0 : Nat) (ls1 : Nat) (dk : Int) (dc0 : Nat) (dc1 : Nat) (dc2 : Nat) (ds0 : Nat) (ds1 : Nat) (ne : Nat) (fa : Nat) (p : Nat) (k : Nat) (vs : List Value) (ln : xs.length = n) (lm : ys.length = m) (hn : n ≤ 1048576) (hm : m ≤ 1048576) (hk : k + 18 ≤ vs.length) (w : World) (q : Rng w p 0 (splice vs k [vS b 0 n c, vI j, vS d 0 m c2, vI jj, vI lk, vF lc0, vF lc1, vF lc2, vF ls0, vF ls1, vI dk, vF dc0, vF dc1, vF dc2, vF ds0, vF ds1, vF ne, vF fa])) (r : Rng w b 0 (fl xs)) (ry : Rng w d 0 (fl ys)) : Cl Try.prog 78 #[vP p k] w fun v w' => v = .bool (vJet n j m jj xs ys lk lc0 lc1 lc2 ls0 ls1 dk dc0 dc1 dc2 ds0 ds1 ne fa) ∧ Mod [] w w' := by
  refine Cl.of Try.func78 Try.ntmps78 rfl rfl (ρ := [(0, vP p k)]) rfl ?_
  refine CE.seq ?_
  refine CE.region ?_
  refine WL.det (op_assign rfl) rfl rfl rfl ?_
  refine WL.end ?_
  refine NE.code ?_
  refine CE.seq ?_
  rcases Bool.eq_false_or_eq_true ((vRingF n j xs && vRingF m jj ys)) with hb1 | hb1
  · rcases Bool.eq_false_or_eq_true (vFil lk lc0 lc1 lc2 ls0 ls1) with hb2 | hb2
    · rcases Bool.eq_false_or_eq_true ((lk == (1 : Int))) with hb3 | hb3
      · have hp3 := hb3; try simp only [Bool.and_eq_true, Bool.or_eq_true, Bool.not_eq_true', Bool.not_eq_false', Bool.and_eq_false_iff, Bool.or_eq_false_iff, decide_eq_true_eq, decide_eq_false_iff_not, beq_iff_eq, bne_iff_ne, beq_eq_false_iff_ne, bne_eq_false_iff_eq, ne_eq, Bool.false_eq_true, not_false_eq_true, not_true_eq_false, vIn_t, vIn_f] at hp3
        rcases Bool.eq_false_or_eq_true (vFil dk dc0 dc1 dc2 ds0 ds1) with hb4 | hb4
        · rcases Bool.eq_false_or_eq_true ((dk == (5 : Int))) with hb5 | hb5
          · have hp5 := hb5; try simp only [Bool.and_eq_true, Bool.or_eq_true, Bool.not_eq_true', Bool.not_eq_false', Bool.and_eq_false_iff, Bool.or_eq_false_iff, decide_eq_true_eq, decide_eq_false_iff_not, beq_iff_eq, bne_iff_ne, beq_eq_false_iff_ne, bne_eq_false_iff_eq, ne_eq, Bool.false_eq_true, not_false_eq_true, not_true_eq_false, vIn_t, vIn_f] at hp5
            refine CE.draw (fun | 9 => some (fun _ wA uA wB => uA = .bool (vRingF n j xs && vRingF m jj ys) ∧ Mod [] wA wB) | 14 => some (fun _ wA uA wB => uA = .bool (vFil lk lc0 lc1 lc2 ls0 ls1) ∧ Mod [] wA wB) | 28 => some (fun _ wA uA wB => uA = .bool (vFil dk dc0 dc1 dc2 ds0 ds1) ∧ Mod [] wA wB) | _ => none) [0, 1, 2, 3, 4, 5, 6, 7, 8, 9, 10, 11, 12, 13, 14, 15, 16, 17, 18, 19, 20, 21, 22, 23, 24, 25, 26, 27, 28, 29, 30, 31, 32, 33, 34, 35, 36, 37, 38, 39, 40, 41, 42, 43, 44, 45, 46] [47, 48, 49, 50] [] (by kernel_rfl) (by kernel_rfl) ?_
            have md1 : Mod [] w w.drew := (Mod.refl _ _).drew
            generalize w.drew = w1 at md1 ⊢
            refine DR.det (i := 0) rfl rfl (by kernel_rfl) (.free rfl) rfl rfl (fun wD mD => op_move rfl) ?_
            refine DR.det (i := 1) rfl rfl (by kernel_rfl) (.free rfl) rfl rfl (fun wD mD => op_nilCheck rfl) ?_
            refine DR.det (i := 2) rfl rfl (by kernel_rfl) (.free rfl) rfl rfl (fun wD mD => op_fieldAddr (off' := k) rfl Try.runUnderlying61 rfl rfl Try.sizeOf33 rfl) ?_
            refine DR.det (i := 3) rfl rfl (by kernel_rfl) (.free rfl) rfl rfl (fun wD mD => op_loadA (i := k) (cs := [vS b 0 n c, vI j]) rfl Try.isAgg33 Try.sizeOf33 ((q.ext md1).ext mD) (Nat.zero_add _) (sub_take (i := 0) hk (lB rfl) rfl) rfl) ?_
            refine DR.det (i := 4) rfl rfl (by kernel_rfl) (.free rfl) rfl rfl (fun wD mD => op_move rfl) ?_
            refine DR.det (i := 5) rfl rfl (by kernel_rfl) (.free rfl) rfl rfl (fun wD mD => op_nilCheck rfl) ?_
            refine DR.det (i := 6) rfl rfl (by kernel_rfl) (.free rfl) rfl rfl (fun wD mD => op_fieldAddr (off' := k + 2) rfl Try.runUnderlying61 rfl rfl Try.sizeOf33 rfl) ?_
            refine DR.det (i := 7) rfl rfl (by kernel_rfl) (.free rfl) rfl rfl (fun wD mD => op_loadA (i := k + 2) (cs := [vS d 0 m c2, vI jj]) rfl Try.isAgg33 Try.sizeOf33 ((q.ext md1).ext mD) (Nat.zero_add _) (sub_take (i := 2) hk (lB rfl) rfl) rfl) ?_
            refine DR.one1 (i := 8) rfl rfl (by kernel_rfl) (.free rfl) rfl (ltb rfl) ?_
            intro w2 m1
            refine Op1.mono (op_buildSl (qs := [(0, .agg #[vS b 0 n c, vI j]), (1, .agg #[vS d 0 m c2, vI jj])]) (cells := #[vS b 0 n c, vI j, vS d 0 m c2, vI jj]) rfl Try.runUnderlying121 Try.sizeOf33 Try.zeroValue33 (by decide) (by decide) (by kernel_rfl)) ?_
            rintro _ w3 ⟨rfl, r1, m2, z1⟩
            refine ⟨(((Mod.refl [] w1).nt m1).nt m2), ?_⟩
            refine DR.rebase ?_
            refine DR.call (i := 9) (fun uA => uA = .bool (vRingF n j xs && vRingF m jj ys)) rfl rfl (by kernel_rfl) (.free rfl) rfl (ltb rfl) ⟨_, rfl⟩ (vs := [.func (.func 90) #[] #[], vS w2.heap.size 0 2 2]) rfl (fun wD mD => oc_call (vs := [vS w2.heap.size 0 2 2]) (cap := []) rfl rfl rfl Try.call90 (c_l04Rings2 n c b xs m c2 d ys j jj w2.heap.size 2 ln lm (by omega) (by omega) wD (r1.ext mD).rng ((((r.ext md1).ext m1).ext m2).ext mD) ((((ry.ext md1).ext m1).ext m2).ext mD))) ?_ ?_
            · rintro w1 _ w2 m1 ⟨rfl, m2⟩; exact ⟨rfl, m2⟩
            rintro _ rfl
            refine DR.det (i := 10) rfl rfl (by kernel_rfl) (.free rfl) rfl rfl (fun wD mD => op_move rfl) ?_
            refine DR.det (i := 11) rfl rfl (by kernel_rfl) (.yes rfl rfl rfl (ltb rfl) rfl hb1) rfl rfl (fun wD mD => op_move rfl) ?_
            refine DR.det (i := 12) rfl rfl (by kernel_rfl) (.yes rfl rfl rfl (ltb rfl) rfl hb1) rfl rfl (fun wD mD => op_nilCheck rfl) ?_
            refine DR.det (i := 13) rfl rfl (by kernel_rfl) (.yes rfl rfl rfl (ltb rfl) rfl hb1) rfl rfl (fun wD mD => op_fieldAddr (off' := k + 4) rfl Try.runUnderlying61 rfl rfl Try.sizeOf34 rfl) ?_
            refine DR.call (i := 14) (fun uA => uA = .bool (vFil lk lc0 lc1 lc2 ls0 ls1)) rfl rfl (by kernel_rfl) (.yes rfl rfl rfl (ltb rfl) rfl hb1) rfl (ltb rfl) ⟨_, rfl⟩ (vs := [.func (.func 91) #[] #[], vP p (k + 4)]) rfl (fun wD mD => oc_call (vs := [vP p (k + 4)]) (cap := []) rfl rfl rfl Try.call91 (c_l02Ok lk lc0 lc1 lc2 ls0 ls1 p (k + 4) (splice vs k [vS b 0 n c, vI j, vS d 0 m c2, vI jj, vI lk, vF lc0, vF lc1, vF lc2, vF ls0, vF ls1, vI dk, vF dc0, vF dc1, vF dc2, vF ds0, vF ds1, vF ne, vF fa]) (sub_fit (i := 4) hk (lB rfl)) wD (Rng.congr ((((q.ext md1).ext m1).ext m2).ext mD) (sub_same (i := 4) hk (lB rfl) rfl)))) ?_ ?_
            · rintro w1 _ w2 m1 ⟨rfl, m2⟩; exact ⟨rfl, m2⟩
            rintro _ rfl
            refine DR.det (i := 15) rfl rfl (by kernel_rfl) (.free rfl) rfl rfl (fun wD mD => op_pick_t rfl hb1 rfl) ?_
            refine DR.det (i := 16) rfl rfl (by kernel_rfl) (.free rfl) rfl rfl (fun wD mD => op_move rfl) ?_
            refine DR.det (i := 17) rfl rfl (by kernel_rfl) (.yes rfl rfl rfl (ltb rfl) rfl hb2) rfl rfl (fun wD mD => op_move rfl) ?_
            refine DR.det (i := 18) rfl rfl (by kernel_rfl) (.yes rfl rfl rfl (ltb rfl) rfl hb2) rfl rfl (fun wD mD => op_nilCheck rfl) ?_
            refine DR.det (i := 19) rfl rfl (by kernel_rfl) (.yes rfl rfl rfl (ltb rfl) rfl hb2) rfl rfl (fun wD mD => op_fieldAddr (off' := k + 4) rfl Try.runUnderlying61 rfl rfl Try.sizeOf34 rfl) ?_
            refine DR.det (i := 20) rfl rfl (by kernel_rfl) (.yes rfl rfl rfl (ltb rfl) rfl hb2) rfl rfl (fun wD mD => op_fieldAddr (off' := k + 4) rfl Try.runUnderlying34 rfl rfl Try.sizeOf2 rfl) ?_
            refine DR.det (i := 21) rfl rfl (by kernel_rfl) (.yes rfl rfl rfl (ltb rfl) rfl hb2) rfl rfl (fun wD mD => op_load1 (i := k + 4) rfl Try.isAgg2 ((((q.ext md1).ext m1).ext m2).ext mD) (Nat.zero_add _) (sub_get (i := 4) hk rfl)) ?_
            refine DR.det (i := 22) rfl rfl (by kernel_rfl) (.yes rfl rfl rfl (ltb rfl) rfl hb2) rfl rfl (fun wD mD => op_eqi rfl rfl) ?_
            refine DR.det (i := 23) rfl rfl (by kernel_rfl) (.free rfl) rfl rfl (fun wD mD => op_pick_t rfl hb2 rfl) ?_
            refine DR.det (i := 24) rfl rfl (by kernel_rfl) (.free rfl) rfl rfl (fun wD mD => op_move rfl) ?_
            refine DR.det (i := 25) rfl rfl (by kernel_rfl) (.yes rfl rfl rfl (ltb rfl) rfl hb3) rfl rfl (fun wD mD => op_move rfl) ?_
            refine DR.det (i := 26) rfl rfl (by kernel_rfl) (.yes rfl rfl rfl (ltb rfl) rfl hb3) rfl rfl (fun wD mD => op_nilCheck rfl) ?_
            refine DR.det (i := 27) rfl rfl (by kernel_rfl) (.yes rfl rfl rfl (ltb rfl) rfl hb3) rfl rfl (fun wD mD => op_fieldAddr (off' := k + 10) rfl Try.runUnderlying61 rfl rfl Try.sizeOf34 rfl) ?_
            refine DR.call (i := 28) (fun uA => uA = .bool (vFil dk dc0 dc1 dc2 ds0 ds1)) rfl rfl (by kernel_rfl) (.yes rfl rfl rfl (ltb rfl) rfl hb3) rfl (ltb rfl) ⟨_, rfl⟩ (vs := [.func (.func 91) #[] #[], vP p (k + 10)]) rfl (fun wD mD => oc_call (vs := [vP p (k + 10)]) (cap := []) rfl rfl rfl Try.call91 (c_l02Ok dk dc0 dc1 dc2 ds0 ds1 p (k + 10) (splice vs k [vS b 0 n c, vI j, vS d 0 m c2, vI jj, vI lk, vF lc0, vF lc1, vF lc2, vF ls0, vF ls1, vI dk, vF dc0, vF dc1, vF dc2, vF ds0, vF ds1, vF ne, vF fa]) (sub_fit (i := 10) hk (lB rfl)) wD (Rng.congr ((((q.ext md1).ext m1).ext m2).ext mD) (sub_same (i := 10) hk (lB rfl) rfl)))) ?_ ?_
            · rintro w1 _ w2 m1 ⟨rfl, m2⟩; exact ⟨rfl, m2⟩
            rintro _ rfl
            refine DR.det (i := 29) rfl rfl (by kernel_rfl) (.free rfl) rfl rfl (fun wD mD => op_pick_t rfl hb3 rfl) ?_
            refine DR.det (i := 30) rfl rfl (by kernel_rfl) (.free rfl) rfl rfl (fun wD mD => op_move rfl) ?_
            refine DR.det (i := 31) rfl rfl (by kernel_rfl) (.yes rfl rfl rfl (ltb rfl) rfl hb4) rfl rfl (fun wD mD => op_move rfl) ?_
            refine DR.det (i := 32) rfl rfl (by kernel_rfl) (.yes rfl rfl rfl (ltb rfl) rfl hb4) rfl rfl (fun wD mD => op_nilCheck rfl) ?_
            refine DR.det (i := 33) rfl rfl (by kernel_rfl) (.yes rfl rfl rfl (ltb rfl) rfl hb4) rfl rfl (fun wD mD => op_fieldAddr (off' := k + 10) rfl Try.runUnderlying61 rfl rfl Try.sizeOf34 rfl) ?_
            refine DR.det (i := 34) rfl rfl (by kernel_rfl) (.yes rfl rfl rfl (ltb rfl) rfl hb4) rfl rfl (fun wD mD => op_fieldAddr (off' := k + 10) rfl Try.runUnderlying34 rfl rfl Try.sizeOf2 rfl) ?_
            refine DR.det (i := 35) rfl rfl (by kernel_rfl) (.yes rfl rfl rfl (ltb rfl) rfl hb4) rfl rfl (fun wD mD => op_load1 (i := k + 10) rfl Try.isAgg2 ((((q.ext md1).ext m1).ext m2).ext mD) (Nat.zero_add _) (sub_get (i := 10) hk rfl)) ?_
            refine DR.det (i := 36) rfl rfl (by kernel_rfl) (.yes rfl rfl rfl (ltb rfl) rfl hb4) rfl rfl (fun wD mD => op_eqi rfl rfl) ?_
            refine DR.det (i := 37) rfl rfl (by kernel_rfl) (.free rfl) rfl rfl (fun wD mD => op_pick_t rfl hb4 rfl) ?_
            refine DR.det (i := 38) rfl rfl (by kernel_rfl) (.free rfl) rfl rfl (fun wD mD => op_move rfl) ?_
            refine DR.det (i := 39) rfl rfl (by kernel_rfl) (.yes rfl rfl rfl (ltb rfl) rfl hb5) rfl rfl (fun wD mD => op_move rfl) ?_
            refine DR.det (i := 40) rfl rfl (by kernel_rfl) (.yes rfl rfl rfl (ltb rfl) rfl hb5) rfl rfl (fun wD mD => op_nilCheck rfl) ?_
            refine DR.det (i := 41) rfl rfl (by kernel_rfl) (.yes rfl rfl rfl (ltb rfl) rfl hb5) rfl rfl (fun wD mD => op_fieldAddr (off' := k + 16) rfl Try.runUnderlying61 rfl rfl Try.sizeOf25 rfl) ?_
            refine DR.det (i := 42) rfl rfl (by kernel_rfl) (.yes rfl rfl rfl (ltb rfl) rfl hb5) rfl rfl (fun wD mD => op_load1 (i := k + 16) rfl Try.isAgg25 ((((q.ext md1).ext m1).ext m2).ext mD) (Nat.zero_add _) (sub_get (i := 16) hk rfl)) ?_
            refine DR.det (i := 43) rfl rfl (by kernel_rfl) (.yes rfl rfl rfl (ltb rfl) rfl hb5) rfl rfl (fun wD mD => op_move rfl) ?_
            refine DR.det (i := 44) rfl rfl (by kernel_rfl) (.yes rfl rfl rfl (ltb rfl) rfl hb5) rfl rfl (fun wD mD => op_nilCheck rfl) ?_
            refine DR.det (i := 45) rfl rfl (by kernel_rfl) (.yes rfl rfl rfl (ltb rfl) rfl hb5) rfl rfl (fun wD mD => op_fieldAddr (off' := k + 17) rfl Try.runUnderlying61 rfl rfl Try.sizeOf25 rfl) ?_
            refine DR.det (i := 46) rfl rfl (by kernel_rfl) (.yes rfl rfl rfl (ltb rfl) rfl hb5) rfl rfl (fun wD mD => op_load1 (i := k + 17) rfl Try.isAgg25 ((((q.ext md1).ext m1).ext m2).ext mD) (Nat.zero_add _) (sub_get (i := 17) hk rfl)) ?_
            refine DR.done rfl ?_
            intro w4 m3
            refine WO.op rfl (.yes rfl rfl rfl (ltb rfl) rfl hb5) rfl (ltb rfl) (op_buildSl (qs := [(0, vF ne), (1, vF fa)]) (cells := #[vF ne, vF fa]) rfl Try.runUnderlying22 Try.sizeOf25 Try.zeroValue25 (by decide) (by decide) (by kernel_rfl)) ?_
            rintro _ w5 ⟨rfl, r2, m4, z2⟩
            refine WO.call rfl (.yes rfl rfl rfl (ltb rfl) rfl hb5) rfl (ltb rfl) (oc_call (vs := [vS w4.heap.size 0 2 2]) (cap := []) rfl rfl rfl Try.call92 (c_l04All 2 2 w4.heap.size [ne, fa] rfl (by omega) w5 r2.rng)) ?_
            rintro _ w6 ⟨rfl, m5⟩
            refine WO.det (op_pick_t rfl hb5 rfl) rfl (.free rfl) rfl rfl ?_
            refine WO.det (op_assign rfl) rfl (.free rfl) rfl rfl ?_
            refine WO.end ?_
            refine NE.code ?_
            refine CE.ret' ?_
            refine XE.leave1 Try.results78 rfl ?_
            refine ⟨?_, (((((((Mod.refl [] w).nt md1).nt m1).nt m2).nt m3).nt m4).nt m5)⟩
            all_goals simp_all [vJet]
          · have hp5 := hb5; try simp only [Bool.and_eq_true, Bool.or_eq_true, Bool.not_eq_true', Bool.not_eq_false', Bool.and_eq_false_iff, Bool.or_eq_false_iff, decide_eq_true_eq, decide_eq_false_iff_not, beq_iff_eq, bne_iff_ne, beq_eq_false_iff_ne, bne_eq_false_iff_eq, ne_eq, Bool.false_eq_true, not_false_eq_true, not_true_eq_false, vIn_t, vIn_f] at hp5
            refine CE.draw (fun | 9 => some (fun _ wA uA wB => uA = .bool (vRingF n j xs && vRingF m jj ys) ∧ Mod [] wA wB) | 14 => some (fun _ wA uA wB => uA = .bool (vFil lk lc0 lc1 lc2 ls0 ls1) ∧ Mod [] wA wB) | 28 => some (fun _ wA uA wB => uA = .bool (vFil dk dc0 dc1 dc2 ds0 ds1) ∧ Mod [] wA wB) | _ => none) [0, 1, 2, 3, 4, 5, 6, 7, 8, 9, 10, 11, 12, 13, 14, 15, 16, 17, 18, 19, 20, 21, 22, 23, 24, 25, 26, 27, 28, 29, 30, 31, 32, 33, 34, 35, 36, 37, 38, 39, 40, 41, 42, 43, 44, 45, 46] [47, 48, 49, 50] [] (by kernel_rfl) (by kernel_rfl) ?_
            have md2 : Mod [] w w.drew := (Mod.refl _ _).drew
            generalize w.drew = w7 at md2 ⊢
            refine DR.det (i := 0) rfl rfl (by kernel_rfl) (.free rfl) rfl rfl (fun wD mD => op_move rfl) ?_
            refine DR.det (i := 1) rfl rfl (by kernel_rfl) (.free rfl) rfl rfl (fun wD mD => op_nilCheck rfl) ?_
            refine DR.det (i := 2) rfl rfl (by kernel_rfl) (.free rfl) rfl rfl (fun wD mD => op_fieldAddr (off' := k) rfl Try.runUnderlying61 rfl rfl Try.sizeOf33 rfl) ?_
            refine DR.det (i := 3) rfl rfl (by kernel_rfl) (.free rfl) rfl rfl (fun wD mD => op_loadA (i := k) (cs := [vS b 0 n c, vI j]) rfl Try.isAgg33 Try.sizeOf33 ((q.ext md2).ext mD) (Nat.zero_add _) (sub_take (i := 0) hk (lB rfl) rfl) rfl) ?_
            refine DR.det (i := 4) rfl rfl (by kernel_rfl) (.free rfl) rfl rfl (fun wD mD => op_move rfl) ?_
            refine DR.det (i := 5) rfl rfl (by kernel_rfl) (.free rfl) rfl rfl (fun wD mD => op_nilCheck rfl) ?_
            refine DR.det (i := 6) rfl rfl (by kernel_rfl) (.free rfl) rfl rfl (fun wD mD => op_fieldAddr (off' := k + 2) rfl Try.runUnderlying61 rfl rfl Try.sizeOf33 rfl) ?_
            refine DR.det (i := 7) rfl rfl (by kernel_rfl) (.free rfl) rfl rfl (fun wD mD => op_loadA (i := k + 2) (cs := [vS d 0 m c2, vI jj]) rfl Try.isAgg33 Try.sizeOf33 ((q.ext md2).ext mD) (Nat.zero_add _) (sub_take (i := 2) hk (lB rfl) rfl) rfl) ?_
            refine DR.one1 (i := 8) rfl rfl (by kernel_rfl) (.free rfl) rfl (ltb rfl) ?_
            intro w8 m6
            refine Op1.mono (op_buildSl (qs := [(0, .agg #[vS b 0 n c, vI j]), (1, .agg #[vS d 0 m c2, vI jj])]) (cells := #[vS b 0 n c, vI j, vS d 0 m c2, vI jj]) rfl Try.runUnderlying121 Try.sizeOf33 Try.zeroValue33 (by decide) (by decide) (by kernel_rfl)) ?_
            rintro _ w9 ⟨rfl, r3, m7, z3⟩
            refine ⟨(((Mod.refl [] w7).nt m6).nt m7), ?_⟩
            refine DR.rebase ?_
            refine DR.call (i := 9) (fun uA => uA = .bool (vRingF n j xs && vRingF m jj ys)) rfl rfl (by kernel_rfl) (.free rfl) rfl (ltb rfl) ⟨_, rfl⟩ (vs := [.func (.func 90) #[] #[], vS w8.heap.size 0 2 2]) rfl (fun wD mD => oc_call (vs := [vS w8.heap.size 0 2 2]) (cap := []) rfl rfl rfl Try.call90 (c_l04Rings2 n c b xs m c2 d ys j jj w8.heap.size 2 ln lm (by omega) (by omega) wD (r3.ext mD).rng ((((r.ext md2).ext m6).ext m7).ext mD) ((((ry.ext md2).ext m6).ext m7).ext mD))) ?_ ?_
            · rintro w1 _ w2 m1 ⟨rfl, m2⟩; exact ⟨rfl, m2⟩
            rintro _ rfl
            refine DR.det (i := 10) rfl rfl (by kernel_rfl) (.free rfl) rfl rfl (fun wD mD => op_move rfl) ?_
            refine DR.det (i := 11) rfl rfl (by kernel_rfl) (.yes rfl rfl rfl (ltb rfl) rfl hb1) rfl rfl (fun wD mD => op_move rfl) ?_
            refine DR.det (i := 12) rfl rfl (by kernel_rfl) (.yes rfl rfl rfl (ltb rfl) rfl hb1) rfl rfl (fun wD mD => op_nilCheck rfl) ?_
            refine DR.det (i := 13) rfl rfl (by kernel_rfl) (.yes rfl rfl rfl (ltb rfl) rfl hb1) rfl rfl (fun wD mD => op_fieldAddr (off' := k + 4) rfl Try.runUnderlying61 rfl rfl Try.sizeOf34 rfl) ?_
            refine DR.call (i := 14) (fun uA => uA = .bool (vFil lk lc0 lc1 lc2 ls0 ls1)) rfl rfl (by kernel_rfl) (.yes rfl rfl rfl (ltb rfl) rfl hb1) rfl (ltb rfl) ⟨_, rfl⟩ (vs := [.func (.func 91) #[] #[], vP p (k + 4)]) rfl (fun wD mD => oc_call (vs := [vP p (k + 4)]) (cap := []) rfl rfl rfl Try.call91 (c_l02Ok lk lc0 lc1 lc2 ls0 ls1 p (k + 4) (splice vs k [vS b 0 n c, vI j, vS d 0 m c2, vI jj, vI lk, vF lc0, vF lc1, vF lc2, vF ls0, vF ls1, vI dk, vF dc0, vF dc1, vF dc2, vF ds0, vF ds1, vF ne, vF fa]) (sub_fit (i := 4) hk (lB rfl)) wD (Rng.congr ((((q.ext md2).ext m6).ext m7).ext mD) (sub_same (i := 4) hk (lB rfl) rfl)))) ?_ ?_
            · rintro w1 _ w2 m1 ⟨rfl, m2⟩; exact ⟨rfl, m2⟩
            rintro _ rfl
            refine DR.det (i := 15) rfl rfl (by kernel_rfl) (.free rfl) rfl rfl (fun wD mD => op_pick_t rfl hb1 rfl) ?_
            refine DR.det (i := 16) rfl rfl (by kernel_rfl) (.free rfl) rfl rfl (fun wD mD => op_move rfl) ?_
            refine DR.det (i := 17) rfl rfl (by kernel_rfl) (.yes rfl rfl rfl (ltb rfl) rfl hb2) rfl rfl (fun wD mD => op_move rfl) ?_
            refine DR.det (i := 18) rfl rfl (by kernel_rfl) (.yes rfl rfl rfl (ltb rfl) rfl hb2) rfl rfl (fun wD mD => op_nilCheck rfl) ?_
            refine DR.det (i := 19) rfl rfl (by kernel_rfl) (.yes rfl rfl rfl (ltb rfl) rfl hb2) rfl rfl (fun wD mD => op_fieldAddr (off' := k + 4) rfl Try.runUnderlying61 rfl rfl Try.sizeOf34 rfl) ?_
            refine DR.det (i := 20) rfl rfl (by kernel_rfl) (.yes rfl rfl rfl (ltb rfl) rfl hb2) rfl rfl (fun wD mD => op_fieldAddr (off' := k + 4) rfl Try.runUnderlying34 rfl rfl Try.sizeOf2 rfl) ?_
            refine DR.det (i := 21) rfl rfl (by kernel_rfl) (.yes rfl rfl rfl (ltb rfl) rfl hb2) rfl rfl (fun wD mD => op_load1 (i := k + 4) rfl Try.isAgg2 ((((q.ext md2).ext m6).ext m7).ext mD) (Nat.zero_add _) (sub_get (i := 4) hk rfl)) ?_
            refine DR.det (i := 22) rfl rfl (by kernel_rfl) (.yes rfl rfl rfl (ltb rfl) rfl hb2) rfl rfl (fun wD mD => op_eqi rfl rfl) ?_
            refine DR.det (i := 23) rfl rfl (by kernel_rfl) (.free rfl) rfl rfl (fun wD mD => op_pick_t rfl hb2 rfl) ?_
            refine DR.det (i := 24) rfl rfl (by kernel_rfl) (.free rfl) rfl rfl (fun wD mD => op_move rfl) ?_
            refine DR.det (i := 25) rfl rfl (by kernel_rfl) (.yes rfl rfl rfl (ltb rfl) rfl hb3) rfl rfl (fun wD mD => op_move rfl) ?_
            refine DR.det (i := 26) rfl rfl (by kernel_rfl) (.yes rfl rfl rfl (ltb rfl) rfl hb3) rfl rfl (fun wD mD => op_nilCheck rfl) ?_
            refine DR.det (i := 27) rfl rfl (by kernel_rfl) (.yes rfl rfl rfl (ltb rfl) rfl hb3) rfl rfl (fun wD mD => op_fieldAddr (off' := k + 10) rfl Try.runUnderlying61 rfl rfl Try.sizeOf34 rfl) ?_
            refine DR.call (i := 28) (fun uA => uA = .bool (vFil dk dc0 dc1 dc2 ds0 ds1)) rfl rfl (by kernel_rfl) (.yes rfl rfl rfl (ltb rfl) rfl hb3) rfl (ltb rfl) ⟨_, rfl⟩ (vs := [.func (.func 91) #[] #[], vP p (k + 10)]) rfl (fun wD mD => oc_call (vs := [vP p (k + 10)]) (cap := []) rfl rfl rfl Try.call91 (c_l02Ok dk dc0 dc1 dc2 ds0 ds1 p (k + 10) (splice vs k [vS b 0 n c, vI j, vS d 0 m c2, vI jj, vI lk, vF lc0, vF lc1, vF lc2, vF ls0, vF ls1, vI dk, vF dc0, vF dc1, vF dc2, vF ds0, vF ds1, vF ne, vF fa]) (sub_fit (i := 10) hk (lB rfl)) wD (Rng.congr ((((q.ext md2).ext m6).ext m7).ext mD) (sub_same (i := 10) hk (lB rfl) rfl)))) ?_ ?_
            · rintro w1 _ w2 m1 ⟨rfl, m2⟩; exact ⟨rfl, m2⟩
            rintro _ rfl
            refine DR.det (i := 29) rfl rfl (by kernel_rfl) (.free rfl) rfl rfl (fun wD mD => op_pick_t rfl hb3 rfl) ?_
            refine DR.det (i := 30) rfl rfl (by kernel_rfl) (.free rfl) rfl rfl (fun wD mD => op_move rfl) ?_
            refine DR.det (i := 31) rfl rfl (by kernel_rfl) (.yes rfl rfl rfl (ltb rfl) rfl hb4) rfl rfl (fun wD mD => op_move rfl) ?_
            refine DR.det (i := 32) rfl rfl (by kernel_rfl) (.yes rfl rfl rfl (ltb rfl) rfl hb4) rfl rfl (fun wD mD => op_nilCheck rfl) ?_
            refine DR.det (i := 33) rfl rfl (by kernel_rfl) (.yes rfl rfl rfl (ltb rfl) rfl hb4) rfl rfl (fun wD mD => op_fieldAddr (off' := k + 10) rfl Try.runUnderlying61 rfl rfl Try.sizeOf34 rfl) ?_
            refine DR.det (i := 34) rfl rfl (by kernel_rfl) (.yes rfl rfl rfl (ltb rfl) rfl hb4) rfl rfl (fun wD mD => op_fieldAddr (off' := k + 10) rfl Try.runUnderlying34 rfl rfl Try.sizeOf2 rfl) ?_
            refine DR.det (i := 35) rfl rfl (by kernel_rfl) (.yes rfl rfl rfl (ltb rfl) rfl hb4) rfl rfl (fun wD mD => op_load1 (i := k + 10) rfl Try.isAgg2 ((((q.ext md2).ext m6).ext m7).ext mD) (Nat.zero_add _) (sub_get (i := 10) hk rfl)) ?_
            refine DR.det (i := 36) rfl rfl (by kernel_rfl) (.yes rfl rfl rfl (ltb rfl) rfl hb4) rfl rfl (fun wD mD => op_eqi rfl rfl) ?_
            refine DR.det (i := 37) rfl rfl (by kernel_rfl) (.free rfl) rfl rfl (fun wD mD => op_pick_t rfl hb4 rfl) ?_
            refine DR.det (i := 38) rfl rfl (by kernel_rfl) (.free rfl) rfl rfl (fun wD mD => op_move rfl) ?_
            refine DR.skip (i := 39) rfl (by kernel_rfl) (.no rfl rfl rfl (ltb rfl) rfl hb5) rfl (ltb rfl) ?_
            refine DR.skip (i := 40) rfl (by kernel_rfl) (.no rfl rfl rfl (ltb rfl) rfl hb5) rfl (ltb rfl) ?_
            refine DR.skip (i := 41) rfl (by kernel_rfl) (.no rfl rfl rfl (ltb rfl) rfl hb5) rfl (ltb rfl) ?_
            refine DR.skip (i := 42) rfl (by kernel_rfl) (.no rfl rfl rfl (ltb rfl) rfl hb5) rfl (ltb rfl) ?_
            refine DR.skip (i := 43) rfl (by kernel_rfl) (.no rfl rfl rfl (ltb rfl) rfl hb5) rfl (ltb rfl) ?_
            refine DR.skip (i := 44) rfl (by kernel_rfl) (.no rfl rfl rfl (ltb rfl) rfl hb5) rfl (ltb rfl) ?_
            refine DR.skip (i := 45) rfl (by kernel_rfl) (.no rfl rfl rfl (ltb rfl) rfl hb5) rfl (ltb rfl) ?_
            refine DR.skip (i := 46) rfl (by kernel_rfl) (.no rfl rfl rfl (ltb rfl) rfl hb5) rfl (ltb rfl) ?_
            refine DR.done rfl ?_
            intro w10 m8
            refine WO.skip rfl (.no rfl rfl rfl (ltb rfl) rfl hb5) rfl (ltb rfl) ?_
            refine WO.skip rfl (.no rfl rfl rfl (ltb rfl) rfl hb5) rfl (ltb rfl) ?_
            refine WO.det (op_pick_f rfl hb5 rfl) rfl (.free rfl) rfl rfl ?_
            refine WO.det (op_assign rfl) rfl (.free rfl) rfl rfl ?_
            refine WO.end ?_
            refine NE.code ?_
            refine CE.ret' ?_
            refine XE.leave1 Try.results78 rfl ?_
            refine ⟨?_, (((((Mod.refl [] w).nt md2).nt m6).nt m7).nt m8)⟩
            all_goals simp_all [vJet]
        · refine CE.draw (fun | 9 => some (fun _ wA uA wB => uA = .bool (vRingF n j xs && vRingF m jj ys) ∧ Mod [] wA wB) | 14 => some (fun _ wA uA wB => uA = .bool (vFil lk lc0 lc1 lc2 ls0 ls1) ∧ Mod [] wA wB) | 28 => some (fun _ wA uA wB => uA = .bool (vFil dk dc0 dc1 dc2 ds0 ds1) ∧ Mod [] wA wB) | _ => none) [0, 1, 2, 3, 4, 5, 6, 7, 8, 9, 10, 11, 12, 13, 14, 15, 16, 17, 18, 19, 20, 21, 22, 23, 24, 25, 26, 27, 28, 29, 30, 31, 32, 33, 34, 35, 36, 37, 38, 39, 40, 41, 42, 43, 44, 45, 46] [47, 48, 49, 50] [] (by kernel_rfl) (by kernel_rfl) ?_
          have md3 : Mod [] w w.drew := (Mod.refl _ _).drew
          generalize w.drew = w11 at md3 ⊢
          refine DR.det (i := 0) rfl rfl (by kernel_rfl) (.free rfl) rfl rfl (fun wD mD => op_move rfl) ?_
          refine DR.det (i := 1) rfl rfl (by kernel_rfl) (.free rfl) rfl rfl (fun wD mD => op_nilCheck rfl) ?_
          refine DR.det (i := 2) rfl rfl (by kernel_rfl) (.free rfl) rfl rfl (fun wD mD => op_fieldAddr (off' := k) rfl Try.runUnderlying61 rfl rfl Try.sizeOf33 rfl) ?_
          refine DR.det (i := 3) rfl rfl (by kernel_rfl) (.free rfl) rfl rfl (fun wD mD => op_loadA (i := k) (cs := [vS b 0 n c, vI j]) rfl Try.isAgg33 Try.sizeOf33 ((q.ext md3).ext mD) (Nat.zero_add _) (sub_take (i := 0) hk (lB rfl) rfl) rfl) ?_
          refine DR.det (i := 4) rfl rfl (by kernel_rfl) (.free rfl) rfl rfl (fun wD mD => op_move rfl) ?_
          refine DR.det (i := 5) rfl rfl (by kernel_rfl) (.free rfl) rfl rfl (fun wD mD => op_nilCheck rfl) ?_
          refine DR.det (i := 6) rfl rfl (by kernel_rfl) (.free rfl) rfl rfl (fun wD mD => op_fieldAddr (off' := k + 2) rfl Try.runUnderlying61 rfl rfl Try.sizeOf33 rfl) ?_
          refine DR.det (i := 7) rfl rfl (by kernel_rfl) (.free rfl) rfl rfl (fun wD mD => op_loadA (i := k + 2) (cs := [vS d 0 m c2, vI jj]) rfl Try.isAgg33 Try.sizeOf33 ((q.ext md3).ext mD) (Nat.zero_add _) (sub_take (i := 2) hk (lB rfl) rfl) rfl) ?_
          refine DR.one1 (i := 8) rfl rfl (by kernel_rfl) (.free rfl) rfl (ltb rfl) ?_
          intro w12 m9
          refine Op1.mono (op_buildSl (qs := [(0, .agg #[vS b 0 n c, vI j]), (1, .agg #[vS d 0 m c2, vI jj])]) (cells := #[vS b 0 n c, vI j, vS d 0 m c2, vI jj]) rfl Try.runUnderlying121 Try.sizeOf33 Try.zeroValue33 (by decide) (by decide) (by kernel_rfl)) ?_
          rintro _ w13 ⟨rfl, r4, m10, z4⟩
          refine ⟨(((Mod.refl [] w11).nt m9).nt m10), ?_⟩
          refine DR.rebase ?_
          refine DR.call (i := 9) (fun uA => uA = .bool (vRingF n j xs && vRingF m jj ys)) rfl rfl (by kernel_rfl) (.free rfl) rfl (ltb rfl) ⟨_, rfl⟩ (vs := [.func (.func 90) #[] #[], vS w12.heap.size 0 2 2]) rfl (fun wD mD => oc_call (vs := [vS w12.heap.size 0 2 2]) (cap := []) rfl rfl rfl Try.call90 (c_l04Rings2 n c b xs m c2 d ys j jj w12.heap.size 2 ln lm (by omega) (by omega) wD (r4.ext mD).rng ((((r.ext md3).ext m9).ext m10).ext mD) ((((ry.ext md3).ext m9).ext m10).ext mD))) ?_ ?_
          · rintro w1 _ w2 m1 ⟨rfl, m2⟩; exact ⟨rfl, m2⟩
          rintro _ rfl
          refine DR.det (i := 10) rfl rfl (by kernel_rfl) (.free rfl) rfl rfl (fun wD mD => op_move rfl) ?_
          refine DR.det (i := 11) rfl rfl (by kernel_rfl) (.yes rfl rfl rfl (ltb rfl) rfl hb1) rfl rfl (fun wD mD => op_move rfl) ?_
          refine DR.det (i := 12) rfl rfl (by kernel_rfl) (.yes rfl rfl rfl (ltb rfl) rfl hb1) rfl rfl (fun wD mD => op_nilCheck rfl) ?_
          refine DR.det (i := 13) rfl rfl (by kernel_rfl) (.yes rfl rfl rfl (ltb rfl) rfl hb1) rfl rfl (fun wD mD => op_fieldAddr (off' := k + 4) rfl Try.runUnderlying61 rfl rfl Try.sizeOf34 rfl) ?_
          refine DR.call (i := 14) (fun uA => uA = .bool (vFil lk lc0 lc1 lc2 ls0 ls1)) rfl rfl (by kernel_rfl) (.yes rfl rfl rfl (ltb rfl) rfl hb1) rfl (ltb rfl) ⟨_, rfl⟩ (vs := [.func (.func 91) #[] #[], vP p (k + 4)]) rfl (fun wD mD => oc_call (vs := [vP p (k + 4)]) (cap := []) rfl rfl rfl Try.call91 (c_l02Ok lk lc0 lc1 lc2 ls0 ls1 p (k + 4) (splice vs k [vS b 0 n c, vI j, vS d 0 m c2, vI jj, vI lk, vF lc0, vF lc1, vF lc2, vF ls0, vF ls1, vI dk, vF dc0, vF dc1, vF dc2, vF ds0, vF ds1, vF ne, vF fa]) (sub_fit (i := 4) hk (lB rfl)) wD (Rng.congr ((((q.ext md3).ext m9).ext m10).ext mD) (sub_same (i := 4) hk (lB rfl) rfl)))) ?_ ?_
          · rintro w1 _ w2 m1 ⟨rfl, m2⟩; exact ⟨rfl, m2⟩
          rintro _ rfl
          refine DR.det (i := 15) rfl rfl (by kernel_rfl) (.free rfl) rfl rfl (fun wD mD => op_pick_t rfl hb1 rfl) ?_
          refine DR.det (i := 16) rfl rfl (by kernel_rfl) (.free rfl) rfl rfl (fun wD mD => op_move rfl) ?_
          refine DR.det (i := 17) rfl rfl (by kernel_rfl) (.yes rfl rfl rfl (ltb rfl) rfl hb2) rfl rfl (fun wD mD => op_move rfl) ?_
          refine DR.det (i := 18) rfl rfl (by kernel_rfl) (.yes rfl rfl rfl (ltb rfl) rfl hb2) rfl rfl (fun wD mD => op_nilCheck rfl) ?_
          refine DR.det (i := 19) rfl rfl (by kernel_rfl) (.yes rfl rfl rfl (ltb rfl) rfl hb2) rfl rfl (fun wD mD => op_fieldAddr (off' := k + 4) rfl Try.runUnderlying61 rfl rfl Try.sizeOf34 rfl) ?_
          refine DR.det (i := 20) rfl rfl (by kernel_rfl) (.yes rfl rfl rfl (ltb rfl) rfl hb2) rfl rfl (fun wD mD => op_fieldAddr (off' := k + 4) rfl Try.runUnderlying34 rfl rfl Try.sizeOf2 rfl) ?_
          refine DR.det (i := 21) rfl rfl (by kernel_rfl) (.yes rfl rfl rfl (ltb rfl) rfl hb2) rfl rfl (fun wD mD => op_load1 (i := k + 4) rfl Try.isAgg2 ((((q.ext md3).ext m9).ext m10).ext mD) (Nat.zero_add _) (sub_get (i := 4) hk rfl)) ?_
          refine DR.det (i := 22) rfl rfl (by kernel_rfl) (.yes rfl rfl rfl (ltb rfl) rfl hb2) rfl rfl (fun wD mD => op_eqi rfl rfl) ?_
          refine DR.det (i := 23) rfl rfl (by kernel_rfl) (.free rfl) rfl rfl (fun wD mD => op_pick_t rfl hb2 rfl) ?_
          refine DR.det (i := 24) rfl rfl (by kernel_rfl) (.free rfl) rfl rfl (fun wD mD => op_move rfl) ?_
          refine DR.det (i := 25) rfl rfl (by kernel_rfl) (.yes rfl rfl rfl (ltb rfl) rfl hb3) rfl rfl (fun wD mD => op_move rfl) ?_
          refine DR.det (i := 26) rfl rfl (by kernel_rfl) (.yes rfl rfl rfl (ltb rfl) rfl hb3) rfl rfl (fun wD mD => op_nilCheck rfl) ?_
          refine DR.det (i := 27) rfl rfl (by kernel_rfl) (.yes rfl rfl rfl (ltb rfl) rfl hb3) rfl rfl (fun wD mD => op_fieldAddr (off' := k + 10) rfl Try.runUnderlying61 rfl rfl Try.sizeOf34 rfl) ?_
          refine DR.call (i := 28) (fun uA => uA = .bool (vFil dk dc0 dc1 dc2 ds0 ds1)) rfl rfl (by kernel_rfl) (.yes rfl rfl rfl (ltb rfl) rfl hb3) rfl (ltb rfl) ⟨_, rfl⟩ (vs := [.func (.func 91) #[] #[], vP p (k + 10)]) rfl (fun wD mD => oc_call (vs := [vP p (k + 10)]) (cap := []) rfl rfl rfl Try.call91 (c_l02Ok dk dc0 dc1 dc2 ds0 ds1 p (k + 10) (splice vs k [vS b 0 n c, vI j, vS d 0 m c2, vI jj, vI lk, vF lc0, vF lc1, vF lc2, vF ls0, vF ls1, vI dk, vF dc0, vF dc1, vF dc2, vF ds0, vF ds1, vF ne, vF fa]) (sub_fit (i := 10) hk (lB rfl)) wD (Rng.congr ((((q.ext md3).ext m9).ext m10).ext mD) (sub_same (i := 10) hk (lB rfl) rfl)))) ?_ ?_
          · rintro w1 _ w2 m1 ⟨rfl, m2⟩; exact ⟨rfl, m2⟩
          rintro _ rfl
          refine DR.det (i := 29) rfl rfl (by kernel_rfl) (.free rfl) rfl rfl (fun wD mD => op_pick_t rfl hb3 rfl) ?_
          refine DR.det (i := 30) rfl rfl (by kernel_rfl) (.free rfl) rfl rfl (fun wD mD => op_move rfl) ?_
          refine DR.skip (i := 31) rfl (by kernel_rfl) (.no rfl rfl rfl (ltb rfl) rfl hb4) rfl (ltb rfl) ?_
          refine DR.skip (i := 32) rfl (by kernel_rfl) (.no rfl rfl rfl (ltb rfl) rfl hb4) rfl (ltb rfl) ?_
          refine DR.skip (i := 33) rfl (by kernel_rfl) (.no rfl rfl rfl (ltb rfl) rfl hb4) rfl (ltb rfl) ?_
          refine DR.skip (i := 34) rfl (by kernel_rfl) (.no rfl rfl rfl (ltb rfl) rfl hb4) rfl (ltb rfl) ?_
          refine DR.skip (i := 35) rfl (by kernel_rfl) (.no rfl rfl rfl (ltb rfl) rfl hb4) rfl (ltb rfl) ?_
          refine DR.skip (i := 36) rfl (by kernel_rfl) (.no rfl rfl rfl (ltb rfl) rfl hb4) rfl (ltb rfl) ?_
          refine DR.det (i := 37) rfl rfl (by kernel_rfl) (.free rfl) rfl rfl (fun wD mD => op_pick_f rfl hb4 rfl) ?_
          refine DR.det (i := 38) rfl rfl (by kernel_rfl) (.free rfl) rfl rfl (fun wD mD => op_move rfl) ?_
          refine DR.skip (i := 39) rfl (by kernel_rfl) (.no rfl rfl rfl (ltb rfl) rfl rfl) rfl (ltb rfl) ?_
          refine DR.skip (i := 40) rfl (by kernel_rfl) (.no rfl rfl rfl (ltb rfl) rfl rfl) rfl (ltb rfl) ?_
          refine DR.skip (i := 41) rfl (by kernel_rfl) (.no rfl rfl rfl (ltb rfl) rfl rfl) rfl (ltb rfl) ?_
          refine DR.skip (i := 42) rfl (by kernel_rfl) (.no rfl rfl rfl (ltb rfl) rfl rfl) rfl (ltb rfl) ?_
          refine DR.skip (i := 43) rfl (by kernel_rfl) (.no rfl rfl rfl (ltb rfl) rfl rfl) rfl (ltb rfl) ?_
          refine DR.skip (i := 44) rfl (by kernel_rfl) (.no rfl rfl rfl (ltb rfl) rfl rfl) rfl (ltb rfl) ?_
          refine DR.skip (i := 45) rfl (by kernel_rfl) (.no rfl rfl rfl (ltb rfl) rfl rfl) rfl (ltb rfl) ?_
          refine DR.skip (i := 46) rfl (by kernel_rfl) (.no rfl rfl rfl (ltb rfl) rfl rfl) rfl (ltb rfl) ?_
          refine DR.done rfl ?_
          intro w14 m11
          refine WO.skip rfl (.no rfl rfl rfl (ltb rfl) rfl rfl) rfl (ltb rfl) ?_
          refine WO.skip rfl (.no rfl rfl rfl (ltb rfl) rfl rfl) rfl (ltb rfl) ?_
          refine WO.det (op_pick_f rfl rfl rfl) rfl (.free rfl) rfl rfl ?_
          refine WO.det (op_assign rfl) rfl (.free rfl) rfl rfl ?_
          refine WO.end ?_
          refine NE.code ?_
          refine CE.ret' ?_
          refine XE.leave1 Try.results78 rfl ?_
          refine ⟨?_, (((((Mod.refl [] w).nt md3).nt m9).nt m10).nt m11)⟩
          all_goals simp_all [vJet]
      · have hp3 := hb3; try simp only [Bool.and_eq_true, Bool.or_eq_true, Bool.not_eq_true', Bool.not_eq_false', Bool.and_eq_false_iff, Bool.or_eq_false_iff, decide_eq_true_eq, decide_eq_false_iff_not, beq_iff_eq, bne_iff_ne, beq_eq_false_iff_ne, bne_eq_false_iff_eq, ne_eq, Bool.false_eq_true, not_false_eq_true, not_true_eq_false, vIn_t, vIn_f] at hp3
        refine CE.draw (fun | 9 => some (fun _ wA uA wB => uA = .bool (vRingF n j xs && vRingF m jj ys) ∧ Mod [] wA wB) | 14 => some (fun _ wA uA wB => uA = .bool (vFil lk lc0 lc1 lc2 ls0 ls1) ∧ Mod [] wA wB) | _ => none) [0, 1, 2, 3, 4, 5, 6, 7, 8, 9, 10, 11, 12, 13, 14, 15, 16, 17, 18, 19, 20, 21, 22, 23, 24, 25, 26, 27, 28, 29, 30, 31, 32, 33, 34, 35, 36, 37, 38, 39, 40, 41, 42, 43, 44, 45, 46] [47, 48, 49, 50] [] (by kernel_rfl) (by kernel_rfl) ?_
        have md4 : Mod [] w w.drew := (Mod.refl _ _).drew
        generalize w.drew = w15 at md4 ⊢
        refine DR.det (i := 0) rfl rfl (by kernel_rfl) (.free rfl) rfl rfl (fun wD mD => op_move rfl) ?_
        refine DR.det (i := 1) rfl rfl (by kernel_rfl) (.free rfl) rfl rfl (fun wD mD => op_nilCheck rfl) ?_
        refine DR.det (i := 2) rfl rfl (by kernel_rfl) (.free rfl) rfl rfl (fun wD mD => op_fieldAddr (off' := k) rfl Try.runUnderlying61 rfl rfl Try.sizeOf33 rfl) ?_
        refine DR.det (i := 3) rfl rfl (by kernel_rfl) (.free rfl) rfl rfl (fun wD mD => op_loadA (i := k) (cs := [vS b 0 n c, vI j]) rfl Try.isAgg33 Try.sizeOf33 ((q.ext md4).ext mD) (Nat.zero_add _) (sub_take (i := 0) hk (lB rfl) rfl) rfl) ?_
        refine DR.det (i := 4) rfl rfl (by kernel_rfl) (.free rfl) rfl rfl (fun wD mD => op_move rfl) ?_
        refine DR.det (i := 5) rfl rfl (by kernel_rfl) (.free rfl) rfl rfl (fun wD mD => op_nilCheck rfl) ?_
        refine DR.det (i := 6) rfl rfl (by kernel_rfl) (.free rfl) rfl rfl (fun wD mD => op_fieldAddr (off' := k + 2) rfl Try.runUnderlying61 rfl rfl Try.sizeOf33 rfl) ?_
        refine DR.det (i := 7) rfl rfl (by kernel_rfl) (.free rfl) rfl rfl (fun wD mD => op_loadA (i := k + 2) (cs := [vS d 0 m c2, vI jj]) rfl Try.isAgg33 Try.sizeOf33 ((q.ext md4).ext mD) (Nat.zero_add _) (sub_take (i := 2) hk (lB rfl) rfl) rfl) ?_
        refine DR.one1 (i := 8) rfl rfl (by kernel_rfl) (.free rfl) rfl (ltb rfl) ?_
        intro w16 m12
        refine Op1.mono (op_buildSl (qs := [(0, .agg #[vS b 0 n c, vI j]), (1, .agg #[vS d 0 m c2, vI jj])]) (cells := #[vS b 0 n c, vI j, vS d 0 m c2, vI jj]) rfl Try.runUnderlying121 Try.sizeOf33 Try.zeroValue33 (by decide) (by decide) (by kernel_rfl)) ?_
        rintro _ w17 ⟨rfl, r5, m13, z5⟩
        refine ⟨(((Mod.refl [] w15).nt m12).nt m13), ?_⟩
        refine DR.rebase ?_
        refine DR.call (i := 9) (fun uA => uA = .bool (vRingF n j xs && vRingF m jj ys)) rfl rfl (by kernel_rfl) (.free rfl) rfl (ltb rfl) ⟨_, rfl⟩ (vs := [.func (.func 90) #[] #[], vS w16.heap.size 0 2 2]) rfl (fun wD mD => oc_call (vs := [vS w16.heap.size 0 2 2]) (cap := []) rfl rfl rfl Try.call90 (c_l04Rings2 n c b xs m c2 d ys j jj w16.heap.size 2 ln lm (by omega) (by omega) wD (r5.ext mD).rng ((((r.ext md4).ext m12).ext m13).ext mD) ((((ry.ext md4).ext m12).ext m13).ext mD))) ?_ ?_
        · rintro w1 _ w2 m1 ⟨rfl, m2⟩; exact ⟨rfl, m2⟩
        rintro _ rfl
        refine DR.det (i := 10) rfl rfl (by kernel_rfl) (.free rfl) rfl rfl (fun wD mD => op_move rfl) ?_
        refine DR.det (i := 11) rfl rfl (by kernel_rfl) (.yes rfl rfl rfl (ltb rfl) rfl hb1) rfl rfl (fun wD mD => op_move rfl) ?_
        refine DR.det (i := 12) rfl rfl (by kernel_rfl) (.yes rfl rfl rfl (ltb rfl) rfl hb1) rfl rfl (fun wD mD => op_nilCheck rfl) ?_
        refine DR.det (i := 13) rfl rfl (by kernel_rfl) (.yes rfl rfl rfl (ltb rfl) rfl hb1) rfl rfl (fun wD mD => op_fieldAddr (off' := k + 4) rfl Try.runUnderlying61 rfl rfl Try.sizeOf34 rfl) ?_
        refine DR.call (i := 14) (fun uA => uA = .bool (vFil lk lc0 lc1 lc2 ls0 ls1)) rfl rfl (by kernel_rfl) (.yes rfl rfl rfl (ltb rfl) rfl hb1) rfl (ltb rfl) ⟨_, rfl⟩ (vs := [.func (.func 91) #[] #[], vP p (k + 4)]) rfl (fun wD mD => oc_call (vs := [vP p (k + 4)]) (cap := []) rfl rfl rfl Try.call91 (c_l02Ok lk lc0 lc1 lc2 ls0 ls1 p (k + 4) (splice vs k [vS b 0 n c, vI j, vS d 0 m c2, vI jj, vI lk, vF lc0, vF lc1, vF lc2, vF ls0, vF ls1, vI dk, vF dc0, vF dc1, vF dc2, vF ds0, vF ds1, vF ne, vF fa]) (sub_fit (i := 4) hk (lB rfl)) wD (Rng.congr ((((q.ext md4).ext m12).ext m13).ext mD) (sub_same (i := 4) hk (lB rfl) rfl)))) ?_ ?_
        · rintro w1 _ w2 m1 ⟨rfl, m2⟩; exact ⟨rfl, m2⟩
        rintro _ rfl
        refine DR.det (i := 15) rfl rfl (by kernel_rfl) (.free rfl) rfl rfl (fun wD mD => op_pick_t rfl hb1 rfl) ?_
        refine DR.det (i := 16) rfl rfl (by kernel_rfl) (.free rfl) rfl rfl (fun wD mD => op_move rfl) ?_
        refine DR.det (i := 17) rfl rfl (by kernel_rfl) (.yes rfl rfl rfl (ltb rfl) rfl hb2) rfl rfl (fun wD mD => op_move rfl) ?_
        refine DR.det (i := 18) rfl rfl (by kernel_rfl) (.yes rfl rfl rfl (ltb rfl) rfl hb2) rfl rfl (fun wD mD => op_nilCheck rfl) ?_
        refine DR.det (i := 19) rfl rfl (by kernel_rfl) (.yes rfl rfl rfl (ltb rfl) rfl hb2) rfl rfl (fun wD mD => op_fieldAddr (off' := k + 4) rfl Try.runUnderlying61 rfl rfl Try.sizeOf34 rfl) ?_
        refine DR.det (i := 20) rfl rfl (by kernel_rfl) (.yes rfl rfl rfl (ltb rfl) rfl hb2) rfl rfl (fun wD mD => op_fieldAddr (off' := k + 4) rfl Try.runUnderlying34 rfl rfl Try.sizeOf2 rfl) ?_
        refine DR.det (i := 21) rfl rfl (by kernel_rfl) (.yes rfl rfl rfl (ltb rfl) rfl hb2) rfl rfl (fun wD mD => op_load1 (i := k + 4) rfl Try.isAgg2 ((((q.ext md4).ext m12).ext m13).ext mD) (Nat.zero_add _) (sub_get (i := 4) hk rfl)) ?_
        refine DR.det (i := 22) rfl rfl (by kernel_rfl) (.yes rfl rfl rfl (ltb rfl) rfl hb2) rfl rfl (fun wD mD => op_eqi rfl rfl) ?_
        refine DR.det (i := 23) rfl rfl (by kernel_rfl) (.free rfl) rfl rfl (fun wD mD => op_pick_t rfl hb2 rfl) ?_
        refine DR.det (i := 24) rfl rfl (by kernel_rfl) (.free rfl) rfl rfl (fun wD mD => op_move rfl) ?_
        refine DR.skip (i := 25) rfl (by kernel_rfl) (.no rfl rfl rfl (ltb rfl) rfl hb3) rfl (ltb rfl) ?_
        refine DR.skip (i := 26) rfl (by kernel_rfl) (.no rfl rfl rfl (ltb rfl) rfl hb3) rfl (ltb rfl) ?_
        refine DR.skip (i := 27) rfl (by kernel_rfl) (.no rfl rfl rfl (ltb rfl) rfl hb3) rfl (ltb rfl) ?_
        refine DR.skip (i := 28) rfl (by kernel_rfl) (.no rfl rfl rfl (ltb rfl) rfl hb3) rfl (ltb rfl) ?_
        refine DR.det (i := 29) rfl rfl (by kernel_rfl) (.free rfl) rfl rfl (fun wD mD => op_pick_f rfl hb3 rfl) ?_
        refine DR.det (i := 30) rfl rfl (by kernel_rfl) (.free rfl) rfl rfl (fun wD mD => op_move rfl) ?_
        refine DR.skip (i := 31) rfl (by kernel_rfl) (.no rfl rfl rfl (ltb rfl) rfl rfl) rfl (ltb rfl) ?_
        refine DR.skip (i := 32) rfl (by kernel_rfl) (.no rfl rfl rfl (ltb rfl) rfl rfl) rfl (ltb rfl) ?_
        refine DR.skip (i := 33) rfl (by kernel_rfl) (.no rfl rfl rfl (ltb rfl) rfl rfl) rfl (ltb rfl) ?_
        refine DR.skip (i := 34) rfl (by kernel_rfl) (.no rfl rfl rfl (ltb rfl) rfl rfl) rfl (ltb rfl) ?_
        refine DR.skip (i := 35) rfl (by kernel_rfl) (.no rfl rfl rfl (ltb rfl) rfl rfl) rfl (ltb rfl) ?_
        refine DR.skip (i := 36) rfl (by kernel_rfl) (.no rfl rfl rfl (ltb rfl) rfl rfl) rfl (ltb rfl) ?_
        refine DR.det (i := 37) rfl rfl (by kernel_rfl) (.free rfl) rfl rfl (fun wD mD => op_pick_f rfl rfl rfl) ?_
        refine DR.det (i := 38) rfl rfl (by kernel_rfl) (.free rfl) rfl rfl (fun wD mD => op_move rfl) ?_
        refine DR.skip (i := 39) rfl (by kernel_rfl) (.no rfl rfl rfl (ltb rfl) rfl rfl) rfl (ltb rfl) ?_
        refine DR.skip (i := 40) rfl (by kernel_rfl) (.no rfl rfl rfl (ltb rfl) rfl rfl) rfl (ltb rfl) ?_
        refine DR.skip (i := 41) rfl (by kernel_rfl) (.no rfl rfl rfl (ltb rfl) rfl rfl) rfl (ltb rfl) ?_
        refine DR.skip (i := 42) rfl (by kernel_rfl) (.no rfl rfl rfl (ltb rfl) rfl rfl) rfl (ltb rfl) ?_
        refine DR.skip (i := 43) rfl (by kernel_rfl) (.no rfl rfl rfl (ltb rfl) rfl rfl) rfl (ltb rfl) ?_
        refine DR.skip (i := 44) rfl (by kernel_rfl) (.no rfl rfl rfl (ltb rfl) rfl rfl) rfl (ltb rfl) ?_
        refine DR.skip (i := 45) rfl (by kernel_rfl) (.no rfl rfl rfl (ltb rfl) rfl rfl) rfl (ltb rfl) ?_
        refine DR.skip (i := 46) rfl (by kernel_rfl) (.no rfl rfl rfl (ltb rfl) rfl rfl) rfl (ltb rfl) ?_
        refine DR.done rfl ?_
        intro w18 m14
        refine WO.skip rfl (.no rfl rfl rfl (ltb rfl) rfl rfl) rfl (ltb rfl) ?_
        refine WO.skip rfl (.no rfl rfl rfl (ltb rfl) rfl rfl) rfl (ltb rfl) ?_
        refine WO.det (op_pick_f rfl rfl rfl) rfl (.free rfl) rfl rfl ?_
        refine WO.det (op_assign rfl) rfl (.free rfl) rfl rfl ?_
        refine WO.end ?_
        refine NE.code ?_
        refine CE.ret' ?_
        refine XE.leave1 Try.results78 rfl ?_
        refine ⟨?_, (((((Mod.refl [] w).nt md4).nt m12).nt m13).nt m14)⟩
        all_goals simp_all [vJet]
    · refine CE.draw (fun | 9 => some (fun _ wA uA wB => uA = .bool (vRingF n j xs && vRingF m jj ys) ∧ Mod [] wA wB) | 14 => some (fun _ wA uA wB => uA = .bool (vFil lk lc0 lc1 lc2 ls0 ls1) ∧ Mod [] wA wB) | _ => none) [0, 1, 2, 3, 4, 5, 6, 7, 8, 9, 10, 11, 12, 13, 14, 15, 16, 17, 18, 19, 20, 21, 22, 23, 24, 25, 26, 27, 28, 29, 30, 31, 32, 33, 34, 35, 36, 37, 38, 39, 40, 41, 42, 43, 44, 45, 46] [47, 48, 49, 50] [] (by kernel_rfl) (by kernel_rfl) ?_
      have md5 : Mod [] w w.drew := (Mod.refl _ _).drew
      generalize w.drew = w19 at md5 ⊢
      refine DR.det (i := 0) rfl rfl (by kernel_rfl) (.free rfl) rfl rfl (fun wD mD => op_move rfl) ?_
      refine DR.det (i := 1) rfl rfl (by kernel_rfl) (.free rfl) rfl rfl (fun wD mD => op_nilCheck rfl) ?_
      refine DR.det (i := 2) rfl rfl (by kernel_rfl) (.free rfl) rfl rfl (fun wD mD => op_fieldAddr (off' := k) rfl Try.runUnderlying61 rfl rfl Try.sizeOf33 rfl) ?_
      refine DR.det (i := 3) rfl rfl (by kernel_rfl) (.free rfl) rfl rfl (fun wD mD => op_loadA (i := k) (cs := [vS b 0 n c, vI j]) rfl Try.isAgg33 Try.sizeOf33 ((q.ext md5).ext mD) (Nat.zero_add _) (sub_take (i := 0) hk (lB rfl) rfl) rfl) ?_
      refine DR.det (i := 4) rfl rfl (by kernel_rfl) (.free rfl) rfl rfl (fun wD mD => op_move rfl) ?_
      refine DR.det (i := 5) rfl rfl (by kernel_rfl) (.free rfl) rfl rfl (fun wD mD => op_nilCheck rfl) ?_
      refine DR.det (i := 6) rfl rfl (by kernel_rfl) (.free rfl) rfl rfl (fun wD mD => op_fieldAddr (off' := k + 2) rfl Try.runUnderlying61 rfl rfl Try.sizeOf33 rfl) ?_
      refine DR.det (i := 7) rfl rfl (by kernel_rfl) (.free rfl) rfl rfl (fun wD mD => op_loadA (i := k + 2) (cs := [vS d 0 m c2, vI jj]) rfl Try.isAgg33 Try.sizeOf33 ((q.ext md5).ext mD) (Nat.zero_add _) (sub_take (i := 2) hk (lB rfl) rfl) rfl) ?_
      refine DR.one1 (i := 8) rfl rfl (by kernel_rfl) (.free rfl) rfl (ltb rfl) ?_
      intro w20 m15
      refine Op1.mono (op_buildSl (qs := [(0, .agg #[vS b 0 n c, vI j]), (1, .agg #[vS d 0 m c2, vI jj])]) (cells := #[vS b 0 n c, vI j, vS d 0 m c2, vI jj]) rfl Try.runUnderlying121 Try.sizeOf33 Try.zeroValue33 (by decide) (by decide) (by kernel_rfl)) ?_
      rintro _ w21 ⟨rfl, r6, m16, z6⟩
      refine ⟨(((Mod.refl [] w19).nt m15).nt m16), ?_⟩
      refine DR.rebase ?_
      refine DR.call (i := 9) (fun uA => uA = .bool (vRingF n j xs && vRingF m jj ys)) rfl rfl (by kernel_rfl) (.free rfl) rfl (ltb rfl) ⟨_, rfl⟩ (vs := [.func (.func 90) #[] #[], vS w20.heap.size 0 2 2]) rfl (fun wD mD => oc_call (vs := [vS w20.heap.size 0 2 2]) (cap := []) rfl rfl rfl Try.call90 (c_l04Rings2 n c b xs m c2 d ys j jj w20.heap.size 2 ln lm (by omega) (by omega) wD (r6.ext mD).rng ((((r.ext md5).ext m15).ext m16).ext mD) ((((ry.ext md5).ext m15).ext m16).ext mD))) ?_ ?_
      · rintro w1 _ w2 m1 ⟨rfl, m2⟩; exact ⟨rfl, m2⟩
      rintro _ rfl
      refine DR.det (i := 10) rfl rfl (by kernel_rfl) (.free rfl) rfl rfl (fun wD mD => op_move rfl) ?_
      refine DR.det (i := 11) rfl rfl (by kernel_rfl) (.yes rfl rfl rfl (ltb rfl) rfl hb1) rfl rfl (fun wD mD => op_move rfl) ?_
      refine DR.det (i := 12) rfl rfl (by kernel_rfl) (.yes rfl rfl rfl (ltb rfl) rfl hb1) rfl rfl (fun wD mD => op_nilCheck rfl) ?_
      refine DR.det (i := 13) rfl rfl (by kernel_rfl) (.yes rfl rfl rfl (ltb rfl) rfl hb1) rfl rfl (fun wD mD => op_fieldAddr (off' := k + 4) rfl Try.runUnderlying61 rfl rfl Try.sizeOf34 rfl) ?_
      refine DR.call (i := 14) (fun uA => uA = .bool (vFil lk lc0 lc1 lc2 ls0 ls1)) rfl rfl (by kernel_rfl) (.yes rfl rfl rfl (ltb rfl) rfl hb1) rfl (ltb rfl) ⟨_, rfl⟩ (vs := [.func (.func 91) #[] #[], vP p (k + 4)]) rfl (fun wD mD => oc_call (vs := [vP p (k + 4)]) (cap := []) rfl rfl rfl Try.call91 (c_l02Ok lk lc0 lc1 lc2 ls0 ls1 p (k + 4) (splice vs k [vS b 0 n c, vI j, vS d 0 m c2, vI jj, vI lk, vF lc0, vF lc1, vF lc2, vF ls0, vF ls1, vI dk, vF dc0, vF dc1, vF dc2, vF ds0, vF ds1, vF ne, vF fa]) (sub_fit (i := 4) hk (lB rfl)) wD (Rng.congr ((((q.ext md5).ext m15).ext m16).ext mD) (sub_same (i := 4) hk (lB rfl) rfl)))) ?_ ?_
      · rintro w1 _ w2 m1 ⟨rfl, m2⟩; exact ⟨rfl, m2⟩
      rintro _ rfl
      refine DR.det (i := 15) rfl rfl (by kernel_rfl) (.free rfl) rfl rfl (fun wD mD => op_pick_t rfl hb1 rfl) ?_
      refine DR.det (i := 16) rfl rfl (by kernel_rfl) (.free rfl) rfl rfl (fun wD mD => op_move rfl) ?_
      refine DR.skip (i := 17) rfl (by kernel_rfl) (.no rfl rfl rfl (ltb rfl) rfl hb2) rfl (ltb rfl) ?_
      refine DR.skip (i := 18) rfl (by kernel_rfl) (.no rfl rfl rfl (ltb rfl) rfl hb2) rfl (ltb rfl) ?_
      refine DR.skip (i := 19) rfl (by kernel_rfl) (.no rfl rfl rfl (ltb rfl) rfl hb2) rfl (ltb rfl) ?_
      refine DR.skip (i := 20) rfl (by kernel_rfl) (.no rfl rfl rfl (ltb rfl) rfl hb2) rfl (ltb rfl) ?_
      refine DR.skip (i := 21) rfl (by kernel_rfl) (.no rfl rfl rfl (ltb rfl) rfl hb2) rfl (ltb rfl) ?_
      refine DR.skip (i := 22) rfl (by kernel_rfl) (.no rfl rfl rfl (ltb rfl) rfl hb2) rfl (ltb rfl) ?_
      refine DR.det (i := 23) rfl rfl (by kernel_rfl) (.free rfl) rfl rfl (fun wD mD => op_pick_f rfl hb2 rfl) ?_
      refine DR.det (i := 24) rfl rfl (by kernel_rfl) (.free rfl) rfl rfl (fun wD mD => op_move rfl) ?_
      refine DR.skip (i := 25) rfl (by kernel_rfl) (.no rfl rfl rfl (ltb rfl) rfl rfl) rfl (ltb rfl) ?_
      refine DR.skip (i := 26) rfl (by kernel_rfl) (.no rfl rfl rfl (ltb rfl) rfl rfl) rfl (ltb rfl) ?_
      refine DR.skip (i := 27) rfl (by kernel_rfl) (.no rfl rfl rfl (ltb rfl) rfl rfl) rfl (ltb rfl) ?_
      refine DR.skip (i := 28) rfl (by kernel_rfl) (.no rfl rfl rfl (ltb rfl) rfl rfl) rfl (ltb rfl) ?_
      refine DR.det (i := 29) rfl rfl (by kernel_rfl) (.free rfl) rfl rfl (fun wD mD => op_pick_f rfl rfl rfl) ?_
      refine DR.det (i := 30) rfl rfl (by kernel_rfl) (.free rfl) rfl rfl (fun wD mD => op_move rfl) ?_
      refine DR.skip (i := 31) rfl (by kernel_rfl) (.no rfl rfl rfl (ltb rfl) rfl rfl) rfl (ltb rfl) ?_
      refine DR.skip (i := 32) rfl (by kernel_rfl) (.no rfl rfl rfl (ltb rfl) rfl rfl) rfl (ltb rfl) ?_
      refine DR.skip (i := 33) rfl (by kernel_rfl) (.no rfl rfl rfl (ltb rfl) rfl rfl) rfl (ltb rfl) ?_
      refine DR.skip (i := 34) rfl (by kernel_rfl) (.no rfl rfl rfl (ltb rfl) rfl rfl) rfl (ltb rfl) ?_
      refine DR.skip (i := 35) rfl (by kernel_rfl) (.no rfl rfl rfl (ltb rfl) rfl rfl) rfl (ltb rfl) ?_
      refine DR.skip (i := 36) rfl (by kernel_rfl) (.no rfl rfl rfl (ltb rfl) rfl rfl) rfl (ltb rfl) ?_
      refine DR.det (i := 37) rfl rfl (by kernel_rfl) (.free rfl) rfl rfl (fun wD mD => op_pick_f rfl rfl rfl) ?_
      refine DR.det (i := 38) rfl rfl (by kernel_rfl) (.free rfl) rfl rfl (fun wD mD => op_move rfl) ?_
      refine DR.skip (i := 39) rfl (by kernel_rfl) (.no rfl rfl rfl (ltb rfl) rfl rfl) rfl (ltb rfl) ?_
      refine DR.skip (i := 40) rfl (by kernel_rfl) (.no rfl rfl rfl (ltb rfl) rfl rfl) rfl (ltb rfl) ?_
      refine DR.skip (i := 41) rfl (by kernel_rfl) (.no rfl rfl rfl (ltb rfl) rfl rfl) rfl (ltb rfl) ?_
      refine DR.skip (i := 42) rfl (by kernel_rfl) (.no rfl rfl rfl (ltb rfl) rfl rfl) rfl (ltb rfl) ?_
      refine DR.skip (i := 43) rfl (by kernel_rfl) (.no rfl rfl rfl (ltb rfl) rfl rfl) rfl (ltb rfl) ?_
      refine DR.skip (i := 44) rfl (by kernel_rfl) (.no rfl rfl rfl (ltb rfl) rfl rfl) rfl (ltb rfl) ?_
      refine DR.skip (i := 45) rfl (by kernel_rfl) (.no rfl rfl rfl (ltb rfl) rfl rfl) rfl (ltb rfl) ?_
      refine DR.skip (i := 46) rfl (by kernel_rfl) (.no rfl rfl rfl (ltb rfl) rfl rfl) rfl (ltb rfl) ?_
      refine DR.done rfl ?_
      intro w22 m17
      refine WO.skip rfl (.no rfl rfl rfl (ltb rfl) rfl rfl) rfl (ltb rfl) ?_
      refine WO.skip rfl (.no rfl rfl rfl (ltb rfl) rfl rfl) rfl (ltb rfl) ?_
      refine WO.det (op_pick_f rfl rfl rfl) rfl (.free rfl) rfl rfl ?_
      refine WO.det (op_assign rfl) rfl (.free rfl) rfl rfl ?_
      refine WO.end ?_
      refine NE.code ?_
      refine CE.ret' ?_
      refine XE.leave1 Try.results78 rfl ?_
      refine ⟨?_, (((((Mod.refl [] w).nt md5).nt m15).nt m16).nt m17)⟩
      all_goals simp_all [vJet]
  · refine CE.draw (fun | 9 => some (fun _ wA uA wB => uA = .bool (vRingF n j xs && vRingF m jj ys) ∧ Mod [] wA wB) | _ => none) [0, 1, 2, 3, 4, 5, 6, 7, 8, 9, 10, 11, 12, 13, 14, 15, 16, 17, 18, 19, 20, 21, 22, 23, 24, 25, 26, 27, 28, 29, 30, 31, 32, 33, 34, 35, 36, 37, 38, 39, 40, 41, 42, 43, 44, 45, 46] [47, 48, 49, 50] [] (by kernel_rfl) (by kernel_rfl) ?_
    have md6 : Mod [] w w.drew := (Mod.refl _ _).drew
    generalize w.drew = w23 at md6 ⊢
    refine DR.det (i := 0) rfl rfl (by kernel_rfl) (.free rfl) rfl rfl (fun wD mD => op_move rfl) ?_
    refine DR.det (i := 1) rfl rfl (by kernel_rfl) (.free rfl) rfl rfl (fun wD mD => op_nilCheck rfl) ?_
    refine DR.det (i := 2) rfl rfl (by kernel_rfl) (.free rfl) rfl rfl (fun wD mD => op_fieldAddr (off' := k) rfl Try.runUnderlying61 rfl rfl Try.sizeOf33 rfl) ?_
    refine DR.det (i := 3) rfl rfl (by kernel_rfl) (.free rfl) rfl rfl (fun wD mD => op_loadA (i := k) (cs := [vS b 0 n c, vI j]) rfl Try.isAgg33 Try.sizeOf33 ((q.ext md6).ext mD) (Nat.zero_add _) (sub_take (i := 0) hk (lB rfl) rfl) rfl) ?_
    refine DR.det (i := 4) rfl rfl (by kernel_rfl) (.free rfl) rfl rfl (fun wD mD => op_move rfl) ?_
    refine DR.det (i := 5) rfl rfl (by kernel_rfl) (.free rfl) rfl rfl (fun wD mD => op_nilCheck rfl) ?_
    refine DR.det (i := 6) rfl rfl (by kernel_rfl) (.free rfl) rfl rfl (fun wD mD => op_fieldAddr (off' := k + 2) rfl Try.runUnderlying61 rfl rfl Try.sizeOf33 rfl) ?_
    refine DR.det (i := 7) rfl rfl (by kernel_rfl) (.free rfl) rfl rfl (fun wD mD => op_loadA (i := k + 2) (cs := [vS d 0 m c2, vI jj]) rfl Try.isAgg33 Try.sizeOf33 ((q.ext md6).ext mD) (Nat.zero_add _) (sub_take (i := 2) hk (lB rfl) rfl) rfl) ?_
    refine DR.one1 (i := 8) rfl rfl (by kernel_rfl) (.free rfl) rfl (ltb rfl) ?_
    intro w24 m18
    refine Op1.mono (op_buildSl (qs := [(0, .agg #[vS b 0 n c, vI j]), (1, .agg #[vS d 0 m c2, vI jj])]) (cells := #[vS b 0 n c, vI j, vS d 0 m c2, vI jj]) rfl Try.runUnderlying121 Try.sizeOf33 Try.zeroValue33 (by decide) (by decide) (by kernel_rfl)) ?_
    rintro _ w25 ⟨rfl, r7, m19, z7⟩
    refine ⟨(((Mod.refl [] w23).nt m18).nt m19), ?_⟩
    refine DR.rebase ?_
    refine DR.call (i := 9) (fun uA => uA = .bool (vRingF n j xs && vRingF m jj ys)) rfl rfl (by kernel_rfl) (.free rfl) rfl (ltb rfl) ⟨_, rfl⟩ (vs := [.func (.func 90) #[] #[], vS w24.heap.size 0 2 2]) rfl (fun wD mD => oc_call (vs := [vS w24.heap.size 0 2 2]) (cap := []) rfl rfl rfl Try.call90 (c_l04Rings2 n c b xs m c2 d ys j jj w24.heap.size 2 ln lm (by omega) (by omega) wD (r7.ext mD).rng ((((r.ext md6).ext m18).ext m19).ext mD) ((((ry.ext md6).ext m18).ext m19).ext mD))) ?_ ?_
    · rintro w1 _ w2 m1 ⟨rfl, m2⟩; exact ⟨rfl, m2⟩
    rintro _ rfl
    refine DR.det (i := 10) rfl rfl (by kernel_rfl) (.free rfl) rfl rfl (fun wD mD => op_move rfl) ?_
    refine DR.skip (i := 11) rfl (by kernel_rfl) (.no rfl rfl rfl (ltb rfl) rfl hb1) rfl (ltb rfl) ?_
    refine DR.skip (i := 12) rfl (by kernel_rfl) (.no rfl rfl rfl (ltb rfl) rfl hb1) rfl (ltb rfl) ?_
    refine DR.skip (i := 13) rfl (by kernel_rfl) (.no rfl rfl rfl (ltb rfl) rfl hb1) rfl (ltb rfl) ?_
    refine DR.skip (i := 14) rfl (by kernel_rfl) (.no rfl rfl rfl (ltb rfl) rfl hb1) rfl (ltb rfl) ?_
    refine DR.det (i := 15) rfl rfl (by kernel_rfl) (.free rfl) rfl rfl (fun wD mD => op_pick_f rfl hb1 rfl) ?_
    refine DR.det (i := 16) rfl rfl (by kernel_rfl) (.free rfl) rfl rfl (fun wD mD => op_move rfl) ?_
    refine DR.skip (i := 17) rfl (by kernel_rfl) (.no rfl rfl rfl (ltb rfl) rfl rfl) rfl (ltb rfl) ?_
    refine DR.skip (i := 18) rfl (by kernel_rfl) (.no rfl rfl rfl (ltb rfl) rfl rfl) rfl (ltb rfl) ?_
    refine DR.skip (i := 19) rfl (by kernel_rfl) (.no rfl rfl rfl (ltb rfl) rfl rfl) rfl (ltb rfl) ?_
    refine DR.skip (i := 20) rfl (by kernel_rfl) (.no rfl rfl rfl (ltb rfl) rfl rfl) rfl (ltb rfl) ?_
    refine DR.skip (i := 21) rfl (by kernel_rfl) (.no rfl rfl rfl (ltb rfl) rfl rfl) rfl (ltb rfl) ?_
    refine DR.skip (i := 22) rfl (by kernel_rfl) (.no rfl rfl rfl (ltb rfl) rfl rfl) rfl (ltb rfl) ?_
    refine DR.det (i := 23) rfl rfl (by kernel_rfl) (.free rfl) rfl rfl (fun wD mD => op_pick_f rfl rfl rfl) ?_
    refine DR.det (i := 24) rfl rfl (by kernel_rfl) (.free rfl) rfl rfl (fun wD mD => op_move rfl) ?_
    refine DR.skip (i := 25) rfl (by kernel_rfl) (.no rfl rfl rfl (ltb rfl) rfl rfl) rfl (ltb rfl) ?_
    refine DR.skip (i := 26) rfl (by kernel_rfl) (.no rfl rfl rfl (ltb rfl) rfl rfl) rfl (ltb rfl) ?_
    refine DR.skip (i := 27) rfl (by kernel_rfl) (.no rfl rfl rfl (ltb rfl) rfl rfl) rfl (ltb rfl) ?_
    refine DR.skip (i := 28) rfl (by kernel_rfl) (.no rfl rfl rfl (ltb rfl) rfl rfl) rfl (ltb rfl) ?_
    refine DR.det (i := 29) rfl rfl (by kernel_rfl) (.free rfl) rfl rfl (fun wD mD => op_pick_f rfl rfl rfl) ?_
    refine DR.det (i := 30) rfl rfl (by kernel_rfl) (.free rfl) rfl rfl (fun wD mD => op_move rfl) ?_
    refine DR.skip (i := 31) rfl (by kernel_rfl) (.no rfl rfl rfl (ltb rfl) rfl rfl) rfl (ltb rfl) ?_
    refine DR.skip (i := 32) rfl (by kernel_rfl) (.no rfl rfl rfl (ltb rfl) rfl rfl) rfl (ltb rfl) ?_
    refine DR.skip (i := 33) rfl (by kernel_rfl) (.no rfl rfl rfl (ltb rfl) rfl rfl) rfl (ltb rfl) ?_
    refine DR.skip (i := 34) rfl (by kernel_rfl) (.no rfl rfl rfl (ltb rfl) rfl rfl) rfl (ltb rfl) ?_
    refine DR.skip (i := 35) rfl (by kernel_rfl) (.no rfl rfl rfl (ltb rfl) rfl rfl) rfl (ltb rfl) ?_
    refine DR.skip (i := 36) rfl (by kernel_rfl) (.no rfl rfl rfl (ltb rfl) rfl rfl) rfl (ltb rfl) ?_
    refine DR.det (i := 37) rfl rfl (by kernel_rfl) (.free rfl) rfl rfl (fun wD mD => op_pick_f rfl rfl rfl) ?_
    refine DR.det (i := 38) rfl rfl (by kernel_rfl) (.free rfl) rfl rfl (fun wD mD => op_move rfl) ?_
    refine DR.skip (i := 39) rfl (by kernel_rfl) (.no rfl rfl rfl (ltb rfl) rfl rfl) rfl (ltb rfl) ?_
    refine DR.skip (i := 40) rfl (by kernel_rfl) (.no rfl rfl rfl (ltb rfl) rfl rfl) rfl (ltb rfl) ?_
    refine DR.skip (i := 41) rfl (by kernel_rfl) (.no rfl rfl rfl (ltb rfl) rfl rfl) rfl (ltb rfl) ?_
    refine DR.skip (i := 42) rfl (by kernel_rfl) (.no rfl rfl rfl (ltb rfl) rfl rfl) rfl (ltb rfl) ?_
    refine DR.skip (i := 43) rfl (by kernel_rfl) (.no rfl rfl rfl (ltb rfl) rfl rfl) rfl (ltb rfl) ?_
    refine DR.skip (i := 44) rfl (by kernel_rfl) (.no rfl rfl rfl (ltb rfl) rfl rfl) rfl (ltb rfl) ?_
    refine DR.skip (i := 45) rfl (by kernel_rfl) (.no rfl rfl rfl (ltb rfl) rfl rfl) rfl (ltb rfl) ?_
    refine DR.skip (i := 46) rfl (by kernel_rfl) (.no rfl rfl rfl (ltb rfl) rfl rfl) rfl (ltb rfl) ?_
    refine DR.done rfl ?_
    intro w26 m20
    refine WO.skip rfl (.no rfl rfl rfl (ltb rfl) rfl rfl) rfl (ltb rfl) ?_
    refine WO.skip rfl (.no rfl rfl rfl (ltb rfl) rfl rfl) rfl (ltb rfl) ?_
    refine WO.det (op_pick_f rfl rfl rfl) rfl (.free rfl) rfl rfl ?_
    refine WO.det (op_assign rfl) rfl (.free rfl) rfl rfl ?_
    refine WO.end ?_
    refine NE.code ?_
    refine CE.ret' ?_
    refine XE.leave1 Try.results78 rfl ?_
    refine ⟨?_, (((((Mod.refl [] w).nt md6).nt m18).nt m19).nt m20)⟩
    all_goals simp_all [vJet]

set_option maxRecDepth 100000 in
set_option maxHeartbeats 2000000 in
theorem c_cloneJet (n : Nat) (c : Nat) (b : Nat) (xs : List Nat) (m : Nat) (c2 : Nat) (d : Nat) (ys : List Nat) (j : Int) (jj : Int) (lk : Int) (lc0 : Nat) (lc1 : Nat) (lc2 : Nat) (ls0 : Nat) (ls1 : Nat) (dk : Int) (dc0 : Nat) (dc1 : Nat) (dc2 : Nat) (ds0 : Nat) (ds1 : Nat) (ne : Nat) (fa : Nat) (ln : xs.length = n) (lm : ys.length = m) (hn : n ≤ 1048576) (hm : m ≤ 1048576) (h0 : 0 < n) (h1 : 0 < m) (w : World) (r : Rng w b 0 (fl xs)) (ry : Rng w d 0 (fl ys)) : Cl Try.prog 82 #[.agg #[vS b 0 n c, vI j, vS d 0 m c2, vI jj, vI lk, vF lc0, vF lc1, vF lc2, vF ls0, vF ls1, vI dk, vF dc0, vF dc1, vF dc2, vF ds0, vF ds1, vF ne, vF fa]] w fun v w' => ∃ (b' : Nat) (c' : Nat) (d' : Nat) (c2' : Nat), v = .agg #[vS b' 0 n c', vI j, vS d' 0 m c2', vI jj, vI lk, vF lc0, vF lc1, vF lc2, vF ls0, vF ls1, vI dk, vF dc0, vF dc1, vF dc2, vF ds0, vF ds1, vF ne, vF fa] ∧ Row w' b' 0 (fl xs) ∧ Row w' d' 0 (fl ys) ∧ w.heap.size ≤ b' ∧ w.heap.size ≤ d' ∧ b' ≠ d' ∧ Mod [] w w' := by
  refine Cl.of Try.func82 Try.ntmps82 rfl rfl (ρ := [(0, .agg #[vS b 0 n c, vI j, vS d 0 m c2, vI jj, vI lk, vF lc0, vF lc1, vF lc2, vF ls0, vF ls1, vI dk, vF dc0, vF dc1, vF dc2, vF ds0, vF ds1, vF ne, vF fa])]) rfl ?_
  refine CE.seq ?_
  refine CE.region ?_
  refine WL.op (op_box (cs := [vS b 0 n c, vI j, vS d 0 m c2, vI jj, vI lk, vF lc0, vF lc1, vF lc2, vF ls0, vF ls1, vI dk, vF dc0, vF dc1, vF dc2, vF ds0, vF ds1, vF ne, vF fa]) rfl rfl) rfl rfl (ltb rfl) ?_
  rintro _ w1 ⟨rfl, r1, m1, z1⟩
  refine WL.op (op_alloc (cs := [.slice none 0 0, vI 0, .slice none 0 0, vI 0, vI 0, vF 0, vF 0, vF 0, vF 0, vF 0, vI 0, vF 0, vF 0, vF 0, vF 0, vF 0, vF 0, vF 0]) Try.zeroValue61 rfl) rfl rfl (ltb rfl) ?_
  rintro _ w2 ⟨rfl, r2, m2, z2⟩
  refine WL.end ?_
  refine NE.code ?_
  refine CE.seq ?_
  refine CE.draw (fun | 2 => some (fun _ wA uA wB => ∃ (b' : Nat) (c' : Nat), uA = .agg #[vS b' 0 n c', vI j] ∧ Row wB b' 0 (fl xs) ∧ wA.heap.size ≤ b' ∧ Mod [] wA wB) | 5 => some (fun _ wA uA wB => ∃ (b' : Nat) (c' : Nat), uA = .agg #[vS b' 0 m c', vI jj] ∧ Row wB b' 0 (fl ys) ∧ wA.heap.size ≤ b' ∧ Mod [] wA wB) | _ => none) [0, 1, 2, 3, 4, 5, 6] [7, 8, 9] [] (by kernel_rfl) (by kernel_rfl) ?_
  have md1 : Mod [] w2 w2.drew := (Mod.refl _ _).drew
  generalize w2.drew = w3 at md1 ⊢
  refine DR.det (i := 0) rfl rfl (by kernel_rfl) (.free rfl) rfl rfl (fun wD mD => op_fieldAddr (off' := 0) rfl Try.runUnderlying61 rfl rfl Try.sizeOf33 rfl) ?_
  refine DR.det (i := 1) rfl rfl (by kernel_rfl) (.free rfl) rfl rfl (fun wD mD => op_loadA (i := 0) (cs := [vS b 0 n c, vI j]) rfl Try.isAgg33 Try.sizeOf33 (((r1.ext m2).ext md1).ext mD).rng rfl rfl rfl) ?_
  refine DR.det (i := 3) rfl rfl (by kernel_rfl) (.free rfl) rfl rfl (fun wD mD => op_fieldAddr (off' := 2) rfl Try.runUnderlying61 rfl rfl Try.sizeOf33 rfl) ?_
  refine DR.det (i := 4) rfl rfl (by kernel_rfl) (.free rfl) rfl rfl (fun wD mD => op_loadA (i := 2) (cs := [vS d 0 m c2, vI jj]) rfl Try.isAgg33 Try.sizeOf33 (((r1.ext m2).ext md1).ext mD).rng rfl rfl rfl) ?_
  refine DR.one (i := 2) rfl rfl (by kernel_rfl) (.free rfl) rfl (ltb rfl) (vs := [.func (.func 100) #[] #[], .agg #[vS b 0 n c, vI j]]) rfl ?_
  intro w4 m3
  refine ⟨oc_call (vs := [.agg #[vS b 0 n c, vI j]]) (cap := []) rfl rfl rfl Try.call100 (c_cloneRing n c b xs j ln (by omega) (by omega) w4 ((((r.ext m1).ext m2).ext md1).ext m3)), ?_⟩
  rintro _ w5 ⟨b'1, c'1, rfl, r3, ge1, m4⟩
  refine ⟨(((Mod.refl [] w3).nt m3).nt m4), ?_⟩
  refine DR.rebase ?_
  refine DR.det (i := 6) rfl rfl (by kernel_rfl) (.free rfl) rfl rfl (fun wD mD => op_fieldAddr (off' := 0) rfl Try.runUnderlying61 rfl rfl Try.sizeOf33 rfl) ?_
  refine DR.one (i := 5) rfl rfl (by kernel_rfl) (.free rfl) rfl (ltb rfl) (vs := [.func (.func 100) #[] #[], .agg #[vS d 0 m c2, vI jj]]) rfl ?_
  intro w6 m5
  refine ⟨oc_call (vs := [.agg #[vS d 0 m c2, vI jj]]) (cap := []) rfl rfl rfl Try.call100 (c_cloneRing m c2 d ys jj lm (by omega) (by omega) w6 ((((((ry.ext m1).ext m2).ext md1).ext m3).ext m4).ext m5)), ?_⟩
  rintro _ w7 ⟨b'2, c'2, rfl, r4, ge2, m6⟩
  refine ⟨(((Mod.refl [] w5).nt m5).nt m6), ?_⟩
  refine DR.done rfl ?_
  intro w8 m7
  refine WO.op0 rfl (.free rfl) rfl (op_store (i := 0) (cs := [vS b'1 0 n c'1, vI j]) rfl rfl rfl Try.sizeOf33 rfl (((((((r1.ext m2).ext md1).ext m3).ext m4).ext m5).ext m6).ext m7) rfl (lB rfl) rfl) ?_
  rintro _ w9 ⟨r5, m8, z3⟩
  have r6 : Row w9 w.heap.size 0 [vS b'1 0 n c'1, vI j, vS d 0 m c2, vI jj, vI lk, vF lc0, vF lc1, vF lc2, vF ls0, vF ls1, vI dk, vF dc0, vF dc1, vF dc2, vF ds0, vF ds1, vF ne, vF fa] := Row.congr r5 rfl
  refine WO.det (op_fieldAddr (off' := 2) rfl Try.runUnderlying61 rfl rfl Try.sizeOf33 rfl) rfl (.free rfl) rfl rfl ?_
  refine WO.op0 rfl (.free rfl) rfl (op_store (i := 2) (cs := [vS b'2 0 m c'2, vI jj]) rfl rfl rfl Try.sizeOf33 rfl r6 rfl (lB rfl) rfl) ?_
  rintro _ w10 ⟨r7, m9, z4⟩
  have r8 : Row w10 w.heap.size 0 [vS b'1 0 n c'1, vI j, vS b'2 0 m c'2, vI jj, vI lk, vF lc0, vF lc1, vF lc2, vF ls0, vF ls1, vI dk, vF dc0, vF dc1, vF dc2, vF ds0, vF ds1, vF ne, vF fa] := Row.congr r7 rfl
  refine WO.end ?_
  refine NE.code ?_
  refine CE.seq ?_
  refine CE.region ?_
  refine WL.det (op_loadA (i := 0) (cs := [vS b'1 0 n c'1, vI j, vS b'2 0 m c'2, vI jj, vI lk, vF lc0, vF lc1, vF lc2, vF ls0, vF ls1, vI dk, vF dc0, vF dc1, vF dc2, vF ds0, vF ds1, vF ne, vF fa]) rfl Try.isAgg61 Try.sizeOf61 r8.rng rfl rfl rfl) rfl rfl rfl ?_
  refine WL.op0 (op_store (i := 0) (cs := [vS b'1 0 n c'1, vI j, vS b'2 0 m c'2, vI jj, vI lk, vF lc0, vF lc1, vF lc2, vF ls0, vF ls1, vI dk, vF dc0, vF dc1, vF dc2, vF ds0, vF ds1, vF ne, vF fa]) rfl rfl rfl Try.sizeOf61 rfl ((((((((r2.ext md1).ext m3).ext m4).ext m5).ext m6).ext m7).mod m8 (nC (lG (lL r1.lt lR)) nN)).mod m9 (nC (lG (lL r1.lt lR)) nN)) rfl (lB rfl) rfl) rfl rfl ?_
  rintro _ w11 ⟨r9, m10, z5⟩
  have r10 : Row w11 w1.heap.size 0 [vS b'1 0 n c'1, vI j, vS b'2 0 m c'2, vI jj, vI lk, vF lc0, vF lc1, vF lc2, vF ls0, vF ls1, vI dk, vF dc0, vF dc1, vF dc2, vF ds0, vF ds1, vF ne, vF fa] := Row.congr r9 rfl
  refine WL.end ?_
  refine NE.code ?_
  refine CE.ret' ?_
  refine XE.leaveC Try.results82 (res_agg (cs := [vS b'1 0 n c'1, vI j, vS b'2 0 m c'2, vI jj, vI lk, vF lc0, vF lc1, vF lc2, vF ls0, vF ls1, vI dk, vF dc0, vF dc1, vF dc2, vF ds0, vF ds1, vF ne, vF fa]) rfl Try.isAgg61 Try.sizeOf61 r10.rng rfl res_nil) ?_
  refine ⟨b'1, c'1, b'2, c'2, rfl, ((((((r3.ext m5).ext m6).ext m7).mod m8 (nC (lG (lL (lL r1.lt (lT (lT m2.size md1.size) m3.size)) ge1)) nN)).mod m9 (nC (lG (lL (lL r1.lt (lT (lT m2.size md1.size) m3.size)) ge1)) nN)).mod m10 (nC (lG (lL (lL r2.lt (lT md1.size m3.size)) ge1)) nN)), ((((r4.ext m7).mod m8 (nC (lG (lL (lL r1.lt (lT (lT (lT (lT m2.size md1.size) m3.size) m4.size) m5.size)) ge2)) nN)).mod m9 (nC (lG (lL (lL r1.lt (lT (lT (lT (lT m2.size md1.size) m3.size) m4.size) m5.size)) ge2)) nN)).mod m10 (nC (lG (lL (lL r2.lt (lT (lT (lT md1.size m3.size) m4.size) m5.size)) ge2)) nN)), (lT (lT (lT (lT m1.size m2.size) md1.size) m3.size) ge1), (lT (lT (lT (lT (lT (lT m1.size m2.size) md1.size) m3.size) m4.size) m5.size) ge2), (lE (lL (lL r3.lt m5.size) ge2)), ((((((((((((Mod.refl [] w).nt m1).nt m2).nt md1).nt m3).nt m4).nt m5).nt m6).nt m7).then m8 ((aC (.inr lR) aN))).then m9 ((aC (.inr lR) aN))).then m10 ((aC (.inr (lT m1.size lR)) aN)))⟩

set_option maxRecDepth 100000 in
set_option maxHeartbeats 2000000 in
theorem c_copyJet (n : Nat) (c : Nat) (b : Nat) (xs : List Nat) (m : Nat) (c2 : Nat) (d : Nat) (ys : List Nat) (j : Int) (jj : Int) (lk : Int) (lc0 : Nat) (lc1 : Nat) (lc2 : Nat) (ls0 : Nat) (ls1 : Nat) (dk : Int) (dc0 : Nat) (dc1 : Nat) (dc2 : Nat) (ds0 : Nat) (ds1 : Nat) (ne : Nat) (fa : Nat) (p : Nat) (k : Nat) (vs : List Value) (ln : xs.length = n) (lm : ys.length = m) (hn : n ≤ 1048576) (hm : m ≤ 1048576) (h0 : 0 < n) (h1 : 0 < m) (hk : k + 18 ≤ vs.length) (w : World) (q : Rng w p 0 (splice vs k [vS b 0 n c, vI j, vS d 0 m c2, vI jj, vI lk, vF lc0, vF lc1, vF lc2, vF ls0, vF ls1, vI dk, vF dc0, vF dc1, vF dc2, vF ds0, vF ds1, vF ne, vF fa])) (r : Rng w b 0 (fl xs)) (ry : Rng w d 0 (fl ys)) : Cl Try.prog 79 #[vP p k] w fun v w' => ∃ (b' : Nat) (c' : Nat) (d' : Nat) (c2' : Nat), v = .agg #[vS b' 0 n c', vI j, vS d' 0 m c2', vI jj, vI lk, vF lc0, vF lc1, vF lc2, vF ls0, vF ls1, vI dk, vF dc0, vF dc1, vF dc2, vF ds0, vF ds1, vF ne, vF fa] ∧ Row w' b' 0 (fl xs) ∧ Row w' d' 0 (fl ys) ∧ w.heap.size ≤ b' ∧ w.heap.size ≤ d' ∧ b' ≠ d' ∧ Mod [] w w' := by
  refine Cl.of Try.func79 Try.ntmps79 rfl rfl (ρ := [(0, vP p k)]) rfl ?_
  refine CE.seq ?_
  refine CE.region ?_
  refine WL.op (op_alloc (cs := [.slice none 0 0, vI 0, .slice none 0 0, vI 0, vI 0, vF 0, vF 0, vF 0, vF 0, vF 0, vI 0, vF 0, vF 0, vF 0, vF 0, vF 0, vF 0, vF 0]) Try.zeroValue61 rfl) rfl rfl (ltb rfl) ?_
  rintro _ w1 ⟨rfl, r1, m1, z1⟩
  refine WL.end ?_
  refine NE.code ?_
  refine CE.seq ?_
  refine CE.draw (fun | 3 => some (fun _ wA uA wB => ∃ (b' : Nat) (c' : Nat), uA = .agg #[vS b' 0 n c', vI j] ∧ Row wB b' 0 (fl xs) ∧ wA.heap.size ≤ b' ∧ Mod [] wA wB) | 7 => some (fun _ wA uA wB => ∃ (b' : Nat) (c' : Nat), uA = .agg #[vS b' 0 m c', vI jj] ∧ Row wB b' 0 (fl ys) ∧ wA.heap.size ≤ b' ∧ Mod [] wA wB) | _ => none) [0, 1, 2, 3, 4, 5, 6, 7, 8, 9, 10, 11, 12, 13, 14, 15, 16, 17, 18, 19, 20, 21, 22, 23] [24, 25] [] (by kernel_rfl) (by kernel_rfl) ?_
  have md1 : Mod [] w1 w1.drew := (Mod.refl _ _).drew
  generalize w1.drew = w2 at md1 ⊢
  refine DR.det (i := 0) rfl rfl (by kernel_rfl) (.free rfl) rfl rfl (fun wD mD => op_move rfl) ?_
  refine DR.det (i := 1) rfl rfl (by kernel_rfl) (.free rfl) rfl rfl (fun wD mD => op_nilCheck rfl) ?_
  refine DR.det (i := 2) rfl rfl (by kernel_rfl) (.free rfl) rfl rfl (fun wD mD => op_fieldAddr (off' := k) rfl Try.runUnderlying61 rfl rfl Try.sizeOf33 rfl) ?_
  refine DR.det (i := 4) rfl rfl (by kernel_rfl) (.free rfl) rfl rfl (fun wD mD => op_move rfl) ?_
  refine DR.det (i := 5) rfl rfl (by kernel_rfl) (.free rfl) rfl rfl (fun wD mD => op_nilCheck rfl) ?_
  refine DR.det (i := 6) rfl rfl (by kernel_rfl) (.free rfl) rfl rfl (fun wD mD => op_fieldAddr (off' := k + 2) rfl Try.runUnderlying61 rfl rfl Try.sizeOf33 rfl) ?_
  refine DR.det (i := 8) rfl rfl (by kernel_rfl) (.free rfl) rfl rfl (fun wD mD => op_move rfl) ?_
  refine DR.det (i := 9) rfl rfl (by kernel_rfl) (.free rfl) rfl rfl (fun wD mD => op_nilCheck rfl) ?_
  refine DR.det (i := 10) rfl rfl (by kernel_rfl) (.free rfl) rfl rfl (fun wD mD => op_fieldAddr (off' := k + 4) rfl Try.runUnderlying61 rfl rfl Try.sizeOf34 rfl) ?_
  refine DR.det (i := 11) rfl rfl (by kernel_rfl) (.free rfl) rfl rfl (fun wD mD => op_loadA (i := k + 4) (cs := [vI lk, vF lc0, vF lc1, vF lc2, vF ls0, vF ls1]) rfl Try.isAgg34 Try.sizeOf34 (((q.ext m1).ext md1).ext mD) (Nat.zero_add _) (sub_take (i := 4) hk (lB rfl) rfl) rfl) ?_
  refine DR.det (i := 12) rfl rfl (by kernel_rfl) (.free rfl) rfl rfl (fun wD mD => op_move rfl) ?_
  refine DR.det (i := 13) rfl rfl (by kernel_rfl) (.free rfl) rfl rfl (fun wD mD => op_nilCheck rfl) ?_
  refine DR.det (i := 14) rfl rfl (by kernel_rfl) (.free rfl) rfl rfl (fun wD mD => op_fieldAddr (off' := k + 10) rfl Try.runUnderlying61 rfl rfl Try.sizeOf34 rfl) ?_
  refine DR.det (i := 15) rfl rfl (by kernel_rfl) (.free rfl) rfl rfl (fun wD mD => op_loadA (i := k + 10) (cs := [vI dk, vF dc0, vF dc1, vF dc2, vF ds0, vF ds1]) rfl Try.isAgg34 Try.sizeOf34 (((q.ext m1).ext md1).ext mD) (Nat.zero_add _) (sub_take (i := 10) hk (lB rfl) rfl) rfl) ?_
  refine DR.det (i := 16) rfl rfl (by kernel_rfl) (.free rfl) rfl rfl (fun wD mD => op_move rfl) ?_
  refine DR.det (i := 17) rfl rfl (by kernel_rfl) (.free rfl) rfl rfl (fun wD mD => op_nilCheck rfl) ?_
  refine DR.det (i := 18) rfl rfl (by kernel_rfl) (.free rfl) rfl rfl (fun wD mD => op_fieldAddr (off' := k + 16) rfl Try.runUnderlying61 rfl rfl Try.sizeOf25 rfl) ?_
  refine DR.det (i := 19) rfl rfl (by kernel_rfl) (.free rfl) rfl rfl (fun wD mD => op_load1 (i := k + 16) rfl Try.isAgg25 (((q.ext m1).ext md1).ext mD) (Nat.zero_add _) (sub_get (i := 16) hk rfl)) ?_
  refine DR.det (i := 20) rfl rfl (by kernel_rfl) (.free rfl) rfl rfl (fun wD mD => op_move rfl) ?_
  refine DR.det (i := 21) rfl rfl (by kernel_rfl) (.free rfl) rfl rfl (fun wD mD => op_nilCheck rfl) ?_
  refine DR.det (i := 22) rfl rfl (by kernel_rfl) (.free rfl) rfl rfl (fun wD mD => op_fieldAddr (off' := k + 17) rfl Try.runUnderlying61 rfl rfl Try.sizeOf25 rfl) ?_
  refine DR.det (i := 23) rfl rfl (by kernel_rfl) (.free rfl) rfl rfl (fun wD mD => op_load1 (i := k + 17) rfl Try.isAgg25 (((q.ext m1).ext md1).ext mD) (Nat.zero_add _) (sub_get (i := 17) hk rfl)) ?_
  refine DR.one (i := 3) rfl rfl (by kernel_rfl) (.free rfl) rfl (ltb rfl) (vs := [.func (.func 93) #[] #[], vP p k]) rfl ?_
  intro w3 m2
  refine ⟨oc_call (vs := [vP p k]) (cap := []) rfl rfl rfl Try.call93 (c_l02Copy n c b xs j p k (splice vs k [vS b 0 n c, vI j, vS d 0 m c2, vI jj, vI lk, vF lc0, vF lc1, vF lc2, vF ls0, vF ls1, vI dk, vF dc0, vF dc1, vF dc2, vF ds0, vF ds1, vF ne, vF fa]) ln (by omega) (by omega) (sub_fit (i := 0) hk (lB rfl)) w3 (Rng.congr (((q.ext m1).ext md1).ext m2) (sub_same (i := 0) hk (lB rfl) rfl)) (((r.ext m1).ext md1).ext m2)), ?_⟩
  rintro _ w4 ⟨b'1, c'1, rfl, r2, ge1, m3⟩
  refine ⟨(((Mod.refl [] w2).nt m2).nt m3), ?_⟩
  refine DR.rebase ?_
  refine DR.one (i := 7) rfl rfl (by kernel_rfl) (.free rfl) rfl (ltb rfl) (vs := [.func (.func 93) #[] #[], vP p (k + 2)]) rfl ?_
  intro w5 m4
  refine ⟨oc_call (vs := [vP p (k + 2)]) (cap := []) rfl rfl rfl Try.call93 (c_l02Copy m c2 d ys jj p (k + 2) (splice vs k [vS b 0 n c, vI j, vS d 0 m c2, vI jj, vI lk, vF lc0, vF lc1, vF lc2, vF ls0, vF ls1, vI dk, vF dc0, vF dc1, vF dc2, vF ds0, vF ds1, vF ne, vF fa]) lm (by omega) (by omega) (sub_fit (i := 2) hk (lB rfl)) w5 (Rng.congr (((((q.ext m1).ext md1).ext m2).ext m3).ext m4) (sub_same (i := 2) hk (lB rfl) rfl)) (((((ry.ext m1).ext md1).ext m2).ext m3).ext m4)), ?_⟩
  rintro _ w6 ⟨b'2, c'2, rfl, r3, ge2, m5⟩
  refine ⟨(((Mod.refl [] w4).nt m4).nt m5), ?_⟩
  refine DR.done rfl ?_
  intro w7 m6
  refine WO.det (op_build (qs := [(0, .agg #[vS b'1 0 n c'1, vI j]), (1, .agg #[vS b'2 0 m c'2, vI jj]), (2, .agg #[vI lk, vF lc0, vF lc1, vF lc2, vF ls0, vF ls1]), (3, .agg #[vI dk, vF dc0, vF dc1, vF dc2, vF ds0, vF ds1]), (4, vF ne), (5, vF fa)]) (cells := #[vS b'1 0 n c'1, vI j, vS b'2 0 m c'2, vI jj, vI lk, vF lc0, vF lc1, vF lc2, vF ls0, vF ls1, vI dk, vF dc0, vF dc1, vF dc2, vF ds0, vF ds1, vF ne, vF fa]) rfl (by kernel_rfl)) rfl (.free rfl) rfl rfl ?_
  refine WO.op0 rfl (.free rfl) rfl (op_store (i := 0) (cs := [vS b'1 0 n c'1, vI j, vS b'2 0 m c'2, vI jj, vI lk, vF lc0, vF lc1, vF lc2, vF ls0, vF ls1, vI dk, vF dc0, vF dc1, vF dc2, vF ds0, vF ds1, vF ne, vF fa]) rfl rfl rfl Try.sizeOf61 rfl ((((((r1.ext md1).ext m2).ext m3).ext m4).ext m5).ext m6) rfl (lB rfl) rfl) ?_
  rintro _ w8 ⟨r4, m7, z2⟩
  have r5 : Row w8 w.heap.size 0 [vS b'1 0 n c'1, vI j, vS b'2 0 m c'2, vI jj, vI lk, vF lc0, vF lc1, vF lc2, vF ls0, vF ls1, vI dk, vF dc0, vF dc1, vF dc2, vF ds0, vF ds1, vF ne, vF fa] := Row.congr r4 rfl
  refine WO.end ?_
  refine NE.code ?_
  refine CE.ret' ?_
  refine XE.leaveC Try.results79 (res_agg (cs := [vS b'1 0 n c'1, vI j, vS b'2 0 m c'2, vI jj, vI lk, vF lc0, vF lc1, vF lc2, vF ls0, vF ls1, vI dk, vF dc0, vF dc1, vF dc2, vF ds0, vF ds1, vF ne, vF fa]) rfl Try.isAgg61 Try.sizeOf61 r5.rng rfl res_nil) ?_
  refine ⟨b'1, c'1, b'2, c'2, rfl, ((((r2.ext m4).ext m5).ext m6).mod m7 (nC (lG (lL (lL r1.lt (lT md1.size m2.size)) ge1)) nN)), ((r3.ext m6).mod m7 (nC (lG (lL (lL r1.lt (lT (lT (lT md1.size m2.size) m3.size) m4.size)) ge2)) nN)), (lT (lT (lT m1.size md1.size) m2.size) ge1), (lT (lT (lT (lT (lT m1.size md1.size) m2.size) m3.size) m4.size) ge2), (lE (lL (lL r2.lt m4.size) ge2)), (((((((((Mod.refl [] w).nt m1).nt md1).nt m2).nt m3).nt m4).nt m5).nt m6).then m7 ((aC (.inr lR) aN)))⟩

set_option maxRecDepth 100000 in
set_option maxHeartbeats 2000000 in
theorem c_jetStep (n : Nat) (c : Nat) (b : Nat) (xs : List Nat) (m : Nat) (c2 : Nat) (d : Nat) (ys : List Nat) (i : Nat) (h : Nat) (lk : Int) (lc0 : Nat) (lc1 : Nat) (lc2 : Nat) (ls0 : Nat) (ls1 : Nat) (dk : Int) (dc0 : Nat) (dc1 : Nat) (dc2 : Nat) (ds0 : Nat) (ds1 : Nat) (ne : Nat) (fa : Nat) (p : Nat) (k : Nat) (vs : List Value) (a : Nat) (x : Nat) (ln : xs.length = n) (lm : ys.length = m) (hn : n ≤ 1048576) (hm : m ≤ 1048576) (hi : i < n) (hh : h < m) (lls0 : ls0 < wid .f32) (lls1 : ls1 < wid .f32) (lds0 : ds0 < wid .f32) (lds1 : ds1 < wid .f32) (hk : k + 18 ≤ vs.length) (wx : W32 xs) (wy : W32 ys) (ha : cn .f32 a = cn .f32 x) (la : a < wid .f32) (w : World) (q : Row w p 0 (splice vs k [vS b 0 n c, vI ((i : Nat) : Int), vS d 0 m c2, vI ((h : Nat) : Int), vI lk, vF lc0, vF lc1, vF lc2, vF ls0, vF ls1, vI dk, vF dc0, vF dc1, vF dc2, vF ds0, vF ds1, vF ne, vF fa])) (r : Row w b 0 (fl xs)) (ry : Row w d 0 (fl ys)) (ne1 : p ≠ b) (ne2 : p ≠ d) (ne3 : b ≠ d) : Cl Try.prog 83 #[vP p k, vF a] w fun v w' => v = vF (ys.getD h 0) ∧ ((keptF (fop .sub .f32 x (fop .mul .f32 ne (stepY dk dc0 dc1 dc2 ds0 ds1 (stepY lk lc0 lc1 lc2 ls0 ls1 (ys.getD h 0)))))) < wid .f32) ∧ ((keptF (fop .add .f32 (jetF (xs.getD i 0)) (fop .mul .f32 fa (stepY dk dc0 dc1 dc2 ds0 ds1 (stepY lk lc0 lc1 lc2 ls0 ls1 (ys.getD h 0)))))) < wid .f32) ∧ ((stepS lk lc0 lc1 lc2 ls0 ls1 (ys.getD h 0)) < wid .f32) ∧ ((stepT lk lc0 lc1 lc2 ls0 ls1 (ys.getD h 0)) < wid .f32) ∧ ((stepS dk dc0 dc1 dc2 ds0 ds1 (stepY lk lc0 lc1 lc2 ls0 ls1 (ys.getD h 0))) < wid .f32) ∧ ((stepT dk dc0 dc1 dc2 ds0 ds1 (stepY lk lc0 lc1 lc2 ls0 ls1 (ys.getD h 0))) < wid .f32) ∧ Row w' p 0 (splice vs k [vS b 0 n c, vI (((i + 1) % n : Nat) : Int), vS d 0 m c2, vI (((h + 1) % m : Nat) : Int), vI lk, vF lc0, vF lc1, vF lc2, vF (stepS lk lc0 lc1 lc2 ls0 ls1 (ys.getD h 0)), vF (stepT lk lc0 lc1 lc2 ls0 ls1 (ys.getD h 0)), vI dk, vF dc0, vF dc1, vF dc2, vF (stepS dk dc0 dc1 dc2 ds0 ds1 (stepY lk lc0 lc1 lc2 ls0 ls1 (ys.getD h 0))), vF (stepT dk dc0 dc1 dc2 ds0 ds1 (stepY lk lc0 lc1 lc2 ls0 ls1 (ys.getD h 0))), vF ne, vF fa]) ∧ Row w' b 0 (fl (xs.set i (keptF (fop .sub .f32 x (fop .mul .f32 ne (stepY dk dc0 dc1 dc2 ds0 ds1 (stepY lk lc0 lc1 lc2 ls0 ls1 (ys.getD h 0)))))))) ∧ Row w' d 0 (fl (ys.set h (keptF (fop .add .f32 (jetF (xs.getD i 0)) (fop .mul .f32 fa (stepY dk dc0 dc1 dc2 ds0 ds1 (stepY lk lc0 lc1 lc2 ls0 ls1 (ys.getD h 0)))))))) ∧ Mod [p, b, d] w w' := by
  refine Cl.of Try.func83 Try.ntmps83 rfl rfl (ρ := [(0, vP p k), (1, vF a)]) rfl ?_
  refine CE.seq ?_
  refine CE.region ?_
  refine WL.det (op_assign rfl) rfl rfl rfl ?_
  refine WL.end ?_
  refine NE.code ?_
  refine CE.seq ?_
  refine CE.draw (fun | 4 => some (fun _ wA uA wB => uA = vF (xs.getD i 0) ∧ Mod [] wA wB) | _ => none) [0, 1, 2, 3, 4, 5, 6, 7, 8] [9, 10, 11] [] (by kernel_rfl) (by kernel_rfl) ?_
  have md1 : Mod [] w w.drew := (Mod.refl _ _).drew
  generalize w.drew = w1 at md1 ⊢
  refine DR.det (i := 0) rfl rfl (by kernel_rfl) (.free rfl) rfl rfl (fun wD mD => op_move rfl) ?_
  refine DR.det (i := 1) rfl rfl (by kernel_rfl) (.free rfl) rfl rfl (fun wD mD => op_nilCheck rfl) ?_
  refine DR.det (i := 2) rfl rfl (by kernel_rfl) (.free rfl) rfl rfl (fun wD mD => op_fieldAddr (off' := k) rfl Try.runUnderlying61 rfl rfl Try.sizeOf33 rfl) ?_
  refine DR.det (i := 3) rfl rfl (by kernel_rfl) (.free rfl) rfl rfl (fun wD mD => op_loadA (i := k) (cs := [vS b 0 n c, vI ((i : Nat) : Int)]) rfl Try.isAgg33 Try.sizeOf33 ((q.ext md1).ext mD).rng (Nat.zero_add _) (sub_take (i := 0) hk (lB rfl) rfl) rfl) ?_
  refine DR.call (i := 4) (fun uA => uA = vF (xs.getD i 0)) rfl rfl (by kernel_rfl) (.free rfl) rfl (ltb rfl) ⟨_, rfl⟩ (vs := [.func (.func 107) #[] #[], .agg #[vS b 0 n c, vI ((i : Nat) : Int)]]) rfl (fun wD mD => oc_call (vs := [.agg #[vS b 0 n c, vI ((i : Nat) : Int)]]) (cap := []) rfl rfl rfl Try.call107 (c_oldest n c b xs i ln (by omega) (by omega) wD ((r.ext md1).ext mD).rng)) ?_ ?_
  · rintro w1 _ w2 m1 ⟨rfl, m2⟩; exact ⟨rfl, m2⟩
  rintro _ rfl
  refine DR.det (i := 5) rfl rfl (by kernel_rfl) (.free rfl) rfl rfl (fun wD mD => op_move rfl) ?_
  refine DR.det (i := 6) rfl rfl (by kernel_rfl) (.free rfl) rfl rfl (fun wD mD => op_nilCheck rfl) ?_
  refine DR.det (i := 7) rfl rfl (by kernel_rfl) (.free rfl) rfl rfl (fun wD mD => op_fieldAddr (off' := k + 2) rfl Try.runUnderlying61 rfl rfl Try.sizeOf33 rfl) ?_
  refine DR.det (i := 8) rfl rfl (by kernel_rfl) (.free rfl) rfl rfl (fun wD mD => op_loadA (i := k + 2) (cs := [vS d 0 m c2, vI ((h : Nat) : Int)]) rfl Try.isAgg33 Try.sizeOf33 ((q.ext md1).ext mD).rng (Nat.zero_add _) (sub_take (i := 2) hk (lB rfl) rfl) rfl) ?_
  refine DR.done rfl ?_
  intro w2 m1
  refine WO.call rfl (.free rfl) rfl (ltb rfl) (oc_call (vs := [.agg #[vS d 0 m c2, vI ((h : Nat) : Int)]]) (cap := []) rfl rfl rfl Try.call107 (c_oldest m c2 d ys h lm (by omega) (by omega) w2 ((ry.ext md1).ext m1).rng)) ?_
  rintro _ w3 ⟨rfl, m2⟩
  refine WO.det (op_assign rfl) rfl (.free rfl) rfl rfl ?_
  refine WO.det (op_assign rfl) rfl (.free rfl) rfl rfl ?_
  refine WO.end ?_
  refine NE.code ?_
  refine CE.seq ?_
  refine CE.draw (fun | 7 => some (fun _ wA uA wB => ∃ (y : Nat), uA = vF y ∧ (cn .f32 y = cn .f32 (stepY lk lc0 lc1 lc2 ls0 ls1 (ys.getD h 0))) ∧ (y < wid .f32) ∧ (stepS lk lc0 lc1 lc2 ls0 ls1 (ys.getD h 0) < wid .f32) ∧ (stepT lk lc0 lc1 lc2 ls0 ls1 (ys.getD h 0) < wid .f32) ∧ Row wB p 0 (splice (splice vs k [vS b 0 n c, vI ((i : Nat) : Int), vS d 0 m c2, vI ((h : Nat) : Int), vI lk, vF lc0, vF lc1, vF lc2, vF ls0, vF ls1, vI dk, vF dc0, vF dc1, vF dc2, vF ds0, vF ds1, vF ne, vF fa]) (k + 4) [vI lk, vF lc0, vF lc1, vF lc2, vF (stepS lk lc0 lc1 lc2 ls0 ls1 (ys.getD h 0)), vF (stepT lk lc0 lc1 lc2 ls0 ls1 (ys.getD h 0))]) ∧ Mod [p] wA wB) | _ => none) [0, 1, 2, 3, 4, 5, 6, 7] [8, 9] [p] (by kernel_rfl) (by kernel_rfl) ?_
  have md2 : Mod [] w3 w3.drew := (Mod.refl _ _).drew
  generalize w3.drew = w4 at md2 ⊢
  refine DR.det (i := 0) rfl rfl (by kernel_rfl) (.free rfl) rfl rfl (fun wD mD => op_move rfl) ?_
  refine DR.det (i := 1) rfl rfl (by kernel_rfl) (.free rfl) rfl rfl (fun wD mD => op_nilCheck rfl) ?_
  refine DR.det (i := 2) rfl rfl (by kernel_rfl) (.free rfl) rfl rfl (fun wD mD => op_fieldAddr (off' := k + 10) rfl Try.runUnderlying61 rfl rfl Try.sizeOf34 rfl) ?_
  refine DR.det (i := 3) rfl rfl (by kernel_rfl) (.free rfl) rfl rfl (fun wD mD => op_move rfl) ?_
  refine DR.det (i := 4) rfl rfl (by kernel_rfl) (.free rfl) rfl rfl (fun wD mD => op_nilCheck rfl) ?_
  refine DR.det (i := 5) rfl rfl (by kernel_rfl) (.free rfl) rfl rfl (fun wD mD => op_fieldAddr (off' := k + 4) rfl Try.runUnderlying61 rfl rfl Try.sizeOf34 rfl) ?_
  refine DR.det (i := 6) rfl rfl (by kernel_rfl) (.free rfl) rfl rfl (fun wD mD => op_move rfl) ?_
  refine DR.one (i := 7) rfl rfl (by kernel_rfl) (.free rfl) rfl (ltb rfl) (vs := [.func (.func 106) #[] #[], vP p (k + 4), vF (ys.getD h 0)]) rfl ?_
  intro w5 m3
  refine ⟨oc_call (vs := [vP p (k + 4), vF (ys.getD h 0)]) (cap := []) rfl rfl rfl Try.call106 (c_fstep lk lc0 lc1 lc2 ls0 ls1 p (k + 4) (splice vs k [vS b 0 n c, vI ((i : Nat) : Int), vS d 0 m c2, vI ((h : Nat) : Int), vI lk, vF lc0, vF lc1, vF lc2, vF ls0, vF ls1, vI dk, vF dc0, vF dc1, vF dc2, vF ds0, vF ds1, vF ne, vF fa]) (ys.getD h 0) (ys.getD h 0) lls0 lls1 (sub_fit (i := 4) hk (lB rfl)) rfl (by first | assumption | exact W32.get (by assumption) _ | decide +kernel) w5 (Row.congr (((((q.ext md1).ext m1).ext m2).ext md2).ext m3) (sub_same (i := 4) hk (lB rfl) rfl))), ?_⟩
  rintro _ w6 ⟨y1, rfl, h1, h2, h3, h4, r1, m4⟩
  have r2 : Row w6 p 0 (splice vs k [vS b 0 n c, vI ((i : Nat) : Int), vS d 0 m c2, vI ((h : Nat) : Int), vI lk, vF lc0, vF lc1, vF lc2, vF (stepS lk lc0 lc1 lc2 ls0 ls1 (ys.getD h 0)), vF (stepT lk lc0 lc1 lc2 ls0 ls1 (ys.getD h 0)), vI dk, vF dc0, vF dc1, vF dc2, vF ds0, vF ds1, vF ne, vF fa]) := Row.congr r1 (sub_put (i := 4) hk (lB rfl) rfl)
  refine ⟨(((Mod.refl [p] w4).nt m3).then m4 ((aC (.inl (by simp)) aN))), ?_⟩
  refine DR.done rfl ?_
  intro w7 m5
  refine WO.call rfl (.free rfl) rfl (ltb rfl) (oc_call (vs := [vP p (k + 10), vF y1]) (cap := []) rfl rfl rfl Try.call106 (c_fstep dk dc0 dc1 dc2 ds0 ds1 p (k + 10) (splice vs k [vS b 0 n c, vI ((i : Nat) : Int), vS d 0 m c2, vI ((h : Nat) : Int), vI lk, vF lc0, vF lc1, vF lc2, vF (stepS lk lc0 lc1 lc2 ls0 ls1 (ys.getD h 0)), vF (stepT lk lc0 lc1 lc2 ls0 ls1 (ys.getD h 0)), vI dk, vF dc0, vF dc1, vF dc2, vF ds0, vF ds1, vF ne, vF fa]) y1 (stepY lk lc0 lc1 lc2 ls0 ls1 (ys.getD h 0)) lds0 lds1 (sub_fit (i := 10) hk (lB rfl)) h1 h2 w7 (Row.congr (r2.ext m5) (sub_same (i := 10) hk (lB rfl) rfl)))) ?_
  rintro _ w8 ⟨y2, rfl, h5, h6, h7, h8, r3, m6⟩
  have r4 : Row w8 p 0 (splice vs k [vS b 0 n c, vI ((i : Nat) : Int), vS d 0 m c2, vI ((h : Nat) : Int), vI lk, vF lc0, vF lc1, vF lc2, vF (stepS lk lc0 lc1 lc2 ls0 ls1 (ys.getD h 0)), vF (stepT lk lc0 lc1 lc2 ls0 ls1 (ys.getD h 0)), vI dk, vF dc0, vF dc1, vF dc2, vF (stepS dk dc0 dc1 dc2 ds0 ds1 (stepY lk lc0 lc1 lc2 ls0 ls1 (ys.getD h 0))), vF (stepT dk dc0 dc1 dc2 ds0 ds1 (stepY lk lc0 lc1 lc2 ls0 ls1 (ys.getD h 0))), vF ne, vF fa]) := Row.congr r3 (sub_put (i := 10) hk (lB rfl) rfl)
  refine WO.det (op_assign rfl) rfl (.free rfl) rfl rfl ?_
  refine WO.end ?_
  refine NE.code ?_
  refine CE.seq ?_
  refine CE.draw (fun | 11 => some (fun _ wA uA wB => uA = vF (keptF (fop .sub .f32 x (fop .mul .f32 ne (stepY dk dc0 dc1 dc2 ds0 ds1 (stepY lk lc0 lc1 lc2 ls0 ls1 (ys.getD h 0)))))) ∧ (keptF (fop .sub .f32 x (fop .mul .f32 ne (stepY dk dc0 dc1 dc2 ds0 ds1 (stepY lk lc0 lc1 lc2 ls0 ls1 (ys.getD h 0))))) < wid .f32) ∧ Mod [] wA wB) | _ => none) [0, 1, 2, 3, 4, 5, 6, 7, 8, 9, 10, 11] [12] [] (by kernel_rfl) (by kernel_rfl) ?_
  have md3 : Mod [] w8 w8.drew := (Mod.refl _ _).drew
  generalize w8.drew = w9 at md3 ⊢
  refine DR.det (i := 0) rfl rfl (by kernel_rfl) (.free rfl) rfl rfl (fun wD mD => op_move rfl) ?_
  refine DR.det (i := 1) rfl rfl (by kernel_rfl) (.free rfl) rfl rfl (fun wD mD => op_nilCheck rfl) ?_
  refine DR.det (i := 2) rfl rfl (by kernel_rfl) (.free rfl) rfl rfl (fun wD mD => op_fieldAddr (off' := k) rfl Try.runUnderlying61 rfl rfl Try.sizeOf33 rfl) ?_
  refine DR.det (i := 3) rfl rfl (by kernel_rfl) (.free rfl) rfl rfl (fun wD mD => op_move rfl) ?_
  refine DR.det (i := 4) rfl rfl (by kernel_rfl) (.free rfl) rfl rfl (fun wD mD => op_move rfl) ?_
  refine DR.det (i := 5) rfl rfl (by kernel_rfl) (.free rfl) rfl rfl (fun wD mD => op_nilCheck rfl) ?_
  refine DR.det (i := 6) rfl rfl (by kernel_rfl) (.free rfl) rfl rfl (fun wD mD => op_fieldAddr (off' := k + 16) rfl Try.runUnderlying61 rfl rfl Try.sizeOf25 rfl) ?_
  refine DR.det (i := 7) rfl rfl (by kernel_rfl) (.free rfl) rfl rfl (fun wD mD => op_load1 (i := k + 16) rfl Try.isAgg25 ((r4.ext md3).ext mD).rng (Nat.zero_add _) (sub_get (i := 16) hk rfl)) ?_
  refine DR.det (i := 8) rfl rfl (by kernel_rfl) (.free rfl) rfl rfl (fun wD mD => op_move rfl) ?_
  refine DR.op (i := 9) (FOut .f32 (fop .mul .f32 ne (stepY dk dc0 dc1 dc2 ds0 ds1 (stepY lk lc0 lc1 lc2 ls0 ls1 (ys.getD h 0))))) rfl rfl (by kernel_rfl) (.free rfl) rfl (ltb rfl) (fun wD mD => op_farith (e := (fop .mul .f32 ne (stepY dk dc0 dc1 dc2 ds0 ds1 (stepY lk lc0 lc1 lc2 ls0 ls1 (ys.getD h 0))))) (.inr (.inr (.inl rfl))) rfl rfl rfl h5 rfl) ?_
  rintro _ ⟨f1, rfl, hf1, lf1⟩
  refine DR.op (i := 10) (FOut .f32 (fop .sub .f32 x (fop .mul .f32 ne (stepY dk dc0 dc1 dc2 ds0 ds1 (stepY lk lc0 lc1 lc2 ls0 ls1 (ys.getD h 0)))))) rfl rfl (by kernel_rfl) (.free rfl) rfl (ltb rfl) (fun wD mD => op_farith (e := (fop .sub .f32 x (fop .mul .f32 ne (stepY dk dc0 dc1 dc2 ds0 ds1 (stepY lk lc0 lc1 lc2 ls0 ls1 (ys.getD h 0)))))) (.inr (.inl rfl)) rfl rfl ha hf1 rfl) ?_
  rintro _ ⟨f2, rfl, hf2, lf2⟩
  refine DR.call (i := 11) (fun uA => uA = vF (keptF (fop .sub .f32 x (fop .mul .f32 ne (stepY dk dc0 dc1 dc2 ds0 ds1 (stepY lk lc0 lc1 lc2 ls0 ls1 (ys.getD h 0)))))) ∧ (keptF (fop .sub .f32 x (fop .mul .f32 ne (stepY dk dc0 dc1 dc2 ds0 ds1 (stepY lk lc0 lc1 lc2 ls0 ls1 (ys.getD h 0))))) < wid .f32)) rfl rfl (by kernel_rfl) (.free rfl) rfl (ltb rfl) ⟨_, rfl, keptF_wid hf2 lf2⟩ (vs := [.func (.func 64) #[] #[], vF f2]) rfl (fun wD mD => oc_call (vs := [vF f2]) (cap := []) rfl rfl rfl Try.call64 (c_kept f2 (fop .sub .f32 x (fop .mul .f32 ne (stepY dk dc0 dc1 dc2 ds0 ds1 (stepY lk lc0 lc1 lc2 ls0 ls1 (ys.getD h 0))))) hf2 lf2 wD)) ?_ ?_
  · rintro w1 _ w2 m1 ⟨rfl, p0, m2⟩; exact ⟨⟨rfl, p0⟩, m2⟩
  rintro _ ⟨rfl, h9⟩
  refine DR.done rfl ?_
  intro w10 m7
  refine WO.call rfl (.free rfl) rfl (ltb rfl) (oc_call (vs := [vP p k, vF (keptF (fop .sub .f32 x (fop .mul .f32 ne (stepY dk dc0 dc1 dc2 ds0 ds1 (stepY lk lc0 lc1 lc2 ls0 ls1 (ys.getD h 0))))))]) (cap := []) rfl rfl rfl Try.call113 (c_push n c b xs i p k (splice vs k [vS b 0 n c, vI ((i : Nat) : Int), vS d 0 m c2, vI ((h : Nat) : Int), vI lk, vF lc0, vF lc1, vF lc2, vF (stepS lk lc0 lc1 lc2 ls0 ls1 (ys.getD h 0)), vF (stepT lk lc0 lc1 lc2 ls0 ls1 (ys.getD h 0)), vI dk, vF dc0, vF dc1, vF dc2, vF (stepS dk dc0 dc1 dc2 ds0 ds1 (stepY lk lc0 lc1 lc2 ls0 ls1 (ys.getD h 0))), vF (stepT dk dc0 dc1 dc2 ds0 ds1 (stepY lk lc0 lc1 lc2 ls0 ls1 (ys.getD h 0))), vF ne, vF fa]) (keptF (fop .sub .f32 x (fop .mul .f32 ne (stepY dk dc0 dc1 dc2 ds0 ds1 (stepY lk lc0 lc1 lc2 ls0 ls1 (ys.getD h 0)))))) ln (by omega) (by omega) (sub_fit (i := 0) hk (lB rfl)) w10 (Row.congr ((r4.ext md3).ext m7) (sub_same (i := 0) hk (lB rfl) rfl)) ((((((((((r.ext md1).ext m1).ext m2).ext md2).ext m3).mod m4 (nC (Ne.symm ne1) nN)).ext m5).mod m6 (nC (Ne.symm ne1) nN)).ext md3).ext m7) ne1)) ?_
  rintro _ w11 ⟨rfl, r5, r6, m8⟩
  have r7 : Row w11 p 0 (splice vs k [vS b 0 n c, vI (((i + 1) % n : Nat) : Int), vS d 0 m c2, vI ((h : Nat) : Int), vI lk, vF lc0, vF lc1, vF lc2, vF (stepS lk lc0 lc1 lc2 ls0 ls1 (ys.getD h 0)), vF (stepT lk lc0 lc1 lc2 ls0 ls1 (ys.getD h 0)), vI dk, vF dc0, vF dc1, vF dc2, vF (stepS dk dc0 dc1 dc2 ds0 ds1 (stepY lk lc0 lc1 lc2 ls0 ls1 (ys.getD h 0))), vF (stepT dk dc0 dc1 dc2 ds0 ds1 (stepY lk lc0 lc1 lc2 ls0 ls1 (ys.getD h 0))), vF ne, vF fa]) := Row.congr r5 (sub_put (i := 0) hk (lB rfl) rfl)
  refine WO.end ?_
  refine NE.code ?_
  refine CE.seq ?_
  refine CE.draw (fun | 4 => some (fun _ wA uA wB => ∃ (r : Nat), uA = vF r ∧ (cn .f32 r = cn .f32 (jetF (xs.getD i 0))) ∧ (r < wid .f32) ∧ Mod [] wA wB) | 12 => some (fun _ wA uA wB => uA = vF (keptF (fop .add .f32 (jetF (xs.getD i 0)) (fop .mul .f32 fa (stepY dk dc0 dc1 dc2 ds0 ds1 (stepY lk lc0 lc1 lc2 ls0 ls1 (ys.getD h 0)))))) ∧ (keptF (fop .add .f32 (jetF (xs.getD i 0)) (fop .mul .f32 fa (stepY dk dc0 dc1 dc2 ds0 ds1 (stepY lk lc0 lc1 lc2 ls0 ls1 (ys.getD h 0))))) < wid .f32) ∧ Mod [] wA wB) | _ => none) [0, 1, 2, 3, 4, 5, 6, 7, 8, 9, 10, 11, 12] [13] [] (by kernel_rfl) (by kernel_rfl) ?_
  have md4 : Mod [] w11 w11.drew := (Mod.refl _ _).drew
  generalize w11.drew = w12 at md4 ⊢
  refine DR.det (i := 0) rfl rfl (by kernel_rfl) (.free rfl) rfl rfl (fun wD mD => op_move rfl) ?_
  refine DR.det (i := 1) rfl rfl (by kernel_rfl) (.free rfl) rfl rfl (fun wD mD => op_nilCheck rfl) ?_
  refine DR.det (i := 2) rfl rfl (by kernel_rfl) (.free rfl) rfl rfl (fun wD mD => op_fieldAddr (off' := k + 2) rfl Try.runUnderlying61 rfl rfl Try.sizeOf33 rfl) ?_
  refine DR.det (i := 3) rfl rfl (by kernel_rfl) (.free rfl) rfl rfl (fun wD mD => op_move rfl) ?_
  refine DR.call (i := 4) (fun uA => ∃ (r : Nat), uA = vF r ∧ (cn .f32 r = cn .f32 (jetF (xs.getD i 0))) ∧ (r < wid .f32)) rfl rfl (by kernel_rfl) (.free rfl) rfl (ltb rfl) ⟨_, _, rfl, rfl, jetF_lt _⟩ (vs := [.func (.func 29) #[] #[], vF (xs.getD i 0)]) rfl (fun wD mD => oc_call (vs := [vF (xs.getD i 0)]) (cap := []) rfl rfl rfl Try.call29 (c_jetAt (xs.getD i 0) (xs.getD i 0) rfl (by first | assumption | exact W32.get (by assumption) _ | decide +kernel) wD)) ?_ ?_
  · rintro w1 _ w2 m1 ⟨r, rfl, p0, p1, m2⟩; exact ⟨⟨r, rfl, p0, p1⟩, m2⟩
  rintro _ ⟨r8, rfl, h10, h11⟩
  refine DR.det (i := 5) rfl rfl (by kernel_rfl) (.free rfl) rfl rfl (fun wD mD => op_move rfl) ?_
  refine DR.det (i := 6) rfl rfl (by kernel_rfl) (.free rfl) rfl rfl (fun wD mD => op_nilCheck rfl) ?_
  refine DR.det (i := 7) rfl rfl (by kernel_rfl) (.free rfl) rfl rfl (fun wD mD => op_fieldAddr (off' := k + 17) rfl Try.runUnderlying61 rfl rfl Try.sizeOf25 rfl) ?_
  refine DR.det (i := 8) rfl rfl (by kernel_rfl) (.free rfl) rfl rfl (fun wD mD => op_load1 (i := k + 17) rfl Try.isAgg25 ((r7.ext md4).ext mD).rng (Nat.zero_add _) (sub_get (i := 17) hk rfl)) ?_
  refine DR.det (i := 9) rfl rfl (by kernel_rfl) (.free rfl) rfl rfl (fun wD mD => op_move rfl) ?_
  refine DR.op (i := 10) (FOut .f32 (fop .mul .f32 fa (stepY dk dc0 dc1 dc2 ds0 ds1 (stepY lk lc0 lc1 lc2 ls0 ls1 (ys.getD h 0))))) rfl rfl (by kernel_rfl) (.free rfl) rfl (ltb rfl) (fun wD mD => op_farith (e := (fop .mul .f32 fa (stepY dk dc0 dc1 dc2 ds0 ds1 (stepY lk lc0 lc1 lc2 ls0 ls1 (ys.getD h 0))))) (.inr (.inr (.inl rfl))) rfl rfl rfl h5 rfl) ?_
  rintro _ ⟨f3, rfl, hf3, lf3⟩
  refine DR.op (i := 11) (FOut .f32 (fop .add .f32 (jetF (xs.getD i 0)) (fop .mul .f32 fa (stepY dk dc0 dc1 dc2 ds0 ds1 (stepY lk lc0 lc1 lc2 ls0 ls1 (ys.getD h 0)))))) rfl rfl (by kernel_rfl) (.free rfl) rfl (ltb rfl) (fun wD mD => op_farith (e := (fop .add .f32 (jetF (xs.getD i 0)) (fop .mul .f32 fa (stepY dk dc0 dc1 dc2 ds0 ds1 (stepY lk lc0 lc1 lc2 ls0 ls1 (ys.getD h 0)))))) (.inl rfl) rfl rfl h10 hf3 rfl) ?_
  rintro _ ⟨f4, rfl, hf4, lf4⟩
  refine DR.call (i := 12) (fun uA => uA = vF (keptF (fop .add .f32 (jetF (xs.getD i 0)) (fop .mul .f32 fa (stepY dk dc0 dc1 dc2 ds0 ds1 (stepY lk lc0 lc1 lc2 ls0 ls1 (ys.getD h 0)))))) ∧ (keptF (fop .add .f32 (jetF (xs.getD i 0)) (fop .mul .f32 fa (stepY dk dc0 dc1 dc2 ds0 ds1 (stepY lk lc0 lc1 lc2 ls0 ls1 (ys.getD h 0))))) < wid .f32)) rfl rfl (by kernel_rfl) (.free rfl) rfl (ltb rfl) ⟨_, rfl, keptF_wid hf4 lf4⟩ (vs := [.func (.func 64) #[] #[], vF f4]) rfl (fun wD mD => oc_call (vs := [vF f4]) (cap := []) rfl rfl rfl Try.call64 (c_kept f4 (fop .add .f32 (jetF (xs.getD i 0)) (fop .mul .f32 fa (stepY dk dc0 dc1 dc2 ds0 ds1 (stepY lk lc0 lc1 lc2 ls0 ls1 (ys.getD h 0))))) hf4 lf4 wD)) ?_ ?_
  · rintro w1 _ w2 m1 ⟨rfl, p0, m2⟩; exact ⟨⟨rfl, p0⟩, m2⟩
  rintro _ ⟨rfl, h12⟩
  refine DR.done rfl ?_
  intro w13 m9
  refine WO.call rfl (.free rfl) rfl (ltb rfl) (oc_call (vs := [vP p (k + 2), vF (keptF (fop .add .f32 (jetF (xs.getD i 0)) (fop .mul .f32 fa (stepY dk dc0 dc1 dc2 ds0 ds1 (stepY lk lc0 lc1 lc2 ls0 ls1 (ys.getD h 0))))))]) (cap := []) rfl rfl rfl Try.call113 (c_push m c2 d ys h p (k + 2) (splice vs k [vS b 0 n c, vI (((i + 1) % n : Nat) : Int), vS d 0 m c2, vI ((h : Nat) : Int), vI lk, vF lc0, vF lc1, vF lc2, vF (stepS lk lc0 lc1 lc2 ls0 ls1 (ys.getD h 0)), vF (stepT lk lc0 lc1 lc2 ls0 ls1 (ys.getD h 0)), vI dk, vF dc0, vF dc1, vF dc2, vF (stepS dk dc0 dc1 dc2 ds0 ds1 (stepY lk lc0 lc1 lc2 ls0 ls1 (ys.getD h 0))), vF (stepT dk dc0 dc1 dc2 ds0 ds1 (stepY lk lc0 lc1 lc2 ls0 ls1 (ys.getD h 0))), vF ne, vF fa]) (keptF (fop .add .f32 (jetF (xs.getD i 0)) (fop .mul .f32 fa (stepY dk dc0 dc1 dc2 ds0 ds1 (stepY lk lc0 lc1 lc2 ls0 ls1 (ys.getD h 0)))))) lm (by omega) (by omega) (sub_fit (i := 2) hk (lB rfl)) w13 (Row.congr ((r7.ext md4).ext m9) (sub_same (i := 2) hk (lB rfl) rfl)) (((((((((((((ry.ext md1).ext m1).ext m2).ext md2).ext m3).mod m4 (nC (Ne.symm ne2) nN)).ext m5).mod m6 (nC (Ne.symm ne2) nN)).ext md3).ext m7).mod m8 (nC (Ne.symm ne2) (nC (Ne.symm ne3) nN))).ext md4).ext m9) ne2)) ?_
  rintro _ w14 ⟨rfl, r9, r10, m10⟩
  have r11 : Row w14 p 0 (splice vs k [vS b 0 n c, vI (((i + 1) % n : Nat) : Int), vS d 0 m c2, vI (((h + 1) % m : Nat) : Int), vI lk, vF lc0, vF lc1, vF lc2, vF (stepS lk lc0 lc1 lc2 ls0 ls1 (ys.getD h 0)), vF (stepT lk lc0 lc1 lc2 ls0 ls1 (ys.getD h 0)), vI dk, vF dc0, vF dc1, vF dc2, vF (stepS dk dc0 dc1 dc2 ds0 ds1 (stepY lk lc0 lc1 lc2 ls0 ls1 (ys.getD h 0))), vF (stepT dk dc0 dc1 dc2 ds0 ds1 (stepY lk lc0 lc1 lc2 ls0 ls1 (ys.getD h 0))), vF ne, vF fa]) := Row.congr r9 (sub_put (i := 2) hk (lB rfl) rfl)
  refine WO.end ?_
  refine NE.code ?_
  refine CE.seq ?_
  refine CE.region ?_
  refine WL.det (op_move rfl) rfl rfl rfl ?_
  refine WL.det (op_assign rfl) rfl rfl rfl ?_
  refine WL.end ?_
  refine NE.code ?_
  refine CE.ret' ?_
  refine XE.leave1 Try.results83 rfl ?_
  refine ⟨rfl, ?_, ?_, ?_, ?_, ?_, ?_, r11, (((r6.ext md4).ext m9).mod m10 (nC (Ne.symm ne1) (nC ne3 nN))), r10, (((((((((((((((Mod.refl [p, b, d] w).nt md1).nt m1).nt m2).nt md2).nt m3).then m4 ((aC (.inl (by simp)) aN))).nt m5).then m6 ((aC (.inl (by simp)) aN))).nt md3).nt m7).then m8 ((aC (.inl (by simp)) (aC (.inl (by simp)) aN)))).nt md4).nt m9).then m10 ((aC (.inl (by simp)) (aC (.inl (by simp)) aN))))⟩
  all_goals first | assumption | rfl

set_option maxRecDepth 100000 in
set_option maxHeartbeats 2000000 in
theorem c_l05StepJ (n : Nat) (c : Nat) (b : Nat) (xs : List Nat) (m : Nat) (c2 : Nat) (d : Nat) (ys : List Nat) (i : Nat) (h : Nat) (lk : Int) (lc0 : Nat) (lc1 : Nat) (lc2 : Nat) (ls0 : Nat) (ls1 : Nat) (dk : Int) (dc0 : Nat) (dc1 : Nat) (dc2 : Nat) (ds0 : Nat) (ds1 : Nat) (ne : Nat) (fa : Nat) (p : Nat) (k : Nat) (vs : List Value) (a : Nat) (x : Nat) (ln : xs.length = n) (lm : ys.length = m) (hn : n ≤ 1048576) (hm : m ≤ 1048576) (hi : i < n) (hh : h < m) (lls0 : ls0 < wid .f32) (lls1 : ls1 < wid .f32) (lds0 : ds0 < wid .f32) (lds1 : ds1 < wid .f32) (hk : k + 18 ≤ vs.length) (wx : W32 xs) (wy : W32 ys) (ha : cn .f32 a = cn .f32 x) (la : a < wid .f32) (w : World) (q : Row w p 0 (splice vs k [vS b 0 n c, vI ((i : Nat) : Int), vS d 0 m c2, vI ((h : Nat) : Int), vI lk, vF lc0, vF lc1, vF lc2, vF ls0, vF ls1, vI dk, vF dc0, vF dc1, vF dc2, vF ds0, vF ds1, vF ne, vF fa])) (r : Row w b 0 (fl xs)) (ry : Row w d 0 (fl ys)) (ne1 : p ≠ b) (ne2 : p ≠ d) (ne3 : b ≠ d) : Cl Try.prog 80 #[vP p k, vF a] w fun v w' => v = vF (ys.getD h 0) ∧ ((keptF (fop .sub .f32 x (fop .mul .f32 ne (stepY dk dc0 dc1 dc2 ds0 ds1 (stepY lk lc0 lc1 lc2 ls0 ls1 (ys.getD h 0)))))) < wid .f32) ∧ ((keptF (fop .add .f32 (jetF (xs.getD i 0)) (fop .mul .f32 fa (stepY dk dc0 dc1 dc2 ds0 ds1 (stepY lk lc0 lc1 lc2 ls0 ls1 (ys.getD h 0)))))) < wid .f32) ∧ ((stepS lk lc0 lc1 lc2 ls0 ls1 (ys.getD h 0)) < wid .f32) ∧ ((stepT lk lc0 lc1 lc2 ls0 ls1 (ys.getD h 0)) < wid .f32) ∧ ((stepS dk dc0 dc1 dc2 ds0 ds1 (stepY lk lc0 lc1 lc2 ls0 ls1 (ys.getD h 0))) < wid .f32) ∧ ((stepT dk dc0 dc1 dc2 ds0 ds1 (stepY lk lc0 lc1 lc2 ls0 ls1 (ys.getD h 0))) < wid .f32) ∧ Row w' p 0 (splice vs k [vS b 0 n c, vI (((i + 1) % n : Nat) : Int), vS d 0 m c2, vI (((h + 1) % m : Nat) : Int), vI lk, vF lc0, vF lc1, vF lc2, vF (stepS lk lc0 lc1 lc2 ls0 ls1 (ys.getD h 0)), vF (stepT lk lc0 lc1 lc2 ls0 ls1 (ys.getD h 0)), vI dk, vF dc0, vF dc1, vF dc2, vF (stepS dk dc0 dc1 dc2 ds0 ds1 (stepY lk lc0 lc1 lc2 ls0 ls1 (ys.getD h 0))), vF (stepT dk dc0 dc1 dc2 ds0 ds1 (stepY lk lc0 lc1 lc2 ls0 ls1 (ys.getD h 0))), vF ne, vF fa]) ∧ Row w' b 0 (fl (xs.set i (keptF (fop .sub .f32 x (fop .mul .f32 ne (stepY dk dc0 dc1 dc2 ds0 ds1 (stepY lk lc0 lc1 lc2 ls0 ls1 (ys.getD h 0)))))))) ∧ Row w' d 0 (fl (ys.set h (keptF (fop .add .f32 (jetF (xs.getD i 0)) (fop .mul .f32 fa (stepY dk dc0 dc1 dc2 ds0 ds1 (stepY lk lc0 lc1 lc2 ls0 ls1 (ys.getD h 0)))))))) ∧ Mod [p, b, d] w w' := by
  refine Cl.of Try.func80 Try.ntmps80 rfl rfl (ρ := [(0, vP p k), (1, vF a)]) rfl ?_
  refine CE.seq ?_
  refine CE.region ?_
  refine WL.det (op_assign rfl) rfl rfl rfl ?_
  refine WL.end ?_
  refine NE.code ?_
  refine CE.seq ?_
  refine CE.draw (fun _ => none) [0, 1, 2, 3, 4, 5, 6, 7, 8, 9] [10, 11, 12] [] (by kernel_rfl) (by kernel_rfl) ?_
  have md1 : Mod [] w w.drew := (Mod.refl _ _).drew
  generalize w.drew = w1 at md1 ⊢
  refine DR.det (i := 0) rfl rfl (by kernel_rfl) (.free rfl) rfl rfl (fun wD mD => op_move rfl) ?_
  refine DR.det (i := 1) rfl rfl (by kernel_rfl) (.free rfl) rfl rfl (fun wD mD => op_nilCheck rfl) ?_
  refine DR.det (i := 2) rfl rfl (by kernel_rfl) (.free rfl) rfl rfl (fun wD mD => op_fieldAddr (off' := k) rfl Try.runUnderlying61 rfl rfl Try.sizeOf33 rfl) ?_
  refine DR.det (i := 3) rfl rfl (by kernel_rfl) (.free rfl) rfl rfl (fun wD mD => op_fieldAddr (off' := k) rfl Try.runUnderlying33 rfl rfl Try.sizeOf22 rfl) ?_
  refine DR.det (i := 4) rfl rfl (by kernel_rfl) (.free rfl) rfl rfl (fun wD mD => op_load1 (i := k) rfl Try.isAgg22 ((q.ext md1).ext mD).rng (Nat.zero_add _) (sub_get (i := 0) hk rfl)) ?_
  refine DR.det (i := 5) rfl rfl (by kernel_rfl) (.free rfl) rfl rfl (fun wD mD => op_move rfl) ?_
  refine DR.det (i := 6) rfl rfl (by kernel_rfl) (.free rfl) rfl rfl (fun wD mD => op_nilCheck rfl) ?_
  refine DR.det (i := 7) rfl rfl (by kernel_rfl) (.free rfl) rfl rfl (fun wD mD => op_fieldAddr (off' := k) rfl Try.runUnderlying61 rfl rfl Try.sizeOf33 rfl) ?_
  refine DR.det (i := 8) rfl rfl (by kernel_rfl) (.free rfl) rfl rfl (fun wD mD => op_fieldAddr (off' := k + 1) rfl Try.runUnderlying33 rfl rfl Try.sizeOf2 rfl) ?_
  refine DR.det (i := 9) rfl rfl (by kernel_rfl) (.free rfl) rfl rfl (fun wD mD => op_load1 (i := k + 1) rfl Try.isAgg2 ((q.ext md1).ext mD).rng (Nat.zero_add _) (sub_get (i := 1) hk rfl)) ?_
  refine DR.done rfl ?_
  intro w2 m1
  refine WO.det (op_indexSl (off' := 0 + i) rfl rfl rfl Try.runUnderlying22 Try.sizeOf25 (by omega) (by omega) (by omega)) rfl (.free rfl) rfl rfl ?_
  refine WO.det (op_load1 (i := i) rfl Try.isAgg25 ((r.ext md1).ext m1).rng rfl (fl_get (by have eL : List.length xs = n := ln; omega))) rfl (.free rfl) rfl rfl ?_
  refine WO.det (op_assign rfl) rfl (.free rfl) rfl rfl ?_
  refine WO.end ?_
  refine NE.code ?_
  refine CE.seq ?_
  refine CE.draw (fun _ => none) [0, 1, 2, 3, 4, 5, 6, 7, 8, 9] [10, 11, 12] [] (by kernel_rfl) (by kernel_rfl) ?_
  have md2 : Mod [] w2 w2.drew := (Mod.refl _ _).drew
  generalize w2.drew = w3 at md2 ⊢
  refine DR.det (i := 0) rfl rfl (by kernel_rfl) (.free rfl) rfl rfl (fun wD mD => op_move rfl) ?_
  refine DR.det (i := 1) rfl rfl (by kernel_rfl) (.free rfl) rfl rfl (fun wD mD => op_nilCheck rfl) ?_
  refine DR.det (i := 2) rfl rfl (by kernel_rfl) (.free rfl) rfl rfl (fun wD mD => op_fieldAddr (off' := k + 2) rfl Try.runUnderlying61 rfl rfl Try.sizeOf33 rfl) ?_
  refine DR.det (i := 3) rfl rfl (by kernel_rfl) (.free rfl) rfl rfl (fun wD mD => op_fieldAddr (off' := k + 2) rfl Try.runUnderlying33 rfl rfl Try.sizeOf22 rfl) ?_
  refine DR.det (i := 4) rfl rfl (by kernel_rfl) (.free rfl) rfl rfl (fun wD mD => op_load1 (i := k + 2) rfl Try.isAgg22 ((((q.ext md1).ext m1).ext md2).ext mD).rng (Nat.zero_add _) (sub_get (i := 2) hk rfl)) ?_
  refine DR.det (i := 5) rfl rfl (by kernel_rfl) (.free rfl) rfl rfl (fun wD mD => op_move rfl) ?_
  refine DR.det (i := 6) rfl rfl (by kernel_rfl) (.free rfl) rfl rfl (fun wD mD => op_nilCheck rfl) ?_
  refine DR.det (i := 7) rfl rfl (by kernel_rfl) (.free rfl) rfl rfl (fun wD mD => op_fieldAddr (off' := k + 2) rfl Try.runUnderlying61 rfl rfl Try.sizeOf33 rfl) ?_
  refine DR.det (i := 8) rfl rfl (by kernel_rfl) (.free rfl) rfl rfl (fun wD mD => op_fieldAddr (off' := k + 3) rfl Try.runUnderlying33 rfl rfl Try.sizeOf2 rfl) ?_
  refine DR.det (i := 9) rfl rfl (by kernel_rfl) (.free rfl) rfl rfl (fun wD mD => op_load1 (i := k + 3) rfl Try.isAgg2 ((((q.ext md1).ext m1).ext md2).ext mD).rng (Nat.zero_add _) (sub_get (i := 3) hk rfl)) ?_
  refine DR.done rfl ?_
  intro w4 m2
  refine WO.det (op_indexSl (off' := 0 + h) rfl rfl rfl Try.runUnderlying22 Try.sizeOf25 (by omega) (by omega) (by omega)) rfl (.free rfl) rfl rfl ?_
  refine WO.det (op_load1 (i := h) rfl Try.isAgg25 ((((ry.ext md1).ext m1).ext md2).ext m2).rng rfl (fl_get (by have eL : List.length ys = m := lm; omega))) rfl (.free rfl) rfl rfl ?_
  refine WO.det (op_assign rfl) rfl (.free rfl) rfl rfl ?_
  refine WO.end ?_
  refine NE.code ?_
  refine CE.seq ?_
  refine CE.draw (fun | 7 => some (fun _ wA uA wB => ∃ (y : Nat), uA = vF y ∧ (cn .f32 y = cn .f32 (stepY lk lc0 lc1 lc2 ls0 ls1 (ys.getD h 0))) ∧ (y < wid .f32) ∧ (stepS lk lc0 lc1 lc2 ls0 ls1 (ys.getD h 0) < wid .f32) ∧ (stepT lk lc0 lc1 lc2 ls0 ls1 (ys.getD h 0) < wid .f32) ∧ Row wB p 0 (splice (splice vs k [vS b 0 n c, vI ((i : Nat) : Int), vS d 0 m c2, vI ((h : Nat) : Int), vI lk, vF lc0, vF lc1, vF lc2, vF ls0, vF ls1, vI dk, vF dc0, vF dc1, vF dc2, vF ds0, vF ds1, vF ne, vF fa]) (k + 4) [vI lk, vF lc0, vF lc1, vF lc2, vF (stepS lk lc0 lc1 lc2 ls0 ls1 (ys.getD h 0)), vF (stepT lk lc0 lc1 lc2 ls0 ls1 (ys.getD h 0))]) ∧ Mod [p] wA wB) | _ => none) [0, 1, 2, 3, 4, 5, 6, 7] [8, 9] [p] (by kernel_rfl) (by kernel_rfl) ?_
  have md3 : Mod [] w4 w4.drew := (Mod.refl _ _).drew
  generalize w4.drew = w5 at md3 ⊢
  refine DR.det (i := 0) rfl rfl (by kernel_rfl) (.free rfl) rfl rfl (fun wD mD => op_move rfl) ?_
  refine DR.det (i := 1) rfl rfl (by kernel_rfl) (.free rfl) rfl rfl (fun wD mD => op_nilCheck rfl) ?_
  refine DR.det (i := 2) rfl rfl (by kernel_rfl) (.free rfl) rfl rfl (fun wD mD => op_fieldAddr (off' := k + 10) rfl Try.runUnderlying61 rfl rfl Try.sizeOf34 rfl) ?_
  refine DR.det (i := 3) rfl rfl (by kernel_rfl) (.free rfl) rfl rfl (fun wD mD => op_move rfl) ?_
  refine DR.det (i := 4) rfl rfl (by kernel_rfl) (.free rfl) rfl rfl (fun wD mD => op_nilCheck rfl) ?_
  refine DR.det (i := 5) rfl rfl (by kernel_rfl) (.free rfl) rfl rfl (fun wD mD => op_fieldAddr (off' := k + 4) rfl Try.runUnderlying61 rfl rfl Try.sizeOf34 rfl) ?_
  refine DR.det (i := 6) rfl rfl (by kernel_rfl) (.free rfl) rfl rfl (fun wD mD => op_move rfl) ?_
  refine DR.one (i := 7) rfl rfl (by kernel_rfl) (.free rfl) rfl (ltb rfl) (vs := [.func (.func 104) #[] #[], vP p (k + 4), vF (ys.getD h 0)]) rfl ?_
  intro w6 m3
  refine ⟨oc_call (vs := [vP p (k + 4), vF (ys.getD h 0)]) (cap := []) rfl rfl rfl Try.call104 (c_l02Step lk lc0 lc1 lc2 ls0 ls1 p (k + 4) (splice vs k [vS b 0 n c, vI ((i : Nat) : Int), vS d 0 m c2, vI ((h : Nat) : Int), vI lk, vF lc0, vF lc1, vF lc2, vF ls0, vF ls1, vI dk, vF dc0, vF dc1, vF dc2, vF ds0, vF ds1, vF ne, vF fa]) (ys.getD h 0) (ys.getD h 0) lls0 lls1 (sub_fit (i := 4) hk (lB rfl)) rfl (wy.get _) w6 (Row.congr ((((((q.ext md1).ext m1).ext md2).ext m2).ext md3).ext m3) (sub_same (i := 4) hk (lB rfl) rfl))), ?_⟩
  rintro _ w7 ⟨y1, rfl, h1, h2, h3, h4, r1, m4⟩
  have r2 : Row w7 p 0 (splice vs k [vS b 0 n c, vI ((i : Nat) : Int), vS d 0 m c2, vI ((h : Nat) : Int), vI lk, vF lc0, vF lc1, vF lc2, vF (stepS lk lc0 lc1 lc2 ls0 ls1 (ys.getD h 0)), vF (stepT lk lc0 lc1 lc2 ls0 ls1 (ys.getD h 0)), vI dk, vF dc0, vF dc1, vF dc2, vF ds0, vF ds1, vF ne, vF fa]) := Row.congr r1 (sub_put (i := 4) hk (lB rfl) rfl)
  refine ⟨(((Mod.refl [p] w5).nt m3).then m4 ((aC (.inl (by simp)) aN))), ?_⟩
  refine DR.done rfl ?_
  intro w8 m5
  refine WO.call rfl (.free rfl) rfl (ltb rfl) (oc_call (vs := [vP p (k + 10), vF y1]) (cap := []) rfl rfl rfl Try.call104 (c_l02Step dk dc0 dc1 dc2 ds0 ds1 p (k + 10) (splice vs k [vS b 0 n c, vI ((i : Nat) : Int), vS d 0 m c2, vI ((h : Nat) : Int), vI lk, vF lc0, vF lc1, vF lc2, vF (stepS lk lc0 lc1 lc2 ls0 ls1 (ys.getD h 0)), vF (stepT lk lc0 lc1 lc2 ls0 ls1 (ys.getD h 0)), vI dk, vF dc0, vF dc1, vF dc2, vF ds0, vF ds1, vF ne, vF fa]) y1 (stepY lk lc0 lc1 lc2 ls0 ls1 (ys.getD h 0)) lds0 lds1 (sub_fit (i := 10) hk (lB rfl)) h1 h2 w8 (Row.congr (r2.ext m5) (sub_same (i := 10) hk (lB rfl) rfl)))) ?_
  rintro _ w9 ⟨y2, rfl, h5, h6, h7, h8, r3, m6⟩
  have r4 : Row w9 p 0 (splice vs k [vS b 0 n c, vI ((i : Nat) : Int), vS d 0 m c2, vI ((h : Nat) : Int), vI lk, vF lc0, vF lc1, vF lc2, vF (stepS lk lc0 lc1 lc2 ls0 ls1 (ys.getD h 0)), vF (stepT lk lc0 lc1 lc2 ls0 ls1 (ys.getD h 0)), vI dk, vF dc0, vF dc1, vF dc2, vF (stepS dk dc0 dc1 dc2 ds0 ds1 (stepY lk lc0 lc1 lc2 ls0 ls1 (ys.getD h 0))), vF (stepT dk dc0 dc1 dc2 ds0 ds1 (stepY lk lc0 lc1 lc2 ls0 ls1 (ys.getD h 0))), vF ne, vF fa]) := Row.congr r3 (sub_put (i := 10) hk (lB rfl) rfl)
  refine WO.det (op_assign rfl) rfl (.free rfl) rfl rfl ?_
  refine WO.end ?_
  refine NE.code ?_
  refine CE.seq ?_
  refine CE.draw (fun | 11 => some (fun _ wA uA wB => uA = vF (keptF (fop .sub .f32 x (fop .mul .f32 ne (stepY dk dc0 dc1 dc2 ds0 ds1 (stepY lk lc0 lc1 lc2 ls0 ls1 (ys.getD h 0)))))) ∧ (keptF (fop .sub .f32 x (fop .mul .f32 ne (stepY dk dc0 dc1 dc2 ds0 ds1 (stepY lk lc0 lc1 lc2 ls0 ls1 (ys.getD h 0))))) < wid .f32) ∧ Mod [] wA wB) | _ => none) [0, 1, 2, 3, 4, 5, 6, 7, 8, 9, 10, 11] [12] [] (by kernel_rfl) (by kernel_rfl) ?_
  have md4 : Mod [] w9 w9.drew := (Mod.refl _ _).drew
  generalize w9.drew = w10 at md4 ⊢
  refine DR.det (i := 0) rfl rfl (by kernel_rfl) (.free rfl) rfl rfl (fun wD mD => op_move rfl) ?_
  refine DR.det (i := 1) rfl rfl (by kernel_rfl) (.free rfl) rfl rfl (fun wD mD => op_nilCheck rfl) ?_
  refine DR.det (i := 2) rfl rfl (by kernel_rfl) (.free rfl) rfl rfl (fun wD mD => op_fieldAddr (off' := k) rfl Try.runUnderlying61 rfl rfl Try.sizeOf33 rfl) ?_
  refine DR.det (i := 3) rfl rfl (by kernel_rfl) (.free rfl) rfl rfl (fun wD mD => op_move rfl) ?_
  refine DR.det (i := 4) rfl rfl (by kernel_rfl) (.free rfl) rfl rfl (fun wD mD => op_move rfl) ?_
  refine DR.det (i := 5) rfl rfl (by kernel_rfl) (.free rfl) rfl rfl (fun wD mD => op_nilCheck rfl) ?_
  refine DR.det (i := 6) rfl rfl (by kernel_rfl) (.free rfl) rfl rfl (fun wD mD => op_fieldAddr (off' := k + 16) rfl Try.runUnderlying61 rfl rfl Try.sizeOf25 rfl) ?_
  refine DR.det (i := 7) rfl rfl (by kernel_rfl) (.free rfl) rfl rfl (fun wD mD => op_load1 (i := k + 16) rfl Try.isAgg25 ((r4.ext md4).ext mD).rng (Nat.zero_add _) (sub_get (i := 16) hk rfl)) ?_
  refine DR.det (i := 8) rfl rfl (by kernel_rfl) (.free rfl) rfl rfl (fun wD mD => op_move rfl) ?_
  refine DR.op (i := 9) (FOut .f32 (fop .mul .f32 ne (stepY dk dc0 dc1 dc2 ds0 ds1 (stepY lk lc0 lc1 lc2 ls0 ls1 (ys.getD h 0))))) rfl rfl (by kernel_rfl) (.free rfl) rfl (ltb rfl) (fun wD mD => op_farith (e := (fop .mul .f32 ne (stepY dk dc0 dc1 dc2 ds0 ds1 (stepY lk lc0 lc1 lc2 ls0 ls1 (ys.getD h 0))))) (.inr (.inr (.inl rfl))) rfl rfl rfl h5 rfl) ?_
  rintro _ ⟨f1, rfl, hf1, lf1⟩
  refine DR.op (i := 10) (FOut .f32 (fop .sub .f32 x (fop .mul .f32 ne (stepY dk dc0 dc1 dc2 ds0 ds1 (stepY lk lc0 lc1 lc2 ls0 ls1 (ys.getD h 0)))))) rfl rfl (by kernel_rfl) (.free rfl) rfl (ltb rfl) (fun wD mD => op_farith (e := (fop .sub .f32 x (fop .mul .f32 ne (stepY dk dc0 dc1 dc2 ds0 ds1 (stepY lk lc0 lc1 lc2 ls0 ls1 (ys.getD h 0)))))) (.inr (.inl rfl)) rfl rfl ha hf1 rfl) ?_
  rintro _ ⟨f2, rfl, hf2, lf2⟩
  refine DR.call (i := 11) (fun uA => uA = vF (keptF (fop .sub .f32 x (fop .mul .f32 ne (stepY dk dc0 dc1 dc2 ds0 ds1 (stepY lk lc0 lc1 lc2 ls0 ls1 (ys.getD h 0)))))) ∧ (keptF (fop .sub .f32 x (fop .mul .f32 ne (stepY dk dc0 dc1 dc2 ds0 ds1 (stepY lk lc0 lc1 lc2 ls0 ls1 (ys.getD h 0))))) < wid .f32)) rfl rfl (by kernel_rfl) (.free rfl) rfl (ltb rfl) ⟨_, rfl, keptF_wid hf2 lf2⟩ (vs := [.func (.func 58) #[] #[], vF f2]) rfl (fun wD mD => oc_call (vs := [vF f2]) (cap := []) rfl rfl rfl Try.call58 (c_l02Kept f2 (fop .sub .f32 x (fop .mul .f32 ne (stepY dk dc0 dc1 dc2 ds0 ds1 (stepY lk lc0 lc1 lc2 ls0 ls1 (ys.getD h 0))))) hf2 lf2 wD)) ?_ ?_
  · rintro w1 _ w2 m1 ⟨rfl, p0, m2⟩; exact ⟨⟨rfl, p0⟩, m2⟩
  rintro _ ⟨rfl, h9⟩
  refine DR.done rfl ?_
  intro w11 m7
  refine WO.call rfl (.free rfl) rfl (ltb rfl) (oc_call (vs := [vP p k, vF (keptF (fop .sub .f32 x (fop .mul .f32 ne (stepY dk dc0 dc1 dc2 ds0 ds1 (stepY lk lc0 lc1 lc2 ls0 ls1 (ys.getD h 0))))))]) (cap := []) rfl rfl rfl Try.call111 (c_l02Push n c b xs i p k (splice vs k [vS b 0 n c, vI ((i : Nat) : Int), vS d 0 m c2, vI ((h : Nat) : Int), vI lk, vF lc0, vF lc1, vF lc2, vF (stepS lk lc0 lc1 lc2 ls0 ls1 (ys.getD h 0)), vF (stepT lk lc0 lc1 lc2 ls0 ls1 (ys.getD h 0)), vI dk, vF dc0, vF dc1, vF dc2, vF (stepS dk dc0 dc1 dc2 ds0 ds1 (stepY lk lc0 lc1 lc2 ls0 ls1 (ys.getD h 0))), vF (stepT dk dc0 dc1 dc2 ds0 ds1 (stepY lk lc0 lc1 lc2 ls0 ls1 (ys.getD h 0))), vF ne, vF fa]) (keptF (fop .sub .f32 x (fop .mul .f32 ne (stepY dk dc0 dc1 dc2 ds0 ds1 (stepY lk lc0 lc1 lc2 ls0 ls1 (ys.getD h 0)))))) ln (by omega) (by omega) (sub_fit (i := 0) hk (lB rfl)) w11 (Row.congr ((r4.ext md4).ext m7) (sub_same (i := 0) hk (lB rfl) rfl)) (((((((((((r.ext md1).ext m1).ext md2).ext m2).ext md3).ext m3).mod m4 (nC (Ne.symm ne1) nN)).ext m5).mod m6 (nC (Ne.symm ne1) nN)).ext md4).ext m7) ne1)) ?_
  rintro _ w12 ⟨rfl, r5, r6, m8⟩
  have r7 : Row w12 p 0 (splice vs k [vS b 0 n c, vI (((i + 1) % n : Nat) : Int), vS d 0 m c2, vI ((h : Nat) : Int), vI lk, vF lc0, vF lc1, vF lc2, vF (stepS lk lc0 lc1 lc2 ls0 ls1 (ys.getD h 0)), vF (stepT lk lc0 lc1 lc2 ls0 ls1 (ys.getD h 0)), vI dk, vF dc0, vF dc1, vF dc2, vF (stepS dk dc0 dc1 dc2 ds0 ds1 (stepY lk lc0 lc1 lc2 ls0 ls1 (ys.getD h 0))), vF (stepT dk dc0 dc1 dc2 ds0 ds1 (stepY lk lc0 lc1 lc2 ls0 ls1 (ys.getD h 0))), vF ne, vF fa]) := Row.congr r5 (sub_put (i := 0) hk (lB rfl) rfl)
  refine WO.end ?_
  refine NE.code ?_
  refine CE.seq ?_
  refine CE.draw (fun | 4 => some (fun _ wA uA wB => ∃ (r : Nat), uA = vF r ∧ (cn .f32 r = cn .f32 (jetF (xs.getD i 0))) ∧ (r < wid .f32) ∧ Mod [] wA wB) | 12 => some (fun _ wA uA wB => uA = vF (keptF (fop .add .f32 (jetF (xs.getD i 0)) (fop .mul .f32 fa (stepY dk dc0 dc1 dc2 ds0 ds1 (stepY lk lc0 lc1 lc2 ls0 ls1 (ys.getD h 0)))))) ∧ (keptF (fop .add .f32 (jetF (xs.getD i 0)) (fop .mul .f32 fa (stepY dk dc0 dc1 dc2 ds0 ds1 (stepY lk lc0 lc1 lc2 ls0 ls1 (ys.getD h 0))))) < wid .f32) ∧ Mod [] wA wB) | _ => none) [0, 1, 2, 3, 4, 5, 6, 7, 8, 9, 10, 11, 12] [13] [] (by kernel_rfl) (by kernel_rfl) ?_
  have md5 : Mod [] w12 w12.drew := (Mod.refl _ _).drew
  generalize w12.drew = w13 at md5 ⊢
  refine DR.det (i := 0) rfl rfl (by kernel_rfl) (.free rfl) rfl rfl (fun wD mD => op_move rfl) ?_
  refine DR.det (i := 1) rfl rfl (by kernel_rfl) (.free rfl) rfl rfl (fun wD mD => op_nilCheck rfl) ?_
  refine DR.det (i := 2) rfl rfl (by kernel_rfl) (.free rfl) rfl rfl (fun wD mD => op_fieldAddr (off' := k + 2) rfl Try.runUnderlying61 rfl rfl Try.sizeOf33 rfl) ?_
  refine DR.det (i := 3) rfl rfl (by kernel_rfl) (.free rfl) rfl rfl (fun wD mD => op_move rfl) ?_
  refine DR.call (i := 4) (fun uA => ∃ (r : Nat), uA = vF r ∧ (cn .f32 r = cn .f32 (jetF (xs.getD i 0))) ∧ (r < wid .f32)) rfl rfl (by kernel_rfl) (.free rfl) rfl (ltb rfl) ⟨_, _, rfl, rfl, jetF_lt _⟩ (vs := [.func (.func 112) #[] #[], vF (xs.getD i 0)]) rfl (fun wD mD => oc_call (vs := [vF (xs.getD i 0)]) (cap := []) rfl rfl rfl Try.call112 (c_l05Edge (xs.getD i 0) (xs.getD i 0) rfl (wx.get _) wD)) ?_ ?_
  · rintro w1 _ w2 m1 ⟨r, rfl, p0, p1, m2⟩; exact ⟨⟨r, rfl, p0, p1⟩, m2⟩
  rintro _ ⟨r8, rfl, h10, h11⟩
  refine DR.det (i := 5) rfl rfl (by kernel_rfl) (.free rfl) rfl rfl (fun wD mD => op_move rfl) ?_
  refine DR.det (i := 6) rfl rfl (by kernel_rfl) (.free rfl) rfl rfl (fun wD mD => op_nilCheck rfl) ?_
  refine DR.det (i := 7) rfl rfl (by kernel_rfl) (.free rfl) rfl rfl (fun wD mD => op_fieldAddr (off' := k + 17) rfl Try.runUnderlying61 rfl rfl Try.sizeOf25 rfl) ?_
  refine DR.det (i := 8) rfl rfl (by kernel_rfl) (.free rfl) rfl rfl (fun wD mD => op_load1 (i := k + 17) rfl Try.isAgg25 ((r7.ext md5).ext mD).rng (Nat.zero_add _) (sub_get (i := 17) hk rfl)) ?_
  refine DR.det (i := 9) rfl rfl (by kernel_rfl) (.free rfl) rfl rfl (fun wD mD => op_move rfl) ?_
  refine DR.op (i := 10) (FOut .f32 (fop .mul .f32 fa (stepY dk dc0 dc1 dc2 ds0 ds1 (stepY lk lc0 lc1 lc2 ls0 ls1 (ys.getD h 0))))) rfl rfl (by kernel_rfl) (.free rfl) rfl (ltb rfl) (fun wD mD => op_farith (e := (fop .mul .f32 fa (stepY dk dc0 dc1 dc2 ds0 ds1 (stepY lk lc0 lc1 lc2 ls0 ls1 (ys.getD h 0))))) (.inr (.inr (.inl rfl))) rfl rfl rfl h5 rfl) ?_
  rintro _ ⟨f3, rfl, hf3, lf3⟩
  refine DR.op (i := 11) (FOut .f32 (fop .add .f32 (jetF (xs.getD i 0)) (fop .mul .f32 fa (stepY dk dc0 dc1 dc2 ds0 ds1 (stepY lk lc0 lc1 lc2 ls0 ls1 (ys.getD h 0)))))) rfl rfl (by kernel_rfl) (.free rfl) rfl (ltb rfl) (fun wD mD => op_farith (e := (fop .add .f32 (jetF (xs.getD i 0)) (fop .mul .f32 fa (stepY dk dc0 dc1 dc2 ds0 ds1 (stepY lk lc0 lc1 lc2 ls0 ls1 (ys.getD h 0)))))) (.inl rfl) rfl rfl h10 hf3 rfl) ?_
  rintro _ ⟨f4, rfl, hf4, lf4⟩
  refine DR.call (i := 12) (fun uA => uA = vF (keptF (fop .add .f32 (jetF (xs.getD i 0)) (fop .mul .f32 fa (stepY dk dc0 dc1 dc2 ds0 ds1 (stepY lk lc0 lc1 lc2 ls0 ls1 (ys.getD h 0)))))) ∧ (keptF (fop .add .f32 (jetF (xs.getD i 0)) (fop .mul .f32 fa (stepY dk dc0 dc1 dc2 ds0 ds1 (stepY lk lc0 lc1 lc2 ls0 ls1 (ys.getD h 0))))) < wid .f32)) rfl rfl (by kernel_rfl) (.free rfl) rfl (ltb rfl) ⟨_, rfl, keptF_wid hf4 lf4⟩ (vs := [.func (.func 58) #[] #[], vF f4]) rfl (fun wD mD => oc_call (vs := [vF f4]) (cap := []) rfl rfl rfl Try.call58 (c_l02Kept f4 (fop .add .f32 (jetF (xs.getD i 0)) (fop .mul .f32 fa (stepY dk dc0 dc1 dc2 ds0 ds1 (stepY lk lc0 lc1 lc2 ls0 ls1 (ys.getD h 0))))) hf4 lf4 wD)) ?_ ?_
  · rintro w1 _ w2 m1 ⟨rfl, p0, m2⟩; exact ⟨⟨rfl, p0⟩, m2⟩
  rintro _ ⟨rfl, h12⟩
  refine DR.done rfl ?_
  intro w14 m9
  refine WO.call rfl (.free rfl) rfl (ltb rfl) (oc_call (vs := [vP p (k + 2), vF (keptF (fop .add .f32 (jetF (xs.getD i 0)) (fop .mul .f32 fa (stepY dk dc0 dc1 dc2 ds0 ds1 (stepY lk lc0 lc1 lc2 ls0 ls1 (ys.getD h 0))))))]) (cap := []) rfl rfl rfl Try.call111 (c_l02Push m c2 d ys h p (k + 2) (splice vs k [vS b 0 n c, vI (((i + 1) % n : Nat) : Int), vS d 0 m c2, vI ((h : Nat) : Int), vI lk, vF lc0, vF lc1, vF lc2, vF (stepS lk lc0 lc1 lc2 ls0 ls1 (ys.getD h 0)), vF (stepT lk lc0 lc1 lc2 ls0 ls1 (ys.getD h 0)), vI dk, vF dc0, vF dc1, vF dc2, vF (stepS dk dc0 dc1 dc2 ds0 ds1 (stepY lk lc0 lc1 lc2 ls0 ls1 (ys.getD h 0))), vF (stepT dk dc0 dc1 dc2 ds0 ds1 (stepY lk lc0 lc1 lc2 ls0 ls1 (ys.getD h 0))), vF ne, vF fa]) (keptF (fop .add .f32 (jetF (xs.getD i 0)) (fop .mul .f32 fa (stepY dk dc0 dc1 dc2 ds0 ds1 (stepY lk lc0 lc1 lc2 ls0 ls1 (ys.getD h 0)))))) lm (by omega) (by omega) (sub_fit (i := 2) hk (lB rfl)) w14 (Row.congr ((r7.ext md5).ext m9) (sub_same (i := 2) hk (lB rfl) rfl)) ((((((((((((((ry.ext md1).ext m1).ext md2).ext m2).ext md3).ext m3).mod m4 (nC (Ne.symm ne2) nN)).ext m5).mod m6 (nC (Ne.symm ne2) nN)).ext md4).ext m7).mod m8 (nC (Ne.symm ne2) (nC (Ne.symm ne3) nN))).ext md5).ext m9) ne2)) ?_
  rintro _ w15 ⟨rfl, r9, r10, m10⟩
  have r11 : Row w15 p 0 (splice vs k [vS b 0 n c, vI (((i + 1) % n : Nat) : Int), vS d 0 m c2, vI (((h + 1) % m : Nat) : Int), vI lk, vF lc0, vF lc1, vF lc2, vF (stepS lk lc0 lc1 lc2 ls0 ls1 (ys.getD h 0)), vF (stepT lk lc0 lc1 lc2 ls0 ls1 (ys.getD h 0)), vI dk, vF dc0, vF dc1, vF dc2, vF (stepS dk dc0 dc1 dc2 ds0 ds1 (stepY lk lc0 lc1 lc2 ls0 ls1 (ys.getD h 0))), vF (stepT dk dc0 dc1 dc2 ds0 ds1 (stepY lk lc0 lc1 lc2 ls0 ls1 (ys.getD h 0))), vF ne, vF fa]) := Row.congr r9 (sub_put (i := 2) hk (lB rfl) rfl)
  refine WO.end ?_
  refine NE.code ?_
  refine CE.seq ?_
  refine CE.region ?_
  refine WL.det (op_move rfl) rfl rfl rfl ?_
  refine WL.det (op_assign rfl) rfl rfl rfl ?_
  refine WL.end ?_
  refine NE.code ?_
  refine CE.ret' ?_
  refine XE.leave1 Try.results80 rfl ?_
  refine ⟨?_, ?_, ?_, ?_, ?_, ?_, ?_, r11, (((r6.ext md5).ext m9).mod m10 (nC (Ne.symm ne1) (nC ne3 nN))), r10, ((((((((((((((((Mod.refl [p, b, d] w).nt md1).nt m1).nt md2).nt m2).nt md3).nt m3).then m4 ((aC (.inl (by simp)) aN))).nt m5).then m6 ((aC (.inl (by simp)) aN))).nt md4).nt m7).then m8 ((aC (.inl (by simp)) (aC (.inl (by simp)) aN)))).nt md5).nt m9).then m10 ((aC (.inl (by simp)) (aC (.inl (by simp)) aN))))⟩
  all_goals first | assumption | rfl

set_option maxRecDepth 100000 in
set_option maxHeartbeats 2000000 in
theorem c_sStepJet (n : Nat) (c : Nat) (b : Nat) (xs : List Nat) (m : Nat) (c2 : Nat) (d : Nat) (ys : List Nat) (i : Nat) (h : Nat) (lk : Int) (lc0 : Nat) (lc1 : Nat) (lc2 : Nat) (ls0 : Nat) (ls1 : Nat) (dk : Int) (dc0 : Nat) (dc1 : Nat) (dc2 : Nat) (ds0 : Nat) (ds1 : Nat) (ne : Nat) (fa : Nat) (a : Nat) (ln : xs.length = n) (lm : ys.length = m) (hi : i < n) (hh : h < m) (hn : n ≤ 1024) (hm : m ≤ 1024) (lls0 : ls0 < wid .f32) (lls1 : ls1 < wid .f32) (lds0 : ds0 < wid .f32) (lds1 : ds1 < wid .f32) (wx : W32 xs) (wy : W32 ys) (la : a < wid .f32) (hv : vJet n ((i : Nat) : Int) m ((h : Nat) : Int) xs ys lk lc0 lc1 lc2 ls0 ls1 dk dc0 dc1 dc2 ds0 ds1 ne fa = true) (w : World) (r : Rng w b 0 (fl xs)) (ry : Rng w d 0 (fl ys)) : Cl Try.prog 31 #[.agg #[vS b 0 n c, vI ((i : Nat) : Int), vS d 0 m c2, vI ((h : Nat) : Int), vI lk, vF lc0, vF lc1, vF lc2, vF ls0, vF ls1, vI dk, vF dc0, vF dc1, vF dc2, vF ds0, vF ds1, vF ne, vF fa], vF a] w fun v w' => ∃ (b' : Nat) (c' : Nat) (d' : Nat) (c2' : Nat), v = .tuple #[.agg #[vS b' 0 n c', vI (((i + 1) % n : Nat) : Int), vS d' 0 m c2', vI (((h + 1) % m : Nat) : Int), vI lk, vF lc0, vF lc1, vF lc2, vF (stepS lk lc0 lc1 lc2 ls0 ls1 (ys.getD h 0)), vF (stepT lk lc0 lc1 lc2 ls0 ls1 (ys.getD h 0)), vI dk, vF dc0, vF dc1, vF dc2, vF (stepS dk dc0 dc1 dc2 ds0 ds1 (stepY lk lc0 lc1 lc2 ls0 ls1 (ys.getD h 0))), vF (stepT dk dc0 dc1 dc2 ds0 ds1 (stepY lk lc0 lc1 lc2 ls0 ls1 (ys.getD h 0))), vF ne, vF fa], vF (ys.getD h 0), vI 0] ∧ Row w' b' 0 (fl (xs.set i (keptF (fop .sub .f32 a (fop .mul .f32 ne (stepY dk dc0 dc1 dc2 ds0 ds1 (stepY lk lc0 lc1 lc2 ls0 ls1 (ys.getD h 0)))))))) ∧ Row w' d' 0 (fl (ys.set h (keptF (fop .add .f32 (jetF (xs.getD i 0)) (fop .mul .f32 fa (stepY dk dc0 dc1 dc2 ds0 ds1 (stepY lk lc0 lc1 lc2 ls0 ls1 (ys.getD h 0)))))))) ∧ w.heap.size ≤ b' ∧ w.heap.size ≤ d' ∧ b' ≠ d' ∧ Mod [] w w' := by
  refine Cl.of Try.func31 Try.ntmps31 rfl rfl (ρ := [(0, .agg #[vS b 0 n c, vI ((i : Nat) : Int), vS d 0 m c2, vI ((h : Nat) : Int), vI lk, vF lc0, vF lc1, vF lc2, vF ls0, vF ls1, vI dk, vF dc0, vF dc1, vF dc2, vF ds0, vF ds1, vF ne, vF fa]), (1, vF a)]) rfl ?_
  refine CE.seq ?_
  refine CE.region ?_
  refine WL.op (op_box (cs := [vS b 0 n c, vI ((i : Nat) : Int), vS d 0 m c2, vI ((h : Nat) : Int), vI lk, vF lc0, vF lc1, vF lc2, vF ls0, vF ls1, vI dk, vF dc0, vF dc1, vF dc2, vF ds0, vF ds1, vF ne, vF fa]) rfl rfl) rfl rfl (ltb rfl) ?_
  rintro _ w1 ⟨rfl, r1, m1, z1⟩
  refine WL.op (op_alloc (cs := [.slice none 0 0, vI 0, .slice none 0 0, vI 0, vI 0, vF 0, vF 0, vF 0, vF 0, vF 0, vI 0, vF 0, vF 0, vF 0, vF 0, vF 0, vF 0, vF 0]) Try.zeroValue61 rfl) rfl rfl (ltb rfl) ?_
  rintro _ w2 ⟨rfl, r2, m2, z2⟩
  refine WL.det (op_assign rfl) rfl rfl rfl ?_
  refine WL.det (op_assign rfl) rfl rfl rfl ?_
  refine WL.end ?_
  refine NE.code ?_
  refine CE.seq ?_
  refine CE.seq ?_
  refine CE.region ?_
  refine WL.call (oc_call (vs := [vP w.heap.size 0]) (cap := []) rfl rfl rfl Try.call78 (c_l05Jet n c b xs m c2 d ys ((i : Nat) : Int) ((h : Nat) : Int) lk lc0 lc1 lc2 ls0 ls1 dk dc0 dc1 dc2 ds0 ds1 ne fa w.heap.size 0 [vS b 0 n c, vI ((i : Nat) : Int), vS d 0 m c2, vI ((h : Nat) : Int), vI lk, vF lc0, vF lc1, vF lc2, vF ls0, vF ls1, vI dk, vF dc0, vF dc1, vF dc2, vF ds0, vF ds1, vF ne, vF fa] ln lm (by omega) (by omega) (lB rfl) w2 (Row.congr (r1.ext m2) rfl).rng ((r.ext m1).ext m2) ((ry.ext m1).ext m2))) rfl rfl (ltb rfl) ?_
  rintro _ w3 ⟨rfl, m3⟩
  refine WL.det (op_not rfl) rfl rfl rfl ?_
  refine WL.end ?_
  refine NE.code ?_
  refine CE.cond_f rfl (bnot_t hv) ?_
  refine CE.skip' ?_
  refine NE.code ?_
  refine CE.seq ?_
  refine CE.region ?_
  refine WL.call (oc_call (vs := [vP w.heap.size 0]) (cap := []) rfl rfl rfl Try.call79 (c_copyJet n c b xs m c2 d ys ((i : Nat) : Int) ((h : Nat) : Int) lk lc0 lc1 lc2 ls0 ls1 dk dc0 dc1 dc2 ds0 ds1 ne fa w.heap.size 0 [vS b 0 n c, vI ((i : Nat) : Int), vS d 0 m c2, vI ((h : Nat) : Int), vI lk, vF lc0, vF lc1, vF lc2, vF ls0, vF ls1, vI dk, vF dc0, vF dc1, vF dc2, vF ds0, vF ds1, vF ne, vF fa] ln lm (by omega) (by omega) (by omega) (by omega) (lB rfl) w3 (Row.congr ((r1.ext m2).ext m3) rfl).rng (((r.ext m1).ext m2).ext m3) (((ry.ext m1).ext m2).ext m3))) rfl rfl (ltb rfl) ?_
  rintro _ w4 ⟨b'1, c'1, d'1, c2'1, rfl, r3, r4, ge1, ge2, ne1, m4⟩
  refine WL.op (op_alloc (cs := [.slice none 0 0, vI 0, .slice none 0 0, vI 0, vI 0, vF 0, vF 0, vF 0, vF 0, vF 0, vI 0, vF 0, vF 0, vF 0, vF 0, vF 0, vF 0, vF 0]) Try.zeroValue61 rfl) rfl rfl (ltb rfl) ?_
  rintro _ w5 ⟨rfl, r5, m5, z3⟩
  refine WL.op0 (op_store (i := 0) (cs := [vS b'1 0 n c'1, vI ((i : Nat) : Int), vS d'1 0 m c2'1, vI ((h : Nat) : Int), vI lk, vF lc0, vF lc1, vF lc2, vF ls0, vF ls1, vI dk, vF dc0, vF dc1, vF dc2, vF ds0, vF ds1, vF ne, vF fa]) rfl rfl rfl Try.sizeOf61 rfl r5 rfl (lB rfl) rfl) rfl rfl ?_
  rintro _ w6 ⟨r6, m6, z4⟩
  have r7 : Row w6 w4.heap.size 0 [vS b'1 0 n c'1, vI ((i : Nat) : Int), vS d'1 0 m c2'1, vI ((h : Nat) : Int), vI lk, vF lc0, vF lc1, vF lc2, vF ls0, vF ls1, vI dk, vF dc0, vF dc1, vF dc2, vF ds0, vF ds1, vF ne, vF fa] := Row.congr r6 rfl
  refine WL.end ?_
  refine NE.code ?_
  refine CE.seq ?_
  refine CE.region ?_
  refine WL.det (op_move rfl) rfl rfl rfl ?_
  refine WL.call (oc_call (vs := [vP w4.heap.size 0, vF a]) (cap := []) rfl rfl rfl Try.call80 (c_l05StepJ n c'1 b'1 xs m c2'1 d'1 ys i h lk lc0 lc1 lc2 ls0 ls1 dk dc0 dc1 dc2 ds0 ds1 ne fa w4.heap.size 0 [vS b'1 0 n c'1, vI ((i : Nat) : Int), vS d'1 0 m c2'1, vI ((h : Nat) : Int), vI lk, vF lc0, vF lc1, vF lc2, vF ls0, vF ls1, vI dk, vF dc0, vF dc1, vF dc2, vF ds0, vF ds1, vF ne, vF fa] a a ln lm (by omega) (by omega) (by omega) (by omega) lls0 lls1 lds0 lds1 (lB rfl) (by first | assumption | exact W32.set (by assumption) (by first | assumption | exact wid_lt (by assumption)) | exact W32.zeros _ | exact W32.nil) (by first | assumption | exact W32.set (by assumption) (by first | assumption | exact wid_lt (by assumption)) | exact W32.zeros _ | exact W32.nil) rfl la w6 (Row.congr r7 rfl) ((r3.ext m5).mod m6 (nC (lE (lL r3.lt lR)) nN)) ((r4.ext m5).mod m6 (nC (lE (lL r4.lt lR)) nN)) (lG (lL r3.lt lR)) (lG (lL r4.lt lR)) ne1)) rfl rfl (ltb rfl) ?_
  rintro _ w7 ⟨rfl, h1, h2, h3, h4, h5, h6, r8, r9, r10, m7⟩
  have r11 : Row w7 w4.heap.size 0 [vS b'1 0 n c'1, vI (((i + 1) % n : Nat) : Int), vS d'1 0 m c2'1, vI (((h + 1) % m : Nat) : Int), vI lk, vF lc0, vF lc1, vF lc2, vF (stepS lk lc0 lc1 lc2 ls0 ls1 (ys.getD h 0)), vF (stepT lk lc0 lc1 lc2 ls0 ls1 (ys.getD h 0)), vI dk, vF dc0, vF dc1, vF dc2, vF (stepS dk dc0 dc1 dc2 ds0 ds1 (stepY lk lc0 lc1 lc2 ls0 ls1 (ys.getD h 0))), vF (stepT dk dc0 dc1 dc2 ds0 ds1 (stepY lk lc0 lc1 lc2 ls0 ls1 (ys.getD h 0))), vF ne, vF fa] := r8
  refine WL.det (op_assign rfl) rfl rfl rfl ?_
  refine WL.end ?_
  refine NE.code ?_
  refine CE.seq ?_
  refine CE.region ?_
  refine WL.det (op_loadA (i := 0) (cs := [vS b'1 0 n c'1, vI (((i + 1) % n : Nat) : Int), vS d'1 0 m c2'1, vI (((h + 1) % m : Nat) : Int), vI lk, vF lc0, vF lc1, vF lc2, vF (stepS lk lc0 lc1 lc2 ls0 ls1 (ys.getD h 0)), vF (stepT lk lc0 lc1 lc2 ls0 ls1 (ys.getD h 0)), vI dk, vF dc0, vF dc1, vF dc2, vF (stepS dk dc0 dc1 dc2 ds0 ds1 (stepY lk lc0 lc1 lc2 ls0 ls1 (ys.getD h 0))), vF (stepT dk dc0 dc1 dc2 ds0 ds1 (stepY lk lc0 lc1 lc2 ls0 ls1 (ys.getD h 0))), vF ne, vF fa]) rfl Try.isAgg61 Try.sizeOf61 r11.rng rfl rfl rfl) rfl rfl rfl ?_
  refine WL.det (op_move rfl) rfl rfl rfl ?_
  refine WL.op0 (op_store (i := 0) (cs := [vS b'1 0 n c'1, vI (((i + 1) % n : Nat) : Int), vS d'1 0 m c2'1, vI (((h + 1) % m : Nat) : Int), vI lk, vF lc0, vF lc1, vF lc2, vF (stepS lk lc0 lc1 lc2 ls0 ls1 (ys.getD h 0)), vF (stepT lk lc0 lc1 lc2 ls0 ls1 (ys.getD h 0)), vI dk, vF dc0, vF dc1, vF dc2, vF (stepS dk dc0 dc1 dc2 ds0 ds1 (stepY lk lc0 lc1 lc2 ls0 ls1 (ys.getD h 0))), vF (stepT dk dc0 dc1 dc2 ds0 ds1 (stepY lk lc0 lc1 lc2 ls0 ls1 (ys.getD h 0))), vF ne, vF fa]) rfl rfl rfl Try.sizeOf61 rfl (((((r2.ext m3).ext m4).ext m5).mod m6 (nC (lE (lL (lL r2.lt (lT m3.size m4.size)) lR)) nN)).mod m7 (nC (lE (lL (lL r2.lt (lT m3.size m4.size)) lR)) (nC (lE (lL (lL r2.lt m3.size) ge1)) (nC (lE (lL (lL r2.lt m3.size) ge2)) nN)))) rfl (lB rfl) rfl) rfl rfl ?_
  rintro _ w8 ⟨r12, m8, z5⟩
  have r13 : Row w8 w1.heap.size 0 [vS b'1 0 n c'1, vI (((i + 1) % n : Nat) : Int), vS d'1 0 m c2'1, vI (((h + 1) % m : Nat) : Int), vI lk, vF lc0, vF lc1, vF lc2, vF (stepS lk lc0 lc1 lc2 ls0 ls1 (ys.getD h 0)), vF (stepT lk lc0 lc1 lc2 ls0 ls1 (ys.getD h 0)), vI dk, vF dc0, vF dc1, vF dc2, vF (stepS dk dc0 dc1 dc2 ds0 ds1 (stepY lk lc0 lc1 lc2 ls0 ls1 (ys.getD h 0))), vF (stepT dk dc0 dc1 dc2 ds0 ds1 (stepY lk lc0 lc1 lc2 ls0 ls1 (ys.getD h 0))), vF ne, vF fa] := Row.congr r12 rfl
  refine WL.det (op_assign rfl) rfl rfl rfl ?_
  refine WL.det (op_assign rfl) rfl rfl rfl ?_
  refine WL.end ?_
  refine NE.code ?_
  refine CE.ret' ?_
  refine XE.leaveT Try.results31 (res_agg (cs := [vS b'1 0 n c'1, vI (((i + 1) % n : Nat) : Int), vS d'1 0 m c2'1, vI (((h + 1) % m : Nat) : Int), vI lk, vF lc0, vF lc1, vF lc2, vF (stepS lk lc0 lc1 lc2 ls0 ls1 (ys.getD h 0)), vF (stepT lk lc0 lc1 lc2 ls0 ls1 (ys.getD h 0)), vI dk, vF dc0, vF dc1, vF dc2, vF (stepS dk dc0 dc1 dc2 ds0 ds1 (stepY lk lc0 lc1 lc2 ls0 ls1 (ys.getD h 0))), vF (stepT dk dc0 dc1 dc2 ds0 ds1 (stepY lk lc0 lc1 lc2 ls0 ls1 (ys.getD h 0))), vF ne, vF fa]) rfl Try.isAgg61 Try.sizeOf61 r13.rng rfl (res_tmp rfl (res_tmp rfl res_nil))) ?_
  refine ⟨b'1, c'1, d'1, c2'1, rfl, (r9.mod m8 (nC (lG (lL (lL r2.lt m3.size) ge1)) nN)), (r10.mod m8 (nC (lG (lL (lL r2.lt m3.size) ge2)) nN)), (lT (lT (lT m1.size m2.size) m3.size) ge1), (lT (lT (lT m1.size m2.size) m3.size) ge2), ne1, (((((((((Mod.refl [] w).nt m1).nt m2).nt m3).nt m4).nt m5).then m6 ((aC (.inr (lT (lT (lT (lT m1.size m2.size) m3.size) m4.size) lR)) aN))).then m7 ((aC (.inr (lT (lT (lT (lT m1.size m2.size) m3.size) m4.size) lR)) (aC (.inr (lT (lT (lT m1.size m2.size) m3.size) ge1)) (aC (.inr (lT (lT (lT m1.size m2.size) m3.size) ge2)) aN))))).then m8 ((aC (.inr (lT m1.size lR)) aN)))⟩

set_option maxRecDepth 100000 in
set_option maxHeartbeats 2000000 in
theorem c_sStepJet_bad (n : Nat) (c : Nat) (b : Nat) (xs : List Nat) (m : Nat) (c2 : Nat) (d : Nat) (ys : List Nat) (j : Int) (jj : Int) (lk : Int) (lc0 : Nat) (lc1 : Nat) (lc2 : Nat) (ls0 : Nat) (ls1 : Nat) (dk : Int) (dc0 : Nat) (dc1 : Nat) (dc2 : Nat) (ds0 : Nat) (ds1 : Nat) (ne : Nat) (fa : Nat) (a : Nat) (ln : xs.length = n) (lm : ys.length = m) (hn : n ≤ 1048576) (hm : m ≤ 1048576) (lls0 : ls0 < wid .f32) (lls1 : ls1 < wid .f32) (lds0 : ds0 < wid .f32) (lds1 : ds1 < wid .f32) (la : a < wid .f32) (hv : vJet n j m jj xs ys lk lc0 lc1 lc2 ls0 ls1 dk dc0 dc1 dc2 ds0 ds1 ne fa = false) (w : World) (r : Rng w b 0 (fl xs)) (ry : Rng w d 0 (fl ys)) : Cl Try.prog 31 #[.agg #[vS b 0 n c, vI j, vS d 0 m c2, vI jj, vI lk, vF lc0, vF lc1, vF lc2, vF ls0, vF ls1, vI dk, vF dc0, vF dc1, vF dc2, vF ds0, vF ds1, vF ne, vF fa], vF a] w fun v w' => v = .tuple #[.agg #[.slice none 0 0, vI 0, .slice none 0 0, vI 0, vI 0, vF 0, vF 0, vF 0, vF 0, vF 0, vI 0, vF 0, vF 0, vF 0, vF 0, vF 0, vF 0, vF 0], vF 0, vI 1] ∧ Mod [] w w' := by
  refine Cl.of Try.func31 Try.ntmps31 rfl rfl (ρ := [(0, .agg #[vS b 0 n c, vI j, vS d 0 m c2, vI jj, vI lk, vF lc0, vF lc1, vF lc2, vF ls0, vF ls1, vI dk, vF dc0, vF dc1, vF dc2, vF ds0, vF ds1, vF ne, vF fa]), (1, vF a)]) rfl ?_
  refine CE.seq ?_
  refine CE.region ?_
  refine WL.op (op_box (cs := [vS b 0 n c, vI j, vS d 0 m c2, vI jj, vI lk, vF lc0, vF lc1, vF lc2, vF ls0, vF ls1, vI dk, vF dc0, vF dc1, vF dc2, vF ds0, vF ds1, vF ne, vF fa]) rfl rfl) rfl rfl (ltb rfl) ?_
  rintro _ w1 ⟨rfl, r1, m1, z1⟩
  refine WL.op (op_alloc (cs := [.slice none 0 0, vI 0, .slice none 0 0, vI 0, vI 0, vF 0, vF 0, vF 0, vF 0, vF 0, vI 0, vF 0, vF 0, vF 0, vF 0, vF 0, vF 0, vF 0]) Try.zeroValue61 rfl) rfl rfl (ltb rfl) ?_
  rintro _ w2 ⟨rfl, r2, m2, z2⟩
  refine WL.det (op_assign rfl) rfl rfl rfl ?_
  refine WL.det (op_assign rfl) rfl rfl rfl ?_
  refine WL.end ?_
  refine NE.code ?_
  refine CE.seq ?_
  refine CE.seq ?_
  refine CE.region ?_
  refine WL.call (oc_call (vs := [vP w.heap.size 0]) (cap := []) rfl rfl rfl Try.call78 (c_l05Jet n c b xs m c2 d ys j jj lk lc0 lc1 lc2 ls0 ls1 dk dc0 dc1 dc2 ds0 ds1 ne fa w.heap.size 0 [vS b 0 n c, vI j, vS d 0 m c2, vI jj, vI lk, vF lc0, vF lc1, vF lc2, vF ls0, vF ls1, vI dk, vF dc0, vF dc1, vF dc2, vF ds0, vF ds1, vF ne, vF fa] ln lm (by omega) (by omega) (lB rfl) w2 (Row.congr (r1.ext m2) rfl).rng ((r.ext m1).ext m2) ((ry.ext m1).ext m2))) rfl rfl (ltb rfl) ?_
  rintro _ w3 ⟨rfl, m3⟩
  refine WL.det (op_not rfl) rfl rfl rfl ?_
  refine WL.end ?_
  refine NE.code ?_
  refine CE.cond_t rfl (bnot_f hv) ?_
  refine CE.seq ?_
  refine CE.region ?_
  refine WL.det (op_build (qs := []) (cells := #[.slice none 0 0, vI 0, .slice none 0 0, vI 0, vI 0, vF 0, vF 0, vF 0, vF 0, vF 0, vI 0, vF 0, vF 0, vF 0, vF 0, vF 0, vF 0, vF 0]) rfl (by kernel_rfl)) rfl rfl rfl ?_
  refine WL.op0 (op_store (i := 0) (cs := [.slice none 0 0, vI 0, .slice none 0 0, vI 0, vI 0, vF 0, vF 0, vF 0, vF 0, vF 0, vI 0, vF 0, vF 0, vF 0, vF 0, vF 0, vF 0, vF 0]) rfl rfl rfl Try.sizeOf61 rfl (r2.ext m3) rfl (lB rfl) rfl) rfl rfl ?_
  rintro _ w4 ⟨r3, m4, z3⟩
  have r4 : Row w4 w1.heap.size 0 [.slice none 0 0, vI 0, .slice none 0 0, vI 0, vI 0, vF 0, vF 0, vF 0, vF 0, vF 0, vI 0, vF 0, vF 0, vF 0, vF 0, vF 0, vF 0, vF 0] := Row.congr r3 rfl
  refine WL.det (op_assign rfl) rfl rfl rfl ?_
  refine WL.det (op_assign rfl) rfl rfl rfl ?_
  refine WL.end ?_
  refine NE.code ?_
  refine CE.ret' ?_
  refine XE.ret_then ?_
  refine XE.leaveT Try.results31 (res_agg (cs := [.slice none 0 0, vI 0, .slice none 0 0, vI 0, vI 0, vF 0, vF 0, vF 0, vF 0, vF 0, vI 0, vF 0, vF 0, vF 0, vF 0, vF 0, vF 0, vF 0]) rfl Try.isAgg61 Try.sizeOf61 r4.rng rfl (res_tmp rfl (res_tmp rfl res_nil))) ?_
  refine ⟨rfl, (((((Mod.refl [] w).nt m1).nt m2).nt m3).then m4 ((aC (.inr (lT m1.size lR)) aN)))⟩

set_option maxRecDepth 100000 in
set_option maxHeartbeats 2000000 in
theorem c_iStepJet (n : Nat) (c : Nat) (b : Nat) (xs : List Nat) (m : Nat) (c2 : Nat) (d : Nat) (ys : List Nat) (i : Nat) (h : Nat) (lk : Int) (lc0 : Nat) (lc1 : Nat) (lc2 : Nat) (ls0 : Nat) (ls1 : Nat) (dk : Int) (dc0 : Nat) (dc1 : Nat) (dc2 : Nat) (ds0 : Nat) (ds1 : Nat) (ne : Nat) (fa : Nat) (a : Nat) (ln : xs.length = n) (lm : ys.length = m) (hi : i < n) (hh : h < m) (hn : n ≤ 1024) (hm : m ≤ 1024) (lls0 : ls0 < wid .f32) (lls1 : ls1 < wid .f32) (lds0 : ds0 < wid .f32) (lds1 : ds1 < wid .f32) (wx : W32 xs) (wy : W32 ys) (la : a < wid .f32) (hv : vJet n ((i : Nat) : Int) m ((h : Nat) : Int) xs ys lk lc0 lc1 lc2 ls0 ls1 dk dc0 dc1 dc2 ds0 ds1 ne fa = true) (w : World) (r : Rng w b 0 (fl xs)) (ry : Rng w d 0 (fl ys)) : Cl Try.prog 33 #[.agg #[vS b 0 n c, vI ((i : Nat) : Int), vS d 0 m c2, vI ((h : Nat) : Int), vI lk, vF lc0, vF lc1, vF lc2, vF ls0, vF ls1, vI dk, vF dc0, vF dc1, vF dc2, vF ds0, vF ds1, vF ne, vF fa], vF a] w fun v w' => ∃ (b' : Nat) (c' : Nat) (d' : Nat) (c2' : Nat), v = .tuple #[.agg #[vS b' 0 n c', vI (((i + 1) % n : Nat) : Int), vS d' 0 m c2', vI (((h + 1) % m : Nat) : Int), vI lk, vF lc0, vF lc1, vF lc2, vF (stepS lk lc0 lc1 lc2 ls0 ls1 (ys.getD h 0)), vF (stepT lk lc0 lc1 lc2 ls0 ls1 (ys.getD h 0)), vI dk, vF dc0, vF dc1, vF dc2, vF (stepS dk dc0 dc1 dc2 ds0 ds1 (stepY lk lc0 lc1 lc2 ls0 ls1 (ys.getD h 0))), vF (stepT dk dc0 dc1 dc2 ds0 ds1 (stepY lk lc0 lc1 lc2 ls0 ls1 (ys.getD h 0))), vF ne, vF fa], vF (ys.getD h 0), vI 0] ∧ Row w' b' 0 (fl (xs.set i (keptF (fop .sub .f32 a (fop .mul .f32 ne (stepY dk dc0 dc1 dc2 ds0 ds1 (stepY lk lc0 lc1 lc2 ls0 ls1 (ys.getD h 0)))))))) ∧ Row w' d' 0 (fl (ys.set h (keptF (fop .add .f32 (jetF (xs.getD i 0)) (fop .mul .f32 fa (stepY dk dc0 dc1 dc2 ds0 ds1 (stepY lk lc0 lc1 lc2 ls0 ls1 (ys.getD h 0)))))))) ∧ w.heap.size ≤ b' ∧ w.heap.size ≤ d' ∧ b' ≠ d' ∧ Mod [] w w' := by
  refine Cl.of Try.func33 Try.ntmps33 rfl rfl (ρ := [(0, .agg #[vS b 0 n c, vI ((i : Nat) : Int), vS d 0 m c2, vI ((h : Nat) : Int), vI lk, vF lc0, vF lc1, vF lc2, vF ls0, vF ls1, vI dk, vF dc0, vF dc1, vF dc2, vF ds0, vF ds1, vF ne, vF fa]), (1, vF a)]) rfl ?_
  refine CE.seq ?_
  refine CE.region ?_
  refine WL.op (op_box (cs := [vS b 0 n c, vI ((i : Nat) : Int), vS d 0 m c2, vI ((h : Nat) : Int), vI lk, vF lc0, vF lc1, vF lc2, vF ls0, vF ls1, vI dk, vF dc0, vF dc1, vF dc2, vF ds0, vF ds1, vF ne, vF fa]) rfl rfl) rfl rfl (ltb rfl) ?_
  rintro _ w1 ⟨rfl, r1, m1, z1⟩
  refine WL.op (op_alloc (cs := [.slice none 0 0, vI 0, .slice none 0 0, vI 0, vI 0, vF 0, vF 0, vF 0, vF 0, vF 0, vI 0, vF 0, vF 0, vF 0, vF 0, vF 0, vF 0, vF 0]) Try.zeroValue61 rfl) rfl rfl (ltb rfl) ?_
  rintro _ w2 ⟨rfl, r2, m2, z2⟩
  refine WL.det (op_assign rfl) rfl rfl rfl ?_
  refine WL.det (op_assign rfl) rfl rfl rfl ?_
  refine WL.end ?_
  refine NE.code ?_
  refine CE.seq ?_
  refine CE.seq ?_
  refine CE.region ?_
  refine WL.det (op_loadA (i := 0) (cs := [vS b 0 n c, vI ((i : Nat) : Int), vS d 0 m c2, vI ((h : Nat) : Int), vI lk, vF lc0, vF lc1, vF lc2, vF ls0, vF ls1, vI dk, vF dc0, vF dc1, vF dc2, vF ds0, vF ds1, vF ne, vF fa]) rfl Try.isAgg61 Try.sizeOf61 (r1.ext m2).rng rfl rfl rfl) rfl rfl rfl ?_
  refine WL.call (oc_call (vs := [.agg #[vS b 0 n c, vI ((i : Nat) : Int), vS d 0 m c2, vI ((h : Nat) : Int), vI lk, vF lc0, vF lc1, vF lc2, vF ls0, vF ls1, vI dk, vF dc0, vF dc1, vF dc2, vF ds0, vF ds1, vF ne, vF fa]]) (cap := []) rfl rfl rfl Try.call81 (c_ValidJet n c b xs m c2 d ys ((i : Nat) : Int) ((h : Nat) : Int) lk lc0 lc1 lc2 ls0 ls1 dk dc0 dc1 dc2 ds0 ds1 ne fa ln lm (by omega) (by omega) w2 ((r.ext m1).ext m2) ((ry.ext m1).ext m2))) rfl rfl (ltb rfl) ?_
  rintro _ w3 ⟨rfl, m3⟩
  refine WL.det (op_not rfl) rfl rfl rfl ?_
  refine WL.end ?_
  refine NE.code ?_
  refine CE.cond_f rfl (bnot_t hv) ?_
  refine CE.skip' ?_
  refine NE.code ?_
  refine CE.seq ?_
  refine CE.region ?_
  refine WL.det (op_loadA (i := 0) (cs := [vS b 0 n c, vI ((i : Nat) : Int), vS d 0 m c2, vI ((h : Nat) : Int), vI lk, vF lc0, vF lc1, vF lc2, vF ls0, vF ls1, vI dk, vF dc0, vF dc1, vF dc2, vF ds0, vF ds1, vF ne, vF fa]) rfl Try.isAgg61 Try.sizeOf61 ((r1.ext m2).ext m3).rng rfl rfl rfl) rfl rfl rfl ?_
  refine WL.call (oc_call (vs := [.agg #[vS b 0 n c, vI ((i : Nat) : Int), vS d 0 m c2, vI ((h : Nat) : Int), vI lk, vF lc0, vF lc1, vF lc2, vF ls0, vF ls1, vI dk, vF dc0, vF dc1, vF dc2, vF ds0, vF ds1, vF ne, vF fa]]) (cap := []) rfl rfl rfl Try.call82 (c_cloneJet n c b xs m c2 d ys ((i : Nat) : Int) ((h : Nat) : Int) lk lc0 lc1 lc2 ls0 ls1 dk dc0 dc1 dc2 ds0 ds1 ne fa ln lm (by omega) (by omega) (by omega) (by omega) w3 (((r.ext m1).ext m2).ext m3) (((ry.ext m1).ext m2).ext m3))) rfl rfl (ltb rfl) ?_
  rintro _ w4 ⟨b'1, c'1, d'1, c2'1, rfl, r3, r4, ge1, ge2, ne1, m4⟩
  refine WL.op0 (op_store (i := 0) (cs := [vS b'1 0 n c'1, vI ((i : Nat) : Int), vS d'1 0 m c2'1, vI ((h : Nat) : Int), vI lk, vF lc0, vF lc1, vF lc2, vF ls0, vF ls1, vI dk, vF dc0, vF dc1, vF dc2, vF ds0, vF ds1, vF ne, vF fa]) rfl rfl rfl Try.sizeOf61 rfl (((r1.ext m2).ext m3).ext m4) rfl (lB rfl) rfl) rfl rfl ?_
  rintro _ w5 ⟨r5, m5, z3⟩
  have r6 : Row w5 w.heap.size 0 [vS b'1 0 n c'1, vI ((i : Nat) : Int), vS d'1 0 m c2'1, vI ((h : Nat) : Int), vI lk, vF lc0, vF lc1, vF lc2, vF ls0, vF ls1, vI dk, vF dc0, vF dc1, vF dc2, vF ds0, vF ds1, vF ne, vF fa] := Row.congr r5 rfl
  refine WL.end ?_
  refine NE.code ?_
  refine CE.seq ?_
  refine CE.region ?_
  refine WL.det (op_move rfl) rfl rfl rfl ?_
  refine WL.call (oc_call (vs := [vP w.heap.size 0, vF a]) (cap := []) rfl rfl rfl Try.call83 (c_jetStep n c'1 b'1 xs m c2'1 d'1 ys i h lk lc0 lc1 lc2 ls0 ls1 dk dc0 dc1 dc2 ds0 ds1 ne fa w.heap.size 0 [vS b'1 0 n c'1, vI ((i : Nat) : Int), vS d'1 0 m c2'1, vI ((h : Nat) : Int), vI lk, vF lc0, vF lc1, vF lc2, vF ls0, vF ls1, vI dk, vF dc0, vF dc1, vF dc2, vF ds0, vF ds1, vF ne, vF fa] a a ln lm (by omega) (by omega) (by omega) (by omega) lls0 lls1 lds0 lds1 (lB rfl) (by first | assumption | exact W32.set (by assumption) (by first | assumption | exact wid_lt (by assumption)) | exact W32.zeros _ | exact W32.nil) (by first | assumption | exact W32.set (by assumption) (by first | assumption | exact wid_lt (by assumption)) | exact W32.zeros _ | exact W32.nil) rfl la w5 (Row.congr r6 rfl) (r3.mod m5 (nC (lG (lL (lL r1.lt (lT m2.size m3.size)) ge1)) nN)) (r4.mod m5 (nC (lG (lL (lL r1.lt (lT m2.size m3.size)) ge2)) nN)) (lE (lL (lL r1.lt (lT m2.size m3.size)) ge1)) (lE (lL (lL r1.lt (lT m2.size m3.size)) ge2)) ne1)) rfl rfl (ltb rfl) ?_
  rintro _ w6 ⟨rfl, h1, h2, h3, h4, h5, h6, r7, r8, r9, m6⟩
  have r10 : Row w6 w.heap.size 0 [vS b'1 0 n c'1, vI (((i + 1) % n : Nat) : Int), vS d'1 0 m c2'1, vI (((h + 1) % m : Nat) : Int), vI lk, vF lc0, vF lc1, vF lc2, vF (stepS lk lc0 lc1 lc2 ls0 ls1 (ys.getD h 0)), vF (stepT lk lc0 lc1 lc2 ls0 ls1 (ys.getD h 0)), vI dk, vF dc0, vF dc1, vF dc2, vF (stepS dk dc0 dc1 dc2 ds0 ds1 (stepY lk lc0 lc1 lc2 ls0 ls1 (ys.getD h 0))), vF (stepT dk dc0 dc1 dc2 ds0 ds1 (stepY lk lc0 lc1 lc2 ls0 ls1 (ys.getD h 0))), vF ne, vF fa] := r7
  refine WL.det (op_assign rfl) rfl rfl rfl ?_
  refine WL.end ?_
  refine NE.code ?_
  refine CE.seq ?_
  refine CE.region ?_
  refine WL.det (op_loadA (i := 0) (cs := [vS b'1 0 n c'1, vI (((i + 1) % n : Nat) : Int), vS d'1 0 m c2'1, vI (((h + 1) % m : Nat) : Int), vI lk, vF lc0, vF lc1, vF lc2, vF (stepS lk lc0 lc1 lc2 ls0 ls1 (ys.getD h 0)), vF (stepT lk lc0 lc1 lc2 ls0 ls1 (ys.getD h 0)), vI dk, vF dc0, vF dc1, vF dc2, vF (stepS dk dc0 dc1 dc2 ds0 ds1 (stepY lk lc0 lc1 lc2 ls0 ls1 (ys.getD h 0))), vF (stepT dk dc0 dc1 dc2 ds0 ds1 (stepY lk lc0 lc1 lc2 ls0 ls1 (ys.getD h 0))), vF ne, vF fa]) rfl Try.isAgg61 Try.sizeOf61 r10.rng rfl rfl rfl) rfl rfl rfl ?_
  refine WL.det (op_move rfl) rfl rfl rfl ?_
  refine WL.op0 (op_store (i := 0) (cs := [vS b'1 0 n c'1, vI (((i + 1) % n : Nat) : Int), vS d'1 0 m c2'1, vI (((h + 1) % m : Nat) : Int), vI lk, vF lc0, vF lc1, vF lc2, vF (stepS lk lc0 lc1 lc2 ls0 ls1 (ys.getD h 0)), vF (stepT lk lc0 lc1 lc2 ls0 ls1 (ys.getD h 0)), vI dk, vF dc0, vF dc1, vF dc2, vF (stepS dk dc0 dc1 dc2 ds0 ds1 (stepY lk lc0 lc1 lc2 ls0 ls1 (ys.getD h 0))), vF (stepT dk dc0 dc1 dc2 ds0 ds1 (stepY lk lc0 lc1 lc2 ls0 ls1 (ys.getD h 0))), vF ne, vF fa]) rfl rfl rfl Try.sizeOf61 rfl ((((r2.ext m3).ext m4).mod m5 (nC (lG (lL r1.lt lR)) nN)).mod m6 (nC (lG (lL r1.lt lR)) (nC (lE (lL (lL r2.lt m3.size) ge1)) (nC (lE (lL (lL r2.lt m3.size) ge2)) nN)))) rfl (lB rfl) rfl) rfl rfl ?_
  rintro _ w7 ⟨r11, m7, z4⟩
  have r12 : Row w7 w1.heap.size 0 [vS b'1 0 n c'1, vI (((i + 1) % n : Nat) : Int), vS d'1 0 m c2'1, vI (((h + 1) % m : Nat) : Int), vI lk, vF lc0, vF lc1, vF lc2, vF (stepS lk lc0 lc1 lc2 ls0 ls1 (ys.getD h 0)), vF (stepT lk lc0 lc1 lc2 ls0 ls1 (ys.getD h 0)), vI dk, vF dc0, vF dc1, vF dc2, vF (stepS dk dc0 dc1 dc2 ds0 ds1 (stepY lk lc0 lc1 lc2 ls0 ls1 (ys.getD h 0))), vF (stepT dk dc0 dc1 dc2 ds0 ds1 (stepY lk lc0 lc1 lc2 ls0 ls1 (ys.getD h 0))), vF ne, vF fa] := Row.congr r11 rfl
  refine WL.det (op_assign rfl) rfl rfl rfl ?_
  refine WL.det (op_assign rfl) rfl rfl rfl ?_
  refine WL.end ?_
  refine NE.code ?_
  refine CE.ret' ?_
  refine XE.leaveT Try.results33 (res_agg (cs := [vS b'1 0 n c'1, vI (((i + 1) % n : Nat) : Int), vS d'1 0 m c2'1, vI (((h + 1) % m : Nat) : Int), vI lk, vF lc0, vF lc1, vF lc2, vF (stepS lk lc0 lc1 lc2 ls0 ls1 (ys.getD h 0)), vF (stepT lk lc0 lc1 lc2 ls0 ls1 (ys.getD h 0)), vI dk, vF dc0, vF dc1, vF dc2, vF (stepS dk dc0 dc1 dc2 ds0 ds1 (stepY lk lc0 lc1 lc2 ls0 ls1 (ys.getD h 0))), vF (stepT dk dc0 dc1 dc2 ds0 ds1 (stepY lk lc0 lc1 lc2 ls0 ls1 (ys.getD h 0))), vF ne, vF fa]) rfl Try.isAgg61 Try.sizeOf61 r12.rng rfl (res_tmp rfl (res_tmp rfl res_nil))) ?_
  refine ⟨b'1, c'1, d'1, c2'1, rfl, (r8.mod m7 (nC (lG (lL (lL r2.lt m3.size) ge1)) nN)), (r9.mod m7 (nC (lG (lL (lL r2.lt m3.size) ge2)) nN)), (lT (lT (lT m1.size m2.size) m3.size) ge1), (lT (lT (lT m1.size m2.size) m3.size) ge2), ne1, ((((((((Mod.refl [] w).nt m1).nt m2).nt m3).nt m4).then m5 ((aC (.inr lR) aN))).then m6 ((aC (.inr lR) (aC (.inr (lT (lT (lT m1.size m2.size) m3.size) ge1)) (aC (.inr (lT (lT (lT m1.size m2.size) m3.size) ge2)) aN))))).then m7 ((aC (.inr (lT m1.size lR)) aN)))⟩

set_option maxRecDepth 100000 in
set_option maxHeartbeats 2000000 in
theorem c_iStepJet_bad (n : Nat) (c : Nat) (b : Nat) (xs : List Nat) (m : Nat) (c2 : Nat) (d : Nat) (ys : List Nat) (j : Int) (jj : Int) (lk : Int) (lc0 : Nat) (lc1 : Nat) (lc2 : Nat) (ls0 : Nat) (ls1 : Nat) (dk : Int) (dc0 : Nat) (dc1 : Nat) (dc2 : Nat) (ds0 : Nat) (ds1 : Nat) (ne : Nat) (fa : Nat) (a : Nat) (ln : xs.length = n) (lm : ys.length = m) (hn : n ≤ 1048576) (hm : m ≤ 1048576) (lls0 : ls0 < wid .f32) (lls1 : ls1 < wid .f32) (lds0 : ds0 < wid .f32) (lds1 : ds1 < wid .f32) (la : a < wid .f32) (hv : vJet n j m jj xs ys lk lc0 lc1 lc2 ls0 ls1 dk dc0 dc1 dc2 ds0 ds1 ne fa = false) (w : World) (r : Rng w b 0 (fl xs)) (ry : Rng w d 0 (fl ys)) : Cl Try.prog 33 #[.agg #[vS b 0 n c, vI j, vS d 0 m c2, vI jj, vI lk, vF lc0, vF lc1, vF lc2, vF ls0, vF ls1, vI dk, vF dc0, vF dc1, vF dc2, vF ds0, vF ds1, vF ne, vF fa], vF a] w fun v w' => v = .tuple #[.agg #[.slice none 0 0, vI 0, .slice none 0 0, vI 0, vI 0, vF 0, vF 0, vF 0, vF 0, vF 0, vI 0, vF 0, vF 0, vF 0, vF 0, vF 0, vF 0, vF 0], vF 0, vI 1] ∧ Mod [] w w' := by
  refine Cl.of Try.func33 Try.ntmps33 rfl rfl (ρ := [(0, .agg #[vS b 0 n c, vI j, vS d 0 m c2, vI jj, vI lk, vF lc0, vF lc1, vF lc2, vF ls0, vF ls1, vI dk, vF dc0, vF dc1, vF dc2, vF ds0, vF ds1, vF ne, vF fa]), (1, vF a)]) rfl ?_
  refine CE.seq ?_
  refine CE.region ?_
  refine WL.op (op_box (cs := [vS b 0 n c, vI j, vS d 0 m c2, vI jj, vI lk, vF lc0, vF lc1, vF lc2, vF ls0, vF ls1, vI dk, vF dc0, vF dc1, vF dc2, vF ds0, vF ds1, vF ne, vF fa]) rfl rfl) rfl rfl (ltb rfl) ?_
  rintro _ w1 ⟨rfl, r1, m1, z1⟩
  refine WL.op (op_alloc (cs := [.slice none 0 0, vI 0, .slice none 0 0, vI 0, vI 0, vF 0, vF 0, vF 0, vF 0, vF 0, vI 0, vF 0, vF 0, vF 0, vF 0, vF 0, vF 0, vF 0]) Try.zeroValue61 rfl) rfl rfl (ltb rfl) ?_
  rintro _ w2 ⟨rfl, r2, m2, z2⟩
  refine WL.det (op_assign rfl) rfl rfl rfl ?_
  refine WL.det (op_assign rfl) rfl rfl rfl ?_
  refine WL.end ?_
  refine NE.code ?_
  refine CE.seq ?_
  refine CE.seq ?_
  refine CE.region ?_
  refine WL.det (op_loadA (i := 0) (cs := [vS b 0 n c, vI j, vS d 0 m c2, vI jj, vI lk, vF lc0, vF lc1, vF lc2, vF ls0, vF ls1, vI dk, vF dc0, vF dc1, vF dc2, vF ds0, vF ds1, vF ne, vF fa]) rfl Try.isAgg61 Try.sizeOf61 (r1.ext m2).rng rfl rfl rfl) rfl rfl rfl ?_
  refine WL.call (oc_call (vs := [.agg #[vS b 0 n c, vI j, vS d 0 m c2, vI jj, vI lk, vF lc0, vF lc1, vF lc2, vF ls0, vF ls1, vI dk, vF dc0, vF dc1, vF dc2, vF ds0, vF ds1, vF ne, vF fa]]) (cap := []) rfl rfl rfl Try.call81 (c_ValidJet n c b xs m c2 d ys j jj lk lc0 lc1 lc2 ls0 ls1 dk dc0 dc1 dc2 ds0 ds1 ne fa ln lm (by omega) (by omega) w2 ((r.ext m1).ext m2) ((ry.ext m1).ext m2))) rfl rfl (ltb rfl) ?_
  rintro _ w3 ⟨rfl, m3⟩
  refine WL.det (op_not rfl) rfl rfl rfl ?_
  refine WL.end ?_
  refine NE.code ?_
  refine CE.cond_t rfl (bnot_f hv) ?_
  refine CE.seq ?_
  refine CE.region ?_
  refine WL.det (op_build (qs := []) (cells := #[.slice none 0 0, vI 0, .slice none 0 0, vI 0, vI 0, vF 0, vF 0, vF 0, vF 0, vF 0, vI 0, vF 0, vF 0, vF 0, vF 0, vF 0, vF 0, vF 0]) rfl (by kernel_rfl)) rfl rfl rfl ?_
  refine WL.op0 (op_store (i := 0) (cs := [.slice none 0 0, vI 0, .slice none 0 0, vI 0, vI 0, vF 0, vF 0, vF 0, vF 0, vF 0, vI 0, vF 0, vF 0, vF 0, vF 0, vF 0, vF 0, vF 0]) rfl rfl rfl Try.sizeOf61 rfl (r2.ext m3) rfl (lB rfl) rfl) rfl rfl ?_
  rintro _ w4 ⟨r3, m4, z3⟩
  have r4 : Row w4 w1.heap.size 0 [.slice none 0 0, vI 0, .slice none 0 0, vI 0, vI 0, vF 0, vF 0, vF 0, vF 0, vF 0, vI 0, vF 0, vF 0, vF 0, vF 0, vF 0, vF 0, vF 0] := Row.congr r3 rfl
  refine WL.det (op_assign rfl) rfl rfl rfl ?_
  refine WL.det (op_assign rfl) rfl rfl rfl ?_
  refine WL.end ?_
  refine NE.code ?_
  refine CE.ret' ?_
  refine XE.ret_then ?_
  refine XE.leaveT Try.results33 (res_agg (cs := [.slice none 0 0, vI 0, .slice none 0 0, vI 0, vI 0, vF 0, vF 0, vF 0, vF 0, vF 0, vI 0, vF 0, vF 0, vF 0, vF 0, vF 0, vF 0, vF 0]) rfl Try.isAgg61 Try.sizeOf61 r4.rng rfl (res_tmp rfl (res_tmp rfl res_nil))) ?_
  refine ⟨rfl, (((((Mod.refl [] w).nt m1).nt m2).nt m3).then m4 ((aC (.inr (lT m1.size lR)) aN)))⟩

end Go.Proofs.Ytkgdhlhmckdcmaa
