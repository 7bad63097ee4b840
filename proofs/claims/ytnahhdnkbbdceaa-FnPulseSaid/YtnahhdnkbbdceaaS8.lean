/- Where the places in a pipe lie. -/
import Derived.Test.YtnahhdnkbbdceaaS3
set_option linter.unusedVariables false
set_option linter.unusedSimpArgs false
set_option maxRecDepth 100000
set_option maxHeartbeats 8000000
namespace Go.Proofs.Ytnahhdnkbbdceaa

theorem c_l04PlaceS (nR : Nat) (GR : List RD) (nL : Nat) (GL : List RD) (nS : Nat) (xS : List Nat) (cR : Nat) (bR : Nat) (PR : List BC) (loR : Nat) (cL : Nat) (bL : Nat) (PL : List BC) (loL : Nat) (cS : Nat) (bS : Nat) (k : Int) (kc0 : Nat) (kc1 : Nat) (kc2 : Nat) (ks0 : Nat) (ks1 : Nat) (op : Bool) (lo : Nat) (re : Nat) (sl : Nat) (p : Nat) (m : Int) (pl : Int) (lDR : GR.length = nR) (lDL : GL.length = nL) (lnS : xS.length = nS) (hzR : ∀ i, (GR.getD i RD.d).xs.length ≤ 1048576) (hzL : ∀ i, (GL.getD i RD.d).xs.length ≤ 1048576) (lPR : PR.length = nR) (lPL : PL.length = nL) (mR : nR ≤ 1048576) (mL : nL ≤ 1048576) (mS : nS ≤ 1048576) (w : World) (q : Rng w p 0 [vS bR 0 nR cR, vS bL 0 nL cL, vS bS 0 nS cS, vI k, vF kc0, vF kc1, vF kc2, vF ks0, vF ks1, .bool op, vF lo, vF re, vF sl]) (rR : Rng w bR 0 (olc GR PR)) (rL : Rng w bL 0 (olc GL PL)) (rS : Rng w bS 0 (fl xS))  (FR : OF loR w GR PR) (FL : OF loL w GL PL) : Cl Try.prog 94 #[vP p 0, vI m, vI pl] w fun v w' => v = .bool (vIn m 0 (((nR : Nat) : Int) - (1 : Int)) && vIn pl 0 ((((GR.getD (m).toNat RD.d).xs.length : Nat) : Int) - (1 : Int))) ∧ Mod [] w w' := by
 have hzm := hzR m.toNat
 refine Cl.of Try.func94 Try.ntmps94 rfl rfl (ρ := [(0, vP p 0), (1, vI m), (2, vI pl)]) rfl ?_
 refine CE.seq (CE.region ?_)
 refine WD (op_assign rfl) rfl ?_
 refine WL.end (NE.code (CE.seq (CE.region ?_)))
 iterate 2 refine WD (op_move rfl) rfl ?_
 refine WD (op_nilCheck rfl) rfl ?_
 refine WD (op_fieldAddr (off' := 0) rfl Try.runUnderlying33 rfl rfl Try.sizeOf25 rfl) rfl ?_
 refine WD (op_load1 (i := 0) rfl Try.isAgg25 q rfl rfl) rfl ?_
 refine WD (op_len rfl Try.runUnderlying25) rfl ?_
 refine WD (op_sub (r := (((nR : Nat) : Int) - (1 : Int))) rfl rfl (w_i64 (by omega) (by omega))) rfl ?_
 refine WL.call (oc_call (vs := [vI m, vI 0, vI (((nR : Nat) : Int) - (1 : Int))]) (cap := []) rfl rfl rfl Try.call55 (c_l00In m (0 : Int) (((nR : Nat) : Int) - (1 : Int)) w)) rfl rfl (ltb rfl) ?_
 rintro _ _ ⟨rfl, rfl⟩
 refine WD (op_move rfl) rfl ?_
 rcases Bool.eq_false_or_eq_true (vIn m (0 : Int) (((nR : Nat) : Int) - (1 : Int))) with hb1 | hb1
 ·have hp1 := hb1; try simp only [Bool.and_eq_true, Bool.or_eq_true, Bool.not_eq_true', Bool.not_eq_false', Bool.and_eq_false_iff, Bool.or_eq_false_iff, decide_eq_true_eq, decide_eq_false_iff_not, beq_iff_eq, bne_iff_ne, beq_eq_false_iff_ne, bne_eq_false_iff_eq, ne_eq, Bool.false_eq_true, not_false_eq_true, not_true_eq_false, vIn_t, vIn_f] at hp1
  refine WL.yes rfl rfl rfl (ltb rfl) rfl hb1 ?_
  refine WD (op_move rfl) rfl ?_
  refine WL.yes rfl rfl rfl (ltb rfl) rfl hb1 ?_
  refine WD (op_move rfl) rfl ?_
  refine WL.yes rfl rfl rfl (ltb rfl) rfl hb1 ?_
  refine WD (op_nilCheck rfl) rfl ?_
  refine WL.yes rfl rfl rfl (ltb rfl) rfl hb1 ?_
  refine WD (op_fieldAddr (off' := 0) rfl Try.runUnderlying33 rfl rfl Try.sizeOf25 rfl) rfl ?_
  refine WL.yes rfl rfl rfl (ltb rfl) rfl hb1 ?_
  refine WD (op_load1 (i := 0) rfl Try.isAgg25 q rfl rfl) rfl ?_
  refine WL.yes rfl rfl rfl (ltb rfl) rfl hb1 ?_
  refine WD (op_move rfl) rfl ?_
  refine WL.yes rfl rfl rfl (ltb rfl) rfl hb1 ?_
  refine WD (op_indexSl (off' := 0 + (m).toNat * 2) rfl rfl rfl Try.runUnderlying25 Try.sizeOf60 (by omega) (by omega) (by omega)) rfl ?_
  refine WL.yes rfl rfl rfl (ltb rfl) rfl hb1 ?_
  refine WD (op_fieldAddr (off' := 0 + (m).toNat * 2) rfl Try.runUnderlying60 rfl rfl Try.sizeOf26 rfl) rfl ?_
  refine WL.yes rfl rfl rfl (ltb rfl) rfl hb1 ?_
  refine WD (op_load1 (i := (m).toNat * 2) rfl Try.isAgg26 rR rfl (olc_get0 lDR lPR (show (m).toNat < nR by omega))) rfl ?_
  refine WL.yes rfl rfl rfl (ltb rfl) rfl hb1 ?_
  refine WD (op_len rfl Try.runUnderlying26) rfl ?_
  refine WL.yes rfl rfl rfl (ltb rfl) rfl hb1 ?_
  refine WD (op_sub (r := ((((GR.getD ((m).toNat) RD.d).xs.length : Nat) : Int) - (1 : Int))) rfl rfl (w_i64 (by omega) (by omega))) rfl ?_
  refine WL.yes rfl rfl rfl (ltb rfl) rfl hb1 ?_
  refine WL.call (oc_call (vs := [vI pl, vI 0, vI ((((GR.getD ((m).toNat) RD.d).xs.length : Nat) : Int) - (1 : Int))]) (cap := []) rfl rfl rfl Try.call55 (c_l00In pl (0 : Int) ((((GR.getD ((m).toNat) RD.d).xs.length : Nat) : Int) - (1 : Int)) w)) rfl rfl (ltb rfl) ?_
  rintro _ _ ⟨rfl, rfl⟩
  refine WD (op_pick_t rfl hb1 rfl) rfl ?_
  refine WD (op_assign rfl) rfl ?_
  refine WL.end (NE.code (CE.ret' ?_))
  refine XE.leave1 Try.results94 rfl ?_
  refine ⟨?_, (Mod.refl [] w)⟩
  all_goals simp_all
 ·have hp1 := hb1; try simp only [Bool.and_eq_true, Bool.or_eq_true, Bool.not_eq_true', Bool.not_eq_false', Bool.and_eq_false_iff, Bool.or_eq_false_iff, decide_eq_true_eq, decide_eq_false_iff_not, beq_iff_eq, bne_iff_ne, beq_eq_false_iff_ne, bne_eq_false_iff_eq, ne_eq, Bool.false_eq_true, not_false_eq_true, not_true_eq_false, vIn_t, vIn_f] at hp1
  iterate 12 refine WL.no rfl rfl rfl (ltb rfl) rfl hb1 rfl (ltb rfl) ?_
  refine WD (op_pick_f rfl hb1 rfl) rfl ?_
  refine WD (op_assign rfl) rfl ?_
  refine WL.end (NE.code (CE.ret' ?_))
  refine XE.leave1 Try.results94 rfl ?_
  refine ⟨?_, (Mod.refl [] w)⟩
  all_goals simp_all

theorem c_l04IndexS (nR : Nat) (GR : List RD) (nL : Nat) (GL : List RD) (nS : Nat) (xS : List Nat) (cR : Nat) (bR : Nat) (PR : List BC) (loR : Nat) (cL : Nat) (bL : Nat) (PL : List BC) (loL : Nat) (cS : Nat) (bS : Nat) (k : Int) (kc0 : Nat) (kc1 : Nat) (kc2 : Nat) (ks0 : Nat) (ks1 : Nat) (op : Bool) (lo : Nat) (re : Nat) (sl : Nat) (p : Nat) (m : Nat) (pl : Nat) (aR : Nat) (aL : Nat) (lDR : GR.length = nR) (lDL : GL.length = nL) (lnS : xS.length = nS) (hzR : ∀ i, (GR.getD i RD.d).xs.length ≤ 1048576) (hzL : ∀ i, (GL.getD i RD.d).xs.length ≤ 1048576) (lPR : PR.length = nR) (lPL : PL.length = nL) (mR : nR ≤ 1048576) (mL : nL ≤ 1048576) (mS : nS ≤ 1048576) (hm : m < nR) (hnn : nL = nR) (hpl : pl < (GR.getD m RD.d).xs.length) (heR : (GR.getD m RD.d).at_ = ((aR : Nat) : Int)) (heL : (GL.getD m RD.d).at_ = ((aL : Nat) : Int)) (hlR : aR < (GR.getD m RD.d).xs.length) (hlL : aL < (GL.getD m RD.d).xs.length) (w : World) (q : Rng w p 0 [vS bR 0 nR cR, vS bL 0 nL cL, vS bS 0 nS cS, vI k, vF kc0, vF kc1, vF kc2, vF ks0, vF ks1, .bool op, vF lo, vF re, vF sl]) (rR : Rng w bR 0 (olc GR PR)) (rL : Rng w bL 0 (olc GL PL)) (rS : Rng w bS 0 (fl xS))  (FR : OF loR w GR PR) (FL : OF loL w GL PL) : Cl Try.prog 95 #[vP p 0, vI ((m : Nat) : Int), vI ((pl : Nat) : Int)] w fun v w' => v = .tuple #[vI ((((aR + (GR.getD m RD.d).xs.length - 1 - pl) % (GR.getD m RD.d).xs.length) : Nat) : Int), vI ((((aL + pl) % (GR.getD m RD.d).xs.length) : Nat) : Int)] ∧ Mod [] w w' := by
 have hzm := hzR m
 have hzl := hzL m
 refine Cl.of Try.func95 Try.ntmps95 rfl rfl (ρ := [(0, vP p 0), (1, vI ((m : Nat) : Int)), (2, vI ((pl : Nat) : Int))]) rfl ?_
 refine CE.seq (CE.region ?_)
 iterate 2 refine WD (op_assign rfl) rfl ?_
 refine WL.end (NE.code (CE.seq (CE.region ?_)))
 refine WD (op_move rfl) rfl ?_
 refine WD (op_nilCheck rfl) rfl ?_
 refine WD (op_fieldAddr (off' := 0) rfl Try.runUnderlying33 rfl rfl Try.sizeOf25 rfl) rfl ?_
 refine WD (op_load1 (i := 0) rfl Try.isAgg25 q rfl rfl) rfl ?_
 refine WD (op_move rfl) rfl ?_
 refine WD (op_indexSl (off' := 0 + m * 2) rfl rfl rfl Try.runUnderlying25 Try.sizeOf60 (by omega) (by omega) (by omega)) rfl ?_
 refine WD (op_assign rfl) rfl ?_
 refine WL.end (NE.code (CE.seq (CE.region ?_)))
 refine WD (op_move rfl) rfl ?_
 refine WD (op_nilCheck rfl) rfl ?_
 refine WD (op_fieldAddr (off' := 1) rfl Try.runUnderlying33 rfl rfl Try.sizeOf25 rfl) rfl ?_
 refine WD (op_load1 (i := 1) rfl Try.isAgg25 q rfl rfl) rfl ?_
 refine WD (op_move rfl) rfl ?_
 refine WD (op_indexSl (off' := 0 + m * 2) rfl rfl rfl Try.runUnderlying25 Try.sizeOf60 (by omega) (by omega) (by omega)) rfl ?_
 refine WD (op_assign rfl) rfl ?_
 refine WL.end (NE.code (CE.seq (CE.region ?_)))
 refine WD (op_move rfl) rfl ?_
 refine WD (op_nilCheck rfl) rfl ?_
 refine WD (op_fieldAddr (off' := 0 + m * 2) rfl Try.runUnderlying60 rfl rfl Try.sizeOf26 rfl) rfl ?_
 refine WD (op_load1 (i := m * 2) rfl Try.isAgg26 rR rfl (olc_get0 lDR lPR (show m < nR by omega))) rfl ?_
 refine WD (op_len rfl Try.runUnderlying26) rfl ?_
 refine WD (op_assign rfl) rfl ?_
 refine WL.end (NE.code (CE.seq ?_))
 refine CE.draw (fun _ => none) [0, 1, 2, 3, 4, 5, 6, 7, 8, 9, 10, 11, 12, 13, 14, 15, 16, 17, 18, 19] [20] [] (by kernel_rfl) (by kernel_rfl) ?_
 have md1 : Mod [] w w.drew := (Mod.refl _ _).drew
 generalize w.drew = w1 at md1 ⊢
 refine DD 0 rfl (by kernel_rfl) rfl (fun wD mD => op_move rfl) ?_
 refine DD 1 rfl (by kernel_rfl) rfl (fun wD mD => op_nilCheck rfl) ?_
 refine DD 2 rfl (by kernel_rfl) rfl (fun wD mD => op_fieldAddr (off' := 0 + m * 2 + 1) rfl Try.runUnderlying60 rfl rfl Try.sizeOf2 rfl) ?_
 refine DD 3 rfl (by kernel_rfl) rfl (fun wD mD => op_load1 (i := m * 2 + 1) rfl Try.isAgg2 ((rR.ext md1).ext mD) rfl (olc_get1 lDR lPR (show m < nR by omega))) ?_
 refine DD 4 rfl (by kernel_rfl) rfl (fun wD mD => op_move rfl) ?_
 refine DD 5 rfl (by kernel_rfl) rfl (fun wD mD => op_add (r := (((GR.getD m RD.d).at_) + (((GR.getD m RD.d).xs.length : Nat) : Int))) rfl rfl (w_i64 (by omega) (by omega))) ?_
 refine DD 6 rfl (by kernel_rfl) rfl (fun wD mD => op_sub (r := ((((GR.getD m RD.d).at_) + (((GR.getD m RD.d).xs.length : Nat) : Int)) - (1 : Int))) rfl rfl (w_i64 (by omega) (by omega))) ?_
 refine DD 7 rfl (by kernel_rfl) rfl (fun wD mD => op_move rfl) ?_
 refine DD 8 rfl (by kernel_rfl) rfl (fun wD mD => op_sub (r := (((((GR.getD m RD.d).at_) + (((GR.getD m RD.d).xs.length : Nat) : Int)) - (1 : Int)) - ((pl : Nat) : Int))) rfl rfl (w_i64 (by omega) (by omega))) ?_
 refine DD 9 rfl (by kernel_rfl) rfl (fun wD mD => op_move rfl) ?_
 have hm1 : (aR + (GR.getD m RD.d).xs.length - 1 - pl) % ((GR.getD m RD.d).xs.length) < ((GR.getD m RD.d).xs.length) := Nat.mod_lt _ (by omega)
 refine DD 10 rfl (by kernel_rfl) rfl (fun wD mD => op_rem (r := (((aR + (GR.getD m RD.d).xs.length - 1 - pl) % ((GR.getD m RD.d).xs.length) : Nat) : Int)) rfl rfl (by omega) (rem_nat (by omega))) ?_
 refine DD 11 rfl (by kernel_rfl) rfl (fun wD mD => op_move rfl) ?_
 refine DD 12 rfl (by kernel_rfl) rfl (fun wD mD => op_nilCheck rfl) ?_
 refine DD 13 rfl (by kernel_rfl) rfl (fun wD mD => op_fieldAddr (off' := 0 + m * 2 + 1) rfl Try.runUnderlying60 rfl rfl Try.sizeOf2 rfl) ?_
 refine DD 14 rfl (by kernel_rfl) rfl (fun wD mD => op_load1 (i := m * 2 + 1) rfl Try.isAgg2 ((rL.ext md1).ext mD) rfl (olc_get1 lDL lPL (show m < nL by omega))) ?_
 refine DD 15 rfl (by kernel_rfl) rfl (fun wD mD => op_move rfl) ?_
 refine DD 16 rfl (by kernel_rfl) rfl (fun wD mD => op_add (r := (((GL.getD m RD.d).at_) + ((pl : Nat) : Int))) rfl rfl (w_i64 (by omega) (by omega))) ?_
 refine DD 17 rfl (by kernel_rfl) rfl (fun wD mD => op_move rfl) ?_
 have hm2 : (aL + pl) % ((GR.getD m RD.d).xs.length) < ((GR.getD m RD.d).xs.length) := Nat.mod_lt _ (by omega)
 refine DD 18 rfl (by kernel_rfl) rfl (fun wD mD => op_rem (r := (((aL + pl) % ((GR.getD m RD.d).xs.length) : Nat) : Int)) rfl rfl (by omega) (rem_nat (by omega))) ?_
 refine DD 19 rfl (by kernel_rfl) rfl (fun wD mD => op_assign rfl) ?_
 refine DR.done rfl ?_
 intro w2 m1
 refine WO.det (op_assign rfl) rfl (.free rfl) rfl rfl ?_
 refine WO.end (NE.code (CE.ret' ?_))
 refine XE.leaveT Try.results95 (res_tmp rfl (res_tmp rfl res_nil)) ?_
 refine ⟨?_, (((Mod.refl [] w).nt md1).nt m1)⟩
 all_goals simp_all

theorem c_lengthRing (n : Nat) (c : Nat) (A : Option Addr) (w : World) : Cl Try.prog 138 #[.slice A n c] w fun v w' => v = vI ((n : Nat) : Int) ∧ w = w' := by
 refine Cl.of Try.func138 Try.ntmps138 rfl rfl (ρ := [(0, .slice A n c)]) rfl ?_
 refine CE.seq (CE.region ?_)
 refine WD (op_assign rfl) rfl ?_
 refine WL.end (NE.code (CE.seq (CE.region ?_)))
 refine WD (op_move rfl) rfl ?_
 refine WD (op_len rfl Try.runUnderlying25) rfl ?_
 refine WD (op_assign rfl) rfl ?_
 refine WL.end (NE.code (CE.ret' ?_))
 refine XE.leave1 Try.results138 rfl ?_
 refine ⟨rfl, rfl⟩

theorem c_placesS (nR : Nat) (GR : List RD) (nL : Nat) (GL : List RD) (nS : Nat) (xS : List Nat) (cR : Nat) (bR : Nat) (PR : List BC) (loR : Nat) (cL : Nat) (bL : Nat) (PL : List BC) (loL : Nat) (cS : Nat) (bS : Nat) (k : Int) (kc0 : Nat) (kc1 : Nat) (kc2 : Nat) (ks0 : Nat) (ks1 : Nat) (op : Bool) (lo : Nat) (re : Nat) (sl : Nat) (m : Nat) (pl : Nat) (aR : Nat) (aL : Nat) (lDR : GR.length = nR) (lDL : GL.length = nL) (lnS : xS.length = nS) (hzR : ∀ i, (GR.getD i RD.d).xs.length ≤ 1048576) (hzL : ∀ i, (GL.getD i RD.d).xs.length ≤ 1048576) (lPR : PR.length = nR) (lPL : PL.length = nL) (mR : nR ≤ 1048576) (mL : nL ≤ 1048576) (mS : nS ≤ 1048576) (hm : m < nR) (hnn : nL = nR) (hpl : pl < (GR.getD m RD.d).xs.length) (heR : (GR.getD m RD.d).at_ = ((aR : Nat) : Int)) (heL : (GL.getD m RD.d).at_ = ((aL : Nat) : Int)) (hlR : aR < (GR.getD m RD.d).xs.length) (hlL : aL < (GL.getD m RD.d).xs.length) (w : World) (rR : Rng w bR 0 (olc GR PR)) (rL : Rng w bL 0 (olc GL PL)) (rS : Rng w bS 0 (fl xS))  (FR : OF loR w GR PR) (FL : OF loL w GL PL) : Cl Try.prog 91 #[.agg #[vS bR 0 nR cR, vS bL 0 nL cL, vS bS 0 nS cS, vI k, vF kc0, vF kc1, vF kc2, vF ks0, vF ks1, .bool op, vF lo, vF re, vF sl], vI ((m : Nat) : Int), vI ((pl : Nat) : Int)] w fun v w' => v = .tuple #[vI ((((aR + (GR.getD m RD.d).xs.length - 1 - pl) % (GR.getD m RD.d).xs.length) : Nat) : Int), vI ((((aL + pl) % (GR.getD m RD.d).xs.length) : Nat) : Int), .bool true] ∧ Mod [] w w' := by
 have hzm := hzR m
 have hzl := hzL m
 refine Cl.of Try.func91 Try.ntmps91 rfl rfl (ρ := [(0, .agg #[vS bR 0 nR cR, vS bL 0 nL cL, vS bS 0 nS cS, vI k, vF kc0, vF kc1, vF kc2, vF ks0, vF ks1, .bool op, vF lo, vF re, vF sl]), (1, vI ((m : Nat) : Int)), (2, vI ((pl : Nat) : Int))]) rfl ?_
 refine CE.seq (CE.region ?_)
 refine WL.op (op_box (cs := [vS bR 0 nR cR, vS bL 0 nL cL, vS bS 0 nS cS, vI k, vF kc0, vF kc1, vF kc2, vF ks0, vF ks1, .bool op, vF lo, vF re, vF sl]) rfl rfl) rfl rfl (ltb rfl) ?_
 rintro _ w1 ⟨rfl, r1, m1, z1⟩
 iterate 3 refine WD (op_assign rfl) rfl ?_
 refine WL.end (NE.code (CE.seq (CE.seq (CE.region ?_))))
 refine WD (op_move rfl) rfl ?_
 refine WD (op_fieldAddr (off' := 0) rfl Try.runUnderlying33 rfl rfl Try.sizeOf25 rfl) rfl ?_
 refine WD (op_load1 (i := 0) rfl Try.isAgg25 r1.rng rfl rfl) rfl ?_
 refine WL.call (oc_call (vs := [vS bR 0 nR cR]) (cap := []) rfl rfl rfl Try.call138 (c_lengthRing nR cR (some ⟨bR, 0, none⟩) w1)) rfl rfl (ltb rfl) ?_
 rintro _ _ ⟨rfl, rfl⟩
 refine WD (op_sub (r := (((nR : Nat) : Int) - (1 : Int))) rfl rfl (w_i64 (by omega) (by omega))) rfl ?_
 refine WL.call (oc_call (vs := [vI ((m : Nat) : Int), vI 0, vI (((nR : Nat) : Int) - (1 : Int))]) (cap := []) rfl rfl rfl Try.call62 (c_within ((m : Nat) : Int) (0 : Int) (((nR : Nat) : Int) - (1 : Int)) w1)) rfl rfl (ltb rfl) ?_
 rintro _ _ ⟨rfl, rfl⟩
 refine WD (op_not rfl) rfl ?_
 refine WL.end (NE.code ?_)
 refine CE.cond_f rfl (bnot_t ((vIn_t _ _ _).2 (by omega))) ?_
 refine CE.skip' (NE.code (CE.seq ?_))
 refine CE.draw (fun _ => none) [0, 1, 2, 3, 4, 5, 6, 7, 8, 9, 10, 11, 12] [13] [] (by kernel_rfl) (by kernel_rfl) ?_
 have md1 : Mod [] w1 w1.drew := (Mod.refl _ _).drew
 generalize w1.drew = w2 at md1 ⊢
 refine DD 0 rfl (by kernel_rfl) rfl (fun wD mD => op_fieldAddr (off' := 0) rfl Try.runUnderlying33 rfl rfl Try.sizeOf25 rfl) ?_
 refine DD 1 rfl (by kernel_rfl) rfl (fun wD mD => op_load1 (i := 0) rfl Try.isAgg25 ((r1.ext md1).ext mD).rng rfl rfl) ?_
 refine DD 2 rfl (by kernel_rfl) rfl (fun wD mD => op_move rfl) ?_
 refine DD 3 rfl (by kernel_rfl) rfl (fun wD mD => op_indexSl (off' := 0 + m * 2) rfl rfl rfl Try.runUnderlying25 Try.sizeOf60 (by omega) (by omega) (by omega)) ?_
 refine DD 4 rfl (by kernel_rfl) rfl (fun wD mD => op_loadA (i := m * 2) (cs := [vS ((PR.getD m BC.d).b) 0 ((GR.getD m RD.d).xs.length) ((PR.getD m BC.d).c), vI ((GR.getD m RD.d).at_)]) rfl Try.isAgg60 Try.sizeOf60 (((rR.ext m1).ext md1).ext mD) rfl (olc_at lDR lPR (show m < nR by omega)) rfl) ?_
 refine DD 5 rfl (by kernel_rfl) rfl (fun wD mD => op_fieldAddr (off' := 1) rfl Try.runUnderlying33 rfl rfl Try.sizeOf25 rfl) ?_
 refine DD 6 rfl (by kernel_rfl) rfl (fun wD mD => op_load1 (i := 1) rfl Try.isAgg25 ((r1.ext md1).ext mD).rng rfl rfl) ?_
 refine DD 7 rfl (by kernel_rfl) rfl (fun wD mD => op_move rfl) ?_
 refine DD 8 rfl (by kernel_rfl) rfl (fun wD mD => op_indexSl (off' := 0 + m * 2) rfl rfl rfl Try.runUnderlying25 Try.sizeOf60 (by omega) (by omega) (by omega)) ?_
 refine DD 9 rfl (by kernel_rfl) rfl (fun wD mD => op_loadA (i := m * 2) (cs := [vS ((PL.getD m BC.d).b) 0 ((GL.getD m RD.d).xs.length) ((PL.getD m BC.d).c), vI ((GL.getD m RD.d).at_)]) rfl Try.isAgg60 Try.sizeOf60 (((rL.ext m1).ext md1).ext mD) rfl (olc_at lDL lPL (show m < nL by omega)) rfl) ?_
 refine DR.two (i := 10) (j := 11) rfl rfl rfl rfl (by kernel_rfl) (by kernel_rfl) (by kernel_rfl) (by decide) (by decide) rfl rfl rfl rfl (ltb rfl) (ltb rfl) (fun _ _ => op_alloc (cs := [.slice none 0 0, vI 0]) Try.zeroValue60 rfl) (fun _ _ => op_alloc (cs := [.slice none 0 0, vI 0]) Try.zeroValue60 rfl) ?_
 intro b1 b2 w3 r2 r3 ge1 ge2 ne1 m2
 refine DR.st1 (i := 12) rfl rfl (by kernel_rfl) (.free rfl) rfl ?_
 intro w4 m3
 refine Op1.mono (op_store (i := 0) (cs := [vS ((PR.getD m BC.d).b) 0 ((GR.getD m RD.d).xs.length) ((PR.getD m BC.d).c), vI ((GR.getD m RD.d).at_)]) rfl rfl rfl Try.sizeOf60 rfl (r2.ext m3) rfl (lB rfl) rfl) ?_
 rintro _ w5 ⟨r4, m4, z2⟩
 have r5 : Row w5 b1 0 [vS ((PR.getD m BC.d).b) 0 ((GR.getD m RD.d).xs.length) ((PR.getD m BC.d).c), vI ((GR.getD m RD.d).at_)] := Row.congr r4 rfl
 refine ⟨((((Mod.refl [] w2).nt m2).nt m3).then m4 ((aC (.inr ge1) aN))), ?_⟩
 refine DR.done rfl ?_
 intro w6 m5
 have r6 := (((r3.ext m3).mod m4 (nC (Ne.symm ne1) nN)).ext m5)
 refine WO.op0 rfl (.free rfl) rfl (op_store (i := 0) (cs := [vS ((PL.getD m BC.d).b) 0 ((GL.getD m RD.d).xs.length) ((PL.getD m BC.d).c), vI ((GL.getD m RD.d).at_)]) rfl rfl rfl Try.sizeOf60 rfl r6 rfl (lB rfl) rfl) ?_
 rintro _ w7 ⟨r7, m6, z3⟩
 have r8 : Row w7 b2 0 [vS ((PL.getD m BC.d).b) 0 ((GL.getD m RD.d).xs.length) ((PL.getD m BC.d).c), vI ((GL.getD m RD.d).at_)] := Row.congr r7 rfl
 refine WO.end (NE.code (CE.seq (CE.region ?_)))
 refine WD (op_fieldAddr (off' := 0) rfl Try.runUnderlying60 rfl rfl Try.sizeOf26 rfl) rfl ?_
 refine WD (op_load1 (i := 0) rfl Try.isAgg26 ((r5.ext m5).mod m6 (nC ne1 nN)).rng rfl rfl) rfl ?_
 refine WL.call (oc_call (vs := [vS ((PR.getD m BC.d).b) 0 ((GR.getD m RD.d).xs.length) ((PR.getD m BC.d).c)]) (cap := []) rfl rfl rfl Try.call118 (c_length32 ((GR.getD m RD.d).xs.length) ((PR.getD m BC.d).c) (some ⟨(PR.getD m BC.d).b, 0, none⟩) w7)) rfl rfl (ltb rfl) ?_
 rintro _ _ ⟨rfl, rfl⟩
 refine WD (op_assign rfl) rfl ?_
 refine WL.end (NE.code (CE.seq (CE.seq (CE.region ?_))))
 iterate 2 refine WD (op_move rfl) rfl ?_
 refine WD (op_sub (r := (((((GR.getD m RD.d).xs.length) : Nat) : Int) - (1 : Int))) rfl rfl (w_i64 (by omega) (by omega))) rfl ?_
 refine WL.call (oc_call (vs := [vI ((pl : Nat) : Int), vI 0, vI (((((GR.getD m RD.d).xs.length) : Nat) : Int) - (1 : Int))]) (cap := []) rfl rfl rfl Try.call62 (c_within ((pl : Nat) : Int) (0 : Int) (((((GR.getD m RD.d).xs.length) : Nat) : Int) - (1 : Int)) w7)) rfl rfl (ltb rfl) ?_
 rintro _ _ ⟨rfl, rfl⟩
 refine WD (op_not rfl) rfl ?_
 refine WL.end (NE.code ?_)
 refine CE.cond_f rfl (bnot_t ((vIn_t _ _ _).2 (by omega))) ?_
 refine CE.skip' (NE.code (CE.seq ?_))
 refine CE.draw (fun _ => none) [0, 1, 2, 3, 4, 5, 6, 7, 8, 9, 10, 11, 12, 13, 14, 15, 16] [17, 18] [] (by kernel_rfl) (by kernel_rfl) ?_
 have md2 : Mod [] w7 w7.drew := (Mod.refl _ _).drew
 generalize w7.drew = w8 at md2 ⊢
 refine DD 0 rfl (by kernel_rfl) rfl (fun wD mD => op_fieldAddr (off' := 1) rfl Try.runUnderlying60 rfl rfl Try.sizeOf2 rfl) ?_
 refine DD 1 rfl (by kernel_rfl) rfl (fun wD mD => op_load1 (i := 1) rfl Try.isAgg2 ((((r5.ext m5).mod m6 (nC ne1 nN)).ext md2).ext mD).rng rfl rfl) ?_
 refine DD 2 rfl (by kernel_rfl) rfl (fun wD mD => op_sub (r := (((GR.getD m RD.d).at_) - (1 : Int))) rfl rfl (w_i64 (by omega) (by omega))) ?_
 refine DD 3 rfl (by kernel_rfl) rfl (fun wD mD => op_move rfl) ?_
 refine DD 4 rfl (by kernel_rfl) rfl (fun wD mD => op_sub (r := ((((GR.getD m RD.d).at_) - (1 : Int)) - ((pl : Nat) : Int))) rfl rfl (w_i64 (by omega) (by omega))) ?_
 refine DD 5 rfl (by kernel_rfl) rfl (fun wD mD => op_move rfl) ?_
 refine DD 6 rfl (by kernel_rfl) rfl (fun wD mD => op_mul (r := ((2 * ((GR.getD m RD.d).xs.length) : Nat) : Int)) rfl rfl (w_i64 (by omega) (by omega))) ?_
 refine DD 7 rfl (by kernel_rfl) rfl (fun wD mD => op_add (r := (((((GR.getD m RD.d).at_) - (1 : Int)) - ((pl : Nat) : Int)) + ((2 * ((GR.getD m RD.d).xs.length) : Nat) : Int))) rfl rfl (w_i64 (by omega) (by omega))) ?_
 refine DD 8 rfl (by kernel_rfl) rfl (fun wD mD => op_move rfl) ?_
 have hm1 : (aR + 2 * (GR.getD m RD.d).xs.length - 1 - pl) % ((GR.getD m RD.d).xs.length) < ((GR.getD m RD.d).xs.length) := Nat.mod_lt _ (by omega)
 refine DD 9 rfl (by kernel_rfl) rfl (fun wD mD => op_rem (r := (((aR + 2 * (GR.getD m RD.d).xs.length - 1 - pl) % ((GR.getD m RD.d).xs.length) : Nat) : Int)) rfl rfl (by omega) (rem_nat (by omega))) ?_
 refine DD 10 rfl (by kernel_rfl) rfl (fun wD mD => op_fieldAddr (off' := 1) rfl Try.runUnderlying60 rfl rfl Try.sizeOf2 rfl) ?_
 refine DD 11 rfl (by kernel_rfl) rfl (fun wD mD => op_load1 (i := 1) rfl Try.isAgg2 ((r8.ext md2).ext mD).rng rfl rfl) ?_
 refine DD 12 rfl (by kernel_rfl) rfl (fun wD mD => op_move rfl) ?_
 refine DD 13 rfl (by kernel_rfl) rfl (fun wD mD => op_add (r := (((GL.getD m RD.d).at_) + ((pl : Nat) : Int))) rfl rfl (w_i64 (by omega) (by omega))) ?_
 refine DD 14 rfl (by kernel_rfl) rfl (fun wD mD => op_move rfl) ?_
 have hm2 : (aL + pl) % ((GR.getD m RD.d).xs.length) < ((GR.getD m RD.d).xs.length) := Nat.mod_lt _ (by omega)
 refine DD 15 rfl (by kernel_rfl) rfl (fun wD mD => op_rem (r := (((aL + pl) % ((GR.getD m RD.d).xs.length) : Nat) : Int)) rfl rfl (by omega) (rem_nat (by omega))) ?_
 refine DD 16 rfl (by kernel_rfl) rfl (fun wD mD => op_assign rfl) ?_
 refine DR.done rfl ?_
 intro w9 m7
 iterate 2 refine WO.det (op_assign rfl) rfl (.free rfl) rfl rfl ?_
 refine WO.end (NE.code (CE.ret' ?_))
 refine XE.leaveT Try.results91 (res_tmp rfl (res_tmp rfl (res_tmp rfl res_nil))) ?_
 refine ⟨?_, ((((((((((Mod.refl [] w).nt m1).nt md1).nt m2).nt m3).then m4 ((aC (.inr (lT (lT m1.size md1.size) ge1)) aN))).nt m5).then m6 ((aC (.inr (lT (lT m1.size md1.size) ge2)) aN))).nt md2).nt m7)⟩
 all_goals (rw [show aR + 2 * (GR.getD m RD.d).xs.length - 1 - pl = (aR + (GR.getD m RD.d).xs.length - 1 - pl) + (GR.getD m RD.d).xs.length by omega, Nat.add_mod_right])

end Go.Proofs.Ytnahhdnkbbdceaa
