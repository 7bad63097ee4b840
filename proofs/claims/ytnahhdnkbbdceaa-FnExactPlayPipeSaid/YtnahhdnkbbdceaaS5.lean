/- What marking and looking for marks in pipes does. -/
import Derived.Test.YtnahhdnkbbdceaaS4
set_option linter.unusedVariables false
set_option linter.unusedSimpArgs false
set_option maxRecDepth 100000
set_option maxHeartbeats 8000000
namespace Go.Proofs.Ytnahhdnkbbdceaa

theorem heldL2 {D E : List RD} {q n m : Nat} (hD : D.length = n) (hE : E.length = m) : HeldL (markD E (sumK D q n) m) (sumK (markD D q n) q n) m := by
  rw [sumK_mark hD n (Nat.le_refl _)]; exact markD_held hE
theorem held2 {D E : List RD} {xs : List Nat} {q n m l : Nat} (hD : D.length = n) (hE : E.length = m) : Held (marks xs (sumK E (sumK D q n) m) l) (sumK (markD E (sumK D q n) m) (sumK (markD D q n) q n) m) l := by
  rw [sumK_mark hD n (Nat.le_refl _), sumK_mark hE m (Nat.le_refl _)]; exact marks_held _ _ _
theorem sumK_marks {D E : List RD} {q n m : Nat} (hD : D.length = n) (hE : E.length = m) : sumK (markD E (sumK D q n) m) (sumK (markD D q n) q n) m = sumK E (sumK D q n) m := by
  rw [sumK_mark hD n (Nat.le_refl _), sumK_mark hE m (Nat.le_refl _)]

theorem c_markPipe_x (nR : Nat) (GR : List RD) (nL : Nat) (GL : List RD) (nS : Nat) (xS : List Nat) (cR : Nat) (bR : Nat) (PR : List BC) (loR : Nat) (cL : Nat) (bL : Nat) (PL : List BC) (loL : Nat) (cS : Nat) (bS : Nat) (k : Int) (kc0 : Nat) (kc1 : Nat) (kc2 : Nat) (ks0 : Nat) (ks1 : Nat) (op : Bool) (lo : Nat) (re : Nat) (sl : Nat) (q : Nat) (lDR : GR.length = nR) (lDL : GL.length = nL) (lnS : xS.length = nS) (hzR : ∀ i, (GR.getD i RD.d).xs.length ≤ 1048576) (hzL : ∀ i, (GL.getD i RD.d).xs.length ≤ 1048576) (lPR : PR.length = nR) (lPL : PL.length = nL) (mR : nR ≤ 3) (mL : nL ≤ 3) (mS : nS ≤ 1048576) (hq : q ≤ 1048576) (w : World) (rR : Row w bR 0 (olc GR PR)) (rL : Row w bL 0 (olc GL PL)) (rS : Row w bS 0 (fl xS)) (eRL : bR ≠ bL) (eRS : bR ≠ bS) (eLS : bL ≠ bS)  (FR : OF loR w GR PR) (gRR : (∀ i, i < nR → (PR.getD i BC.d).b ≠ bR)) (gRL : (∀ i, i < nR → (PR.getD i BC.d).b ≠ bL)) (gRS : (∀ i, i < nR → (PR.getD i BC.d).b ≠ bS)) (gPP : (∀ i j, i < nR → j < nL → (PR.getD i BC.d).b ≠ (PL.getD j BC.d).b)) (FL : OF loL w GL PL) (gLR : (∀ i, i < nL → (PL.getD i BC.d).b ≠ bR)) (gLL : (∀ i, i < nL → (PL.getD i BC.d).b ≠ bL)) (gLS : (∀ i, i < nL → (PL.getD i BC.d).b ≠ bS)) : Cl Try.prog 29 #[.agg #[vS bR 0 nR cR, vS bL 0 nL cL, vS bS 0 nS cS, vI k, vF kc0, vF kc1, vF kc2, vF ks0, vF ks1, .bool op, vF lo, vF re, vF sl], vI ((q : Nat) : Int)] w fun v w' => v = vI ((((sumK GL (sumK GR q nR) nL) + nS) : Nat) : Int) ∧ Row w' bR 0 (olc (markD GR q nR) PR) ∧ Row w' bL 0 (olc (markD GL (sumK GR q nR) nL) PL) ∧ Row w' bS 0 (fl (marks xS (sumK GL (sumK GR q nR) nL) nS)) ∧ OF loR w' (markD GR q nR) PR ∧ OF loL w' (markD GL (sumK GR q nR) nL) PL ∧ Mod (bR :: bL :: bS :: (PR.map BC.b ++ (PL.map BC.b ++ []))) w w' := by
 have hs1 := sumK_le (k := q) hzR nR
 have hs2 := sumK_le (k := sumK GR q nR) hzL nL
 refine Cl.of Try.func29 Try.ntmps29 rfl rfl (ρ := [(0, .agg #[vS bR 0 nR cR, vS bL 0 nL cL, vS bS 0 nS cS, vI k, vF kc0, vF kc1, vF kc2, vF ks0, vF ks1, .bool op, vF lo, vF re, vF sl]), (1, vI ((q : Nat) : Int))]) rfl ?_
 refine CE.seq (CE.region ?_)
 refine WL.op (op_box (cs := [vS bR 0 nR cR, vS bL 0 nL cL, vS bS 0 nS cS, vI k, vF kc0, vF kc1, vF kc2, vF ks0, vF ks1, .bool op, vF lo, vF re, vF sl]) rfl rfl) rfl rfl (ltb rfl) ?_
 rintro _ w1 ⟨rfl, r1, m1, z1⟩
 refine WL.det (op_assign rfl) rfl rfl rfl ?_
 refine WL.end (NE.code (CE.seq (CE.region ?_)))
 refine WL.det (op_fieldAddr (off' := 0) rfl Try.runUnderlying33 rfl rfl Try.sizeOf25 rfl) rfl rfl rfl ?_
 refine WL.det (op_load1 (i := 0) rfl Try.isAgg25 r1.rng rfl rfl) rfl rfl rfl ?_
 refine WL.det (op_move rfl) rfl rfl rfl ?_
 refine WL.call (oc_call (vs := [vS bR 0 nR cR, vI ((q : Nat) : Int)]) (cap := []) rfl rfl rfl Try.call86 (c_markRingS_x nR cR bR GR PR loR q lDR lPR (by first | assumption | exact rd_small (by assumption) (by assumption) | exact markD_small (by first | assumption | exact rd_small (by assumption) (by assumption)) _) (by omega) (by omega) w1 (rR.ext m1) (FR.ext m1) (fun j hj => (gRR j hj)))) rfl rfl (ltb rfl) ?_
 rintro _ w2 ⟨rfl, r2, fm1, m2⟩
 refine WL.det (op_assign rfl) rfl rfl rfl ?_
 refine WL.end (NE.code (CE.seq (CE.region ?_)))
 refine WL.det (op_fieldAddr (off' := 1) rfl Try.runUnderlying33 rfl rfl Try.sizeOf25 rfl) rfl rfl rfl ?_
 have r3 := (r1.mod m2 (nC (lG (lL rR.lt lR)) (nA lPR (fun j hj => (lE (lL (OF.lt FR (Nat.lt_of_lt_of_eq hj lDR.symm)) lR))) nN)))
 refine WL.det (op_load1 (i := 1) rfl Try.isAgg25 r3.rng rfl rfl) rfl rfl rfl ?_
 refine WL.det (op_move rfl) rfl rfl rfl ?_
 have r4 := ((rL.ext m1).mod m2 (nC (Ne.symm eRL) (nA lPR (fun j hj => (gRL j hj)) nN)))
 refine WL.call (oc_call (vs := [vS bL 0 nL cL, vI (((sumK GR q nR) : Nat) : Int)]) (cap := []) rfl rfl rfl Try.call86 (c_markRingS_x nL cL bL GL PL loL (sumK GR q nR) lDL lPL (by first | assumption | exact rd_small (by assumption) (by assumption) | exact markD_small (by first | assumption | exact rd_small (by assumption) (by assumption)) _) (by omega) (by omega) w2 r4 ((FL.ext m1).mod m2 (fun j hj => (nC (gLR j (Nat.lt_of_lt_of_eq hj lDL)) (nA lPR (fun q hq => Ne.symm (Ne.symm (gPP q j hq (Nat.lt_of_lt_of_eq hj lDL)))) nN)))) (fun j hj => (gLL j hj)))) rfl rfl (ltb rfl) ?_
 rintro _ w3 ⟨rfl, r5, fm2, m3⟩
 refine WL.det (op_assign rfl) rfl rfl rfl ?_
 refine WL.end (NE.code (CE.seq (CE.region ?_)))
 refine WL.det (op_fieldAddr (off' := 2) rfl Try.runUnderlying33 rfl rfl Try.sizeOf26 rfl) rfl rfl rfl ?_
 have r6 := (r3.mod m3 (nC (lG (lL rL.lt lR)) (nA lPL (fun j hj => (lE (lL (OF.lt FL (Nat.lt_of_lt_of_eq hj lDL.symm)) lR))) nN)))
 refine WL.det (op_load1 (i := 2) rfl Try.isAgg26 r6.rng rfl rfl) rfl rfl rfl ?_
 refine WL.det (op_move rfl) rfl rfl rfl ?_
 have r7 := (((rS.ext m1).mod m2 (nC (Ne.symm eRS) (nA lPR (fun j hj => (gRS j hj)) nN))).mod m3 (nC (Ne.symm eLS) (nA lPL (fun j hj => (gLS j hj)) nN)))
 refine WL.call (oc_call (vs := [vS bS 0 nS cS, vI (((sumK GL (sumK GR q nR) nL) : Nat) : Int)]) (cap := []) rfl rfl rfl Try.call51 (c_mark32 nS cS (some ⟨bS, 0, none⟩) bS 0 xS (sumK GL (sumK GR q nR) nL) lnS (fun _ => rfl) (by first | assumption | omega) (by first | assumption | omega) w3 r7)) rfl rfl (ltb rfl) ?_
 rintro _ w4 ⟨rfl, r8, m4⟩
 refine WL.det (op_assign rfl) rfl rfl rfl ?_
 refine WL.end (NE.code (CE.seq (CE.region ?_)))
 refine WL.det (op_move rfl) rfl rfl rfl ?_
 refine WL.det (op_assign rfl) rfl rfl rfl ?_
 refine WL.end (NE.code (CE.ret' ?_))
 refine XE.leave1 Try.results29 rfl ?_
 have r9 := ((r2.mod m3 (nC eRL (nA lPL (fun j hj => (gLR j hj)) nN))).mod m4 (nC eRS nN))
 refine ⟨?_, r9, (r5.mod m4 (nC eLS nN)), r8, ((fm1.mod m3 (fun j hj => (nC (gRL j (Nat.lt_of_lt_of_eq hj (markD_len lDR nR))) (nA lPL (fun q hq => Ne.symm (gPP j q (Nat.lt_of_lt_of_eq hj (markD_len lDR nR)) hq)) nN)))).mod m4 (fun j hj => (nC (gRS j (Nat.lt_of_lt_of_eq hj (markD_len lDR nR))) nN))), (fm2.mod m4 (fun j hj => (nC (gLS j (Nat.lt_of_lt_of_eq hj (markD_len lDL nL))) nN))), (((((Mod.refl (bR :: bL :: bS :: (PR.map BC.b ++ (PL.map BC.b ++ []))) w).nt m1).then m2 ((aC (.inl (by simp)) (aI (fun x hx => by simp only [List.mem_cons, List.mem_append, hx, true_or, or_true]) aN)))).then m3 ((aC (.inl (by simp)) (aI (fun x hx => by simp only [List.mem_cons, List.mem_append, hx, true_or, or_true]) aN)))).then m4 ((aC (.inl (by simp)) aN)))⟩
 all_goals rfl

theorem c_heldPipe_x (nR : Nat) (GR : List RD) (nL : Nat) (GL : List RD) (nS : Nat) (xS : List Nat) (cR : Nat) (bR : Nat) (PR : List BC) (loR : Nat) (cL : Nat) (bL : Nat) (PL : List BC) (loL : Nat) (cS : Nat) (bS : Nat) (k : Int) (kc0 : Nat) (kc1 : Nat) (kc2 : Nat) (ks0 : Nat) (ks1 : Nat) (op : Bool) (lo : Nat) (re : Nat) (sl : Nat) (q : Nat) (lDR : GR.length = nR) (lDL : GL.length = nL) (lnS : xS.length = nS) (hzR : ∀ i, (GR.getD i RD.d).xs.length ≤ 1048576) (hzL : ∀ i, (GL.getD i RD.d).xs.length ≤ 1048576) (lPR : PR.length = nR) (lPL : PL.length = nL) (mR : nR ≤ 3) (mL : nL ≤ 3) (mS : nS ≤ 1048576) (hq : q ≤ 1048576) (hhR : HeldL GR q nR) (hhL : HeldL GL (sumK GR q nR) nL) (hhS : Held xS (sumK GL (sumK GR q nR) nL) nS) (w : World) (rR : Rng w bR 0 (olc GR PR)) (rL : Rng w bL 0 (olc GL PL)) (rS : Rng w bS 0 (fl xS))  (FR : OF loR w GR PR) (FL : OF loL w GL PL) : Cl Try.prog 30 #[.agg #[vS bR 0 nR cR, vS bL 0 nL cL, vS bS 0 nS cS, vI k, vF kc0, vF kc1, vF kc2, vF ks0, vF ks1, .bool op, vF lo, vF re, vF sl], vI ((q : Nat) : Int)] w fun v w' => v = vI ((((sumK GL (sumK GR q nR) nL) + nS) : Nat) : Int) ∧ Mod [] w w' := by
 have hs1 := sumK_le (k := q) hzR nR
 have hs2 := sumK_le (k := sumK GR q nR) hzL nL
 refine Cl.of Try.func30 Try.ntmps30 rfl rfl (ρ := [(0, .agg #[vS bR 0 nR cR, vS bL 0 nL cL, vS bS 0 nS cS, vI k, vF kc0, vF kc1, vF kc2, vF ks0, vF ks1, .bool op, vF lo, vF re, vF sl]), (1, vI ((q : Nat) : Int))]) rfl ?_
 refine CE.seq (CE.region ?_)
 refine WL.op (op_box (cs := [vS bR 0 nR cR, vS bL 0 nL cL, vS bS 0 nS cS, vI k, vF kc0, vF kc1, vF kc2, vF ks0, vF ks1, .bool op, vF lo, vF re, vF sl]) rfl rfl) rfl rfl (ltb rfl) ?_
 rintro _ w1 ⟨rfl, r1, m1, z1⟩
 refine WL.det (op_assign rfl) rfl rfl rfl ?_
 refine WL.end (NE.code (CE.seq (CE.region ?_)))
 refine WL.det (op_fieldAddr (off' := 0) rfl Try.runUnderlying33 rfl rfl Try.sizeOf25 rfl) rfl rfl rfl ?_
 refine WL.det (op_load1 (i := 0) rfl Try.isAgg25 r1.rng rfl rfl) rfl rfl rfl ?_
 refine WL.det (op_move rfl) rfl rfl rfl ?_
 refine WL.call (oc_call (vs := [vS bR 0 nR cR, vI ((q : Nat) : Int)]) (cap := []) rfl rfl rfl Try.call87 (c_heldRingS_x nR cR bR GR PR loR q lDR lPR (by first | assumption | exact rd_small (by assumption) (by assumption) | exact markD_small (by first | assumption | exact rd_small (by assumption) (by assumption)) _) (by omega) (by omega) (by first | assumption | exact markD_held (by assumption)) w1 (rR.ext m1) (FR.ext m1))) rfl rfl (ltb rfl) ?_
 rintro _ w2 ⟨rfl, m2⟩
 refine WL.det (op_assign rfl) rfl rfl rfl ?_
 refine WL.end (NE.code (CE.seq (CE.seq (CE.region ?_))))
 refine WL.det (op_move rfl) rfl rfl rfl ?_
 refine WL.det (op_lti_f rfl rfl (Int.not_lt.2 (Int.natCast_nonneg _))) rfl rfl rfl ?_
 refine WL.end (NE.code ?_)
 refine CE.cond_f rfl rfl ?_
 refine CE.skip' (NE.code (CE.seq (CE.region ?_)))
 refine WL.det (op_fieldAddr (off' := 1) rfl Try.runUnderlying33 rfl rfl Try.sizeOf25 rfl) rfl rfl rfl ?_
 refine WL.det (op_load1 (i := 1) rfl Try.isAgg25 (r1.ext m2).rng rfl rfl) rfl rfl rfl ?_
 refine WL.det (op_move rfl) rfl rfl rfl ?_
 refine WL.call (oc_call (vs := [vS bL 0 nL cL, vI (((sumK GR q nR) : Nat) : Int)]) (cap := []) rfl rfl rfl Try.call87 (c_heldRingS_x nL cL bL GL PL loL (sumK GR q nR) lDL lPL (by first | assumption | exact rd_small (by assumption) (by assumption) | exact markD_small (by first | assumption | exact rd_small (by assumption) (by assumption)) _) (by omega) (by omega) (by first | assumption | exact markD_held (by assumption)) w2 ((rL.ext m1).ext m2) ((FL.ext m1).ext m2))) rfl rfl (ltb rfl) ?_
 rintro _ w3 ⟨rfl, m3⟩
 refine WL.det (op_assign rfl) rfl rfl rfl ?_
 refine WL.end (NE.code (CE.seq (CE.seq (CE.region ?_))))
 refine WL.det (op_move rfl) rfl rfl rfl ?_
 refine WL.det (op_lti_f rfl rfl (Int.not_lt.2 (Int.natCast_nonneg _))) rfl rfl rfl ?_
 refine WL.end (NE.code ?_)
 refine CE.cond_f rfl rfl ?_
 refine CE.skip' (NE.code (CE.seq (CE.region ?_)))
 refine WL.det (op_fieldAddr (off' := 2) rfl Try.runUnderlying33 rfl rfl Try.sizeOf26 rfl) rfl rfl rfl ?_
 refine WL.det (op_load1 (i := 2) rfl Try.isAgg26 ((r1.ext m2).ext m3).rng rfl rfl) rfl rfl rfl ?_
 refine WL.det (op_move rfl) rfl rfl rfl ?_
 have r2 := (((rS.ext m1).ext m2).ext m3)
 refine WL.call (oc_call (vs := [vS bS 0 nS cS, vI (((sumK GL (sumK GR q nR) nL) : Nat) : Int)]) (cap := []) rfl rfl rfl Try.call52 (c_held32 nS cS (some ⟨bS, 0, none⟩) bS 0 xS (sumK GL (sumK GR q nR) nL) lnS (fun _ => rfl) (by first | assumption | omega) (by first | assumption | omega) (by first | assumption | exact marks_held _ _ _ | exact (hh _ (by omega)).1 | (rw [sumK_marks lZR lZL]; exact marks_held _ _ _)) w3 r2)) rfl rfl (ltb rfl) ?_
 rintro _ w4 ⟨rfl, m4⟩
 refine WL.det (op_assign rfl) rfl rfl rfl ?_
 refine WL.end (NE.code (CE.seq (CE.seq (CE.region ?_))))
 refine WL.det (op_move rfl) rfl rfl rfl ?_
 refine WL.det (op_lti_f rfl rfl (Int.not_lt.2 (Int.natCast_nonneg _))) rfl rfl rfl ?_
 refine WL.end (NE.code ?_)
 refine CE.cond_f rfl rfl ?_
 refine CE.skip' (NE.code (CE.seq (CE.region ?_)))
 refine WL.det (op_move rfl) rfl rfl rfl ?_
 refine WL.det (op_assign rfl) rfl rfl rfl ?_
 refine WL.end (NE.code (CE.ret' ?_))
 refine XE.leave1 Try.results30 rfl ?_
 refine ⟨?_, (((((Mod.refl [] w).nt m1).nt m2).nt m3).nt m4)⟩
 all_goals rfl

end Go.Proofs.Ytnahhdnkbbdceaa
