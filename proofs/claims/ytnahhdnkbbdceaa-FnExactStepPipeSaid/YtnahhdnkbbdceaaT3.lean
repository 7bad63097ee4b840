/- What stepping a pipe gives. -/
import Derived.Test.YtnahhdnkbbdceaaT2
set_option linter.unusedVariables false
set_option linter.unusedSimpArgs false
namespace Go.Proofs.Ytnahhdnkbbdceaa

set_option maxRecDepth 100000 in
set_option maxHeartbeats 2000000 in
theorem c_sStepP (nR : Nat) (GR : List RD) (nL : Nat) (GL : List RD) (nS : Nat) (xS : List Nat) (cR : Nat) (bR : Nat) (PR : List BC) (loR : Nat) (cL : Nat) (bL : Nat) (PL : List BC) (loL : Nat) (cS : Nat) (bS : Nat) (k : Int) (kc0 : Nat) (kc1 : Nat) (kc2 : Nat) (ks0 : Nat) (ks1 : Nat) (op : Bool) (lo : Nat) (re : Nat) (sl : Nat) (a : Nat) (ZR : List RD) (ZL : List RD) (t0 : Nat) (t1 : Nat) (ye : Nat) (lDR : GR.length = nR) (lDL : GL.length = nL) (lnS : xS.length = nS) (hzR : ∀ i, (GR.getD i RD.d).xs.length ≤ 1048576) (hzL : ∀ i, (GL.getD i RD.d).xs.length ≤ 1048576) (lPR : PR.length = nR) (lPL : PL.length = nL) (mR : nR ≤ 1048576) (mL : nL ≤ 1048576) (mS : nS ≤ 1048576) (h0n : 0 < nR) (h0m : 0 < nL) (hpR : ∀ i, i < nR → 0 < (GR.getD i RD.d).xs.length) (hpL : ∀ i, i < nL → 0 < (GL.getD i RD.d).xs.length) (hs : 1 ≤ nR ∧ nR ≤ 3 ∧ nL = nR ∧ nS + 1 = nR) (h0s : 0 < nS) (gR : GoodD GR nR) (gL : GoodD GL nL) (lks0 : ks0 < wid .f32) (lks1 : ks1 < wid .f32) (la : a < wid .f32) (hv : vPipe nR nL nS GR GL xS k kc0 kc1 kc2 ks0 ks1 lo re sl = true) (eZR : ZR = (stR GR GL xS re sl a nS)) (eZL : ZL = (endL GR GL xS op lo (stepY k kc0 kc1 kc2 ks0 ks1 (oldD GR (nR - 1))) nR nS)) (lZR : ZR.length = nR) (lZL : ZL.length = nL) (et0 : t0 = (stepS k kc0 kc1 kc2 ks0 ks1 (oldD GR (nR - 1)))) (et1 : t1 = (stepT k kc0 kc1 kc2 ks0 ks1 (oldD GR (nR - 1)))) (eye : ye = (stepY k kc0 kc1 kc2 ks0 ks1 (oldD GR (nR - 1)))) (w : World) (rR : Rng w bR 0 (olc GR PR)) (rL : Rng w bL 0 (olc GL PL)) (rS : Rng w bS 0 (fl xS))  (FR : OF loR w GR PR) (FL : OF loL w GL PL) : Cl Try.prog 47 #[.agg #[vS bR 0 nR cR, vS bL 0 nL cL, vS bS 0 nS cS, vI k, vF kc0, vF kc1, vF kc2, vF ks0, vF ks1, .bool op, vF lo, vF re, vF sl], vF a] w fun v w' => ∃ (bR' : Nat) (cR' : Nat) (PR' : List BC) (bL' : Nat) (cL' : Nat) (PL' : List BC) (bS' : Nat) (cS' : Nat) (y : Nat), v = .tuple #[.agg #[vS bR' 0 nR cR', vS bL' 0 nL cL', vS bS' 0 nS cS', vI k, vF kc0, vF kc1, vF kc2, vF t0, vF t1, .bool op, vF lo, vF re, vF sl], vF y, vI 0] ∧ (PR'.length = nR) ∧ (PL'.length = nL) ∧ (cn .f32 y = cn .f32 ye) ∧ (y < wid .f32) ∧ Row w' bR' 0 (olc ZR PR') ∧ Row w' bL' 0 (olc ZL PL') ∧ Row w' bS' 0 (fl xS) ∧ w.heap.size ≤ bR' ∧ w.heap.size ≤ bL' ∧ w.heap.size ≤ bS' ∧ bR' ≠ bL' ∧ bR' ≠ bS' ∧ bL' ≠ bS' ∧ OF w.heap.size w' ZR PR' ∧ (∀ i, i < nR → (PR'.getD i BC.d).b ≠ bR') ∧ (∀ i, i < nR → (PR'.getD i BC.d).b ≠ bL') ∧ (∀ i, i < nR → (PR'.getD i BC.d).b ≠ bS') ∧ (∀ i j, i < nR → j < nL → (PR'.getD i BC.d).b ≠ (PL'.getD j BC.d).b) ∧ OF w.heap.size w' ZL PL' ∧ (∀ i, i < nL → (PL'.getD i BC.d).b ≠ bR') ∧ (∀ i, i < nL → (PL'.getD i BC.d).b ≠ bL') ∧ (∀ i, i < nL → (PL'.getD i BC.d).b ≠ bS') ∧ Mod [] w w' := by
  refine Cl.of Try.func47 Try.ntmps47 rfl rfl (ρ := [(0, .agg #[vS bR 0 nR cR, vS bL 0 nL cL, vS bS 0 nS cS, vI k, vF kc0, vF kc1, vF kc2, vF ks0, vF ks1, .bool op, vF lo, vF re, vF sl]), (1, vF a)]) rfl ?_
  refine CE.seq ?_
  refine CE.region ?_
  refine WL.op (op_box (cs := [vS bR 0 nR cR, vS bL 0 nL cL, vS bS 0 nS cS, vI k, vF kc0, vF kc1, vF kc2, vF ks0, vF ks1, .bool op, vF lo, vF re, vF sl]) rfl rfl) rfl rfl (ltb rfl) ?_
  rintro _ w1 ⟨rfl, r1, m1, z1⟩
  refine WL.op (op_alloc (cs := [.slice none 0 0, .slice none 0 0, .slice none 0 0, vI 0, vF 0, vF 0, vF 0, vF 0, vF 0, .bool false, vF 0, vF 0, vF 0]) Try.zeroValue33 rfl) rfl rfl (ltb rfl) ?_
  rintro _ w2 ⟨rfl, r2, m2, z2⟩
  iterate 2 refine WL.det (op_assign rfl) rfl rfl rfl ?_
  refine WL.end ?_
  refine NE.code ?_
  iterate 2 refine CE.seq ?_
  refine CE.region ?_
  refine WL.call (oc_call (vs := [vP w.heap.size 0]) (cap := []) rfl rfl rfl Try.call57 (c_l04OkS nR GR nL GL nS xS cR bR PR loR cL bL PL loL cS bS k kc0 kc1 kc2 ks0 ks1 op lo re sl w.heap.size lDR lDL lnS (by first | assumption | exact rd_small (by assumption) (by assumption) | exact markD_small (by first | assumption | exact rd_small (by assumption) (by assumption)) _) (by first | assumption | exact rd_small (by assumption) (by assumption) | exact markD_small (by first | assumption | exact rd_small (by assumption) (by assumption)) _) lPR lPL (by first | assumption | omega) (by first | assumption | omega) (by first | assumption | omega) (by omega) w2 (r1.ext m2).rng ((rR.ext m1).ext m2) ((rL.ext m1).ext m2) ((rS.ext m1).ext m2) ((FR.ext m1).ext m2) ((FL.ext m1).ext m2))) rfl rfl (ltb rfl) ?_
  rintro _ w3 ⟨rfl, m3⟩
  refine WL.det (op_not rfl) rfl rfl rfl ?_
  refine WL.end ?_
  refine NE.code ?_
  refine CE.cond_f rfl (bnot_t hv) ?_
  refine CE.skip' ?_
  refine NE.code ?_
  refine CE.seq ?_
  refine CE.region ?_
  have r3 := (((rR.ext m1).ext m2).ext m3)
  have r4 := (((rL.ext m1).ext m2).ext m3)
  have r5 := (((rS.ext m1).ext m2).ext m3)
  refine WL.call (oc_call (vs := [vP w.heap.size 0]) (cap := []) rfl rfl rfl Try.call59 (c_l04CopyS nR GR nL GL nS xS cR bR PR loR cL bL PL loL cS bS k kc0 kc1 kc2 ks0 ks1 op lo re sl w.heap.size lDR lDL lnS (by first | assumption | exact rd_small (by assumption) (by assumption) | exact markD_small (by first | assumption | exact rd_small (by assumption) (by assumption)) _) (by first | assumption | exact rd_small (by assumption) (by assumption) | exact markD_small (by first | assumption | exact rd_small (by assumption) (by assumption)) _) lPR lPL (by first | assumption | omega) (by first | assumption | omega) (by first | assumption | omega) (by omega) (by omega) (by first | assumption | exact vRings_pos (by assumption)) (by first | assumption | exact vRings_pos (by assumption)) (by first | assumption | omega) w3 ((r1.ext m2).ext m3).rng r3 r4 r5 (((FR.ext m1).ext m2).ext m3) (((FL.ext m1).ext m2).ext m3))) rfl rfl (ltb rfl) ?_
  rintro _ w4 ⟨bR'1, cR'1, PR'1, bL'1, cL'1, PL'1, bS'1, cS'1, rfl, h1, h2, r6, r7, r8, ge1, ge2, ge3, ne1, ne2, ne3, fm1, fn1, fn2, fn3, fn4, fm2, fn5, fn6, fn7, m4⟩
  refine WL.op (op_alloc (cs := [.slice none 0 0, .slice none 0 0, .slice none 0 0, vI 0, vF 0, vF 0, vF 0, vF 0, vF 0, .bool false, vF 0, vF 0, vF 0]) Try.zeroValue33 rfl) rfl rfl (ltb rfl) ?_
  rintro _ w5 ⟨rfl, r9, m5, z3⟩
  refine WL.op0 (op_store (i := 0) (cs := [vS bR'1 0 nR cR'1, vS bL'1 0 nL cL'1, vS bS'1 0 nS cS'1, vI k, vF kc0, vF kc1, vF kc2, vF ks0, vF ks1, .bool op, vF lo, vF re, vF sl]) rfl rfl rfl Try.sizeOf33 rfl r9 rfl (lB rfl) rfl) rfl rfl ?_
  rintro _ w6 ⟨r10, m6, z4⟩
  have r11 : Row w6 w4.heap.size 0 [vS bR'1 0 nR cR'1, vS bL'1 0 nL cL'1, vS bS'1 0 nS cS'1, vI k, vF kc0, vF kc1, vF kc2, vF ks0, vF ks1, .bool op, vF lo, vF re, vF sl] := Row.congr r10 rfl
  refine WL.end ?_
  refine NE.code ?_
  refine CE.seq ?_
  refine CE.region ?_
  refine WL.det (op_move rfl) rfl rfl rfl ?_
  refine WL.call (oc_call (vs := [vP w4.heap.size 0, vF a]) (cap := []) rfl rfl rfl Try.call60 (c_l04Step nR GR nL GL nS xS cR'1 bR'1 PR'1 w3.heap.size cL'1 bL'1 PL'1 w3.heap.size cS'1 bS'1 k kc0 kc1 kc2 ks0 ks1 op lo re sl w4.heap.size a a lDR lDL lnS (by first | assumption | exact rd_small (by assumption) (by assumption) | exact markD_small (by first | assumption | exact rd_small (by assumption) (by assumption)) _) (by first | assumption | exact rd_small (by assumption) (by assumption) | exact markD_small (by first | assumption | exact rd_small (by assumption) (by assumption)) _) h1 h2 (by first | assumption | omega) (by first | assumption | omega) (by first | assumption | omega) (by first | assumption | omega) (by assumption) (by assumption) lks0 lks1 rfl la w6 r11 ((r6.ext m5).mod m6 (nC (lE (lL r6.lt lR)) nN)) ((r7.ext m5).mod m6 (nC (lE (lL r7.lt lR)) nN)) ((r8.ext m5).mod m6 (nC (lE (lL r8.lt lR)) nN)).rng (lG (lL r6.lt lR)) (lG (lL r7.lt lR)) (lG (lL r8.lt lR)) ne1 ne2 ne3 ((fm1.ext m5).mod m6 (fun j hj => (nC (lE (lL (OF.lt fm1 (Nat.lt_of_lt_of_eq (Nat.lt_of_lt_of_eq hj lDR) lDR.symm)) lR)) nN))) (fun j hj => (lE (lL (OF.lt fm1 (Nat.lt_of_lt_of_eq hj lDR.symm)) lR))) (fun j hj => (fn1 j hj)) (fun j hj => (fn2 j hj)) (fun j hj => (fn3 j hj)) (fun j q hj hq => (fn4 j q hj hq)) ((fm2.ext m5).mod m6 (fun j hj => (nC (lE (lL (OF.lt fm2 (Nat.lt_of_lt_of_eq (Nat.lt_of_lt_of_eq hj lDL) lDL.symm)) lR)) nN))) (fun j hj => (lE (lL (OF.lt fm2 (Nat.lt_of_lt_of_eq hj lDL.symm)) lR))) (fun j hj => (fn5 j hj)) (fun j hj => (fn6 j hj)) (fun j hj => (fn7 j hj)))) rfl rfl (ltb rfl) ?_
  rintro _ w7 ⟨y1, rfl, h3, h4, h5, h6, h7, h8, r12, r13, r14, fm3, fm4, m7⟩
  refine WL.det (op_assign rfl) rfl rfl rfl ?_
  refine WL.end ?_
  refine NE.code ?_
  refine CE.seq ?_
  refine CE.region ?_
  refine WL.det (op_loadA (i := 0) (cs := [vS bR'1 0 nR cR'1, vS bL'1 0 nL cL'1, vS bS'1 0 nS cS'1, vI k, vF kc0, vF kc1, vF kc2, vF (stepS k kc0 kc1 kc2 ks0 ks1 (oldD GR (nR - 1))), vF (stepT k kc0 kc1 kc2 ks0 ks1 (oldD GR (nR - 1))), .bool op, vF lo, vF re, vF sl]) rfl Try.isAgg33 Try.sizeOf33 r12.rng rfl rfl rfl) rfl rfl rfl ?_
  refine WL.det (op_move rfl) rfl rfl rfl ?_
  have r15 := (((((r2.ext m3).ext m4).ext m5).mod m6 (nC (lE (lL (lL r2.lt (lT m3.size m4.size)) lR)) nN)).mod m7 (nC (lE (lL (lL r2.lt (lT m3.size m4.size)) lR)) (nC (lE (lL (lL r2.lt m3.size) ge1)) (nC (lE (lL (lL r2.lt m3.size) ge2)) (nA h1 (fun j hj => (lG (lL (lL r2.lt m3.size) (fm3.ge j (Nat.lt_of_lt_of_eq hj (stR_len lDR _).symm))))) (nA h2 (fun j hj => (lG (lL (lL r2.lt m3.size) (fm4.ge j (Nat.lt_of_lt_of_eq hj (endL_len lDL).symm))))) nN))))))
  refine WL.op0 (op_store (i := 0) (cs := [vS bR'1 0 nR cR'1, vS bL'1 0 nL cL'1, vS bS'1 0 nS cS'1, vI k, vF kc0, vF kc1, vF kc2, vF (stepS k kc0 kc1 kc2 ks0 ks1 (oldD GR (nR - 1))), vF (stepT k kc0 kc1 kc2 ks0 ks1 (oldD GR (nR - 1))), .bool op, vF lo, vF re, vF sl]) rfl rfl rfl Try.sizeOf33 rfl r15 rfl (lB rfl) rfl) rfl rfl ?_
  rintro _ w8 ⟨r16, m8, z5⟩
  have r17 : Row w8 w1.heap.size 0 [vS bR'1 0 nR cR'1, vS bL'1 0 nL cL'1, vS bS'1 0 nS cS'1, vI k, vF kc0, vF kc1, vF kc2, vF (stepS k kc0 kc1 kc2 ks0 ks1 (oldD GR (nR - 1))), vF (stepT k kc0 kc1 kc2 ks0 ks1 (oldD GR (nR - 1))), .bool op, vF lo, vF re, vF sl] := Row.congr r16 rfl
  iterate 2 refine WL.det (op_assign rfl) rfl rfl rfl ?_
  refine WL.end ?_
  refine NE.code ?_
  refine CE.ret' ?_
  refine XE.leaveT Try.results47 (res_agg (cs := [vS bR'1 0 nR cR'1, vS bL'1 0 nL cL'1, vS bS'1 0 nS cS'1, vI k, vF kc0, vF kc1, vF kc2, vF (stepS k kc0 kc1 kc2 ks0 ks1 (oldD GR (nR - 1))), vF (stepT k kc0 kc1 kc2 ks0 ks1 (oldD GR (nR - 1))), .bool op, vF lo, vF re, vF sl]) rfl Try.isAgg33 Try.sizeOf33 r17.rng rfl (res_tmp rfl (res_tmp rfl res_nil))) ?_
  have r18 := ((((r8.ext m5).mod m6 (nC (lE (lL r8.lt lR)) nN)).mod m7 (nC (lE (lL r8.lt lR)) (nC (Ne.symm ne2) (nC (Ne.symm ne3) (nA h1 (fun j hj => (fn3 j hj)) (nA h2 (fun j hj => (fn7 j hj)) nN)))))).mod m8 (nC (lG (lL (lL r2.lt m3.size) ge3)) nN))
  have sz1 := (lT (lT m1.size m2.size) m3.size)
  refine ⟨bR'1, cR'1, PR'1, bL'1, cL'1, PL'1, bS'1, cS'1, y1, ?_, h1, h2, ?_, h4, (Row.congr (r13.mod m8 (nC (lG (lL (lL r2.lt m3.size) ge1)) nN)) ?_), (Row.congr (r14.mod m8 (nC (lG (lL (lL r2.lt m3.size) ge2)) nN)) ?_), r18, (lT sz1 ge1), (lT sz1 ge2), (lT sz1 ge3), ne1, ne2, ne3, (OF.congr (OF.low (fm3.mod m8 (fun j hj => (nC (lG (lL (lL r2.lt m3.size) (fm3.ge j (Nat.lt_of_lt_of_eq (Nat.lt_of_lt_of_eq hj (stR_len lDR _)) (stR_len lDR _).symm)))) nN))) sz1) (by first | (rw [eZR]; done) | (rw [eZL]; done) | (rw [eZR, fop_mul_comm .f32 a]; done) | (rw [eZL, fop_mul_comm .f32 a]; done) | (rw [eZR]; rfl) | (rw [eZL]; rfl))), (fun j hj => (fn1 j (show j < nR by omega))), (fun j hj => (fn2 j (show j < nR by omega))), (fun j hj => (fn3 j (show j < nR by omega))), (fun j q hj hq => (fn4 j q (show j < nR by omega) (show q < nL by omega))), (OF.congr (OF.low (fm4.mod m8 (fun j hj => (nC (lG (lL (lL r2.lt m3.size) (fm4.ge j (Nat.lt_of_lt_of_eq (Nat.lt_of_lt_of_eq hj (endL_len lDL)) (endL_len lDL).symm)))) nN))) sz1) (by first | (rw [eZR]; done) | (rw [eZL]; done) | (rw [eZR, fop_mul_comm .f32 a]; done) | (rw [eZL, fop_mul_comm .f32 a]; done) | (rw [eZR]; rfl) | (rw [eZL]; rfl))), (fun j hj => (fn5 j (show j < nL by omega))), (fun j hj => (fn6 j (show j < nL by omega))), (fun j hj => (fn7 j (show j < nL by omega))), (((((((((Mod.refl [] w).nt m1).nt m2).nt m3).nt m4).nt m5).then m6 ((aC (.inr (lT (lT sz1 m4.size) lR)) aN))).then m7 ((aC (.inr (lT (lT sz1 m4.size) lR)) (aC (.inr (lT sz1 ge1)) (aC (.inr (lT sz1 ge2)) (aA h1 (fun j hj => (lT sz1 (fm3.ge j (Nat.lt_of_lt_of_eq hj (stR_len lDR _).symm)))) (aA h2 (fun j hj => (lT sz1 (fm4.ge j (Nat.lt_of_lt_of_eq hj (endL_len lDL).symm)))) aN))))))).then m8 ((aC (.inr (lT m1.size lR)) aN)))⟩
  all_goals subst eZR
  all_goals subst eZL
  all_goals subst et0
  all_goals subst et1
  all_goals subst eye
  all_goals first | assumption | rfl

set_option maxRecDepth 100000 in
set_option maxHeartbeats 2000000 in
theorem c_sStepP0 (nR : Nat) (GR : List RD) (nL : Nat) (GL : List RD) (xS : List Nat) (cR : Nat) (bR : Nat) (PR : List BC) (loR : Nat) (cL : Nat) (bL : Nat) (PL : List BC) (loL : Nat) (cS : Nat) (bS : Nat) (k : Int) (kc0 : Nat) (kc1 : Nat) (kc2 : Nat) (ks0 : Nat) (ks1 : Nat) (op : Bool) (lo : Nat) (re : Nat) (sl : Nat) (a : Nat) (ZR : List RD) (ZL : List RD) (t0 : Nat) (t1 : Nat) (ye : Nat) (lDR : GR.length = nR) (lDL : GL.length = nL) (lnS : xS.length = 0) (hzR : ∀ i, (GR.getD i RD.d).xs.length ≤ 1048576) (hzL : ∀ i, (GL.getD i RD.d).xs.length ≤ 1048576) (lPR : PR.length = nR) (lPL : PL.length = nL) (mR : nR ≤ 1048576) (mL : nL ≤ 1048576) (h0n : 0 < nR) (h0m : 0 < nL) (hpR : ∀ i, i < nR → 0 < (GR.getD i RD.d).xs.length) (hpL : ∀ i, i < nL → 0 < (GL.getD i RD.d).xs.length) (hs : 1 ≤ nR ∧ nR ≤ 3 ∧ nL = nR ∧ 0 + 1 = nR) (gR : GoodD GR nR) (gL : GoodD GL nL) (lks0 : ks0 < wid .f32) (lks1 : ks1 < wid .f32) (la : a < wid .f32) (hv : vPipe nR nL 0 GR GL xS k kc0 kc1 kc2 ks0 ks1 lo re sl = true) (eZR : ZR = (stR GR GL xS re sl a 0)) (eZL : ZL = (endL GR GL xS op lo (stepY k kc0 kc1 kc2 ks0 ks1 (oldD GR (nR - 1))) nR 0)) (lZR : ZR.length = nR) (lZL : ZL.length = nL) (et0 : t0 = (stepS k kc0 kc1 kc2 ks0 ks1 (oldD GR (nR - 1)))) (et1 : t1 = (stepT k kc0 kc1 kc2 ks0 ks1 (oldD GR (nR - 1)))) (eye : ye = (stepY k kc0 kc1 kc2 ks0 ks1 (oldD GR (nR - 1)))) (w : World) (rR : Rng w bR 0 (olc GR PR)) (rL : Rng w bL 0 (olc GL PL)) (rS : Rng w bS 0 (fl xS))  (FR : OF loR w GR PR) (FL : OF loL w GL PL) : Cl Try.prog 47 #[.agg #[vS bR 0 nR cR, vS bL 0 nL cL, vS bS 0 0 cS, vI k, vF kc0, vF kc1, vF kc2, vF ks0, vF ks1, .bool op, vF lo, vF re, vF sl], vF a] w fun v w' => ∃ (bR' : Nat) (cR' : Nat) (PR' : List BC) (bL' : Nat) (cL' : Nat) (PL' : List BC) (bS' : Nat) (cS' : Nat) (y : Nat), v = .tuple #[.agg #[vS bR' 0 nR cR', vS bL' 0 nL cL', vS bS' 0 0 cS', vI k, vF kc0, vF kc1, vF kc2, vF t0, vF t1, .bool op, vF lo, vF re, vF sl], vF y, vI 0] ∧ (PR'.length = nR) ∧ (PL'.length = nL) ∧ (cn .f32 y = cn .f32 ye) ∧ (y < wid .f32) ∧ Row w' bR' 0 (olc ZR PR') ∧ Row w' bL' 0 (olc ZL PL') ∧ Row w' bS' 0 (fl xS) ∧ w.heap.size ≤ bR' ∧ w.heap.size ≤ bL' ∧ w.heap.size ≤ bS' ∧ bR' ≠ bL' ∧ bR' ≠ bS' ∧ bL' ≠ bS' ∧ OF w.heap.size w' ZR PR' ∧ (∀ i, i < nR → (PR'.getD i BC.d).b ≠ bR') ∧ (∀ i, i < nR → (PR'.getD i BC.d).b ≠ bL') ∧ (∀ i, i < nR → (PR'.getD i BC.d).b ≠ bS') ∧ (∀ i j, i < nR → j < nL → (PR'.getD i BC.d).b ≠ (PL'.getD j BC.d).b) ∧ OF w.heap.size w' ZL PL' ∧ (∀ i, i < nL → (PL'.getD i BC.d).b ≠ bR') ∧ (∀ i, i < nL → (PL'.getD i BC.d).b ≠ bL') ∧ (∀ i, i < nL → (PL'.getD i BC.d).b ≠ bS') ∧ Mod [] w w' := by
  refine Cl.of Try.func47 Try.ntmps47 rfl rfl (ρ := [(0, .agg #[vS bR 0 nR cR, vS bL 0 nL cL, vS bS 0 0 cS, vI k, vF kc0, vF kc1, vF kc2, vF ks0, vF ks1, .bool op, vF lo, vF re, vF sl]), (1, vF a)]) rfl ?_
  refine CE.seq ?_
  refine CE.region ?_
  refine WL.op (op_box (cs := [vS bR 0 nR cR, vS bL 0 nL cL, vS bS 0 0 cS, vI k, vF kc0, vF kc1, vF kc2, vF ks0, vF ks1, .bool op, vF lo, vF re, vF sl]) rfl rfl) rfl rfl (ltb rfl) ?_
  rintro _ w1 ⟨rfl, r1, m1, z1⟩
  refine WL.op (op_alloc (cs := [.slice none 0 0, .slice none 0 0, .slice none 0 0, vI 0, vF 0, vF 0, vF 0, vF 0, vF 0, .bool false, vF 0, vF 0, vF 0]) Try.zeroValue33 rfl) rfl rfl (ltb rfl) ?_
  rintro _ w2 ⟨rfl, r2, m2, z2⟩
  iterate 2 refine WL.det (op_assign rfl) rfl rfl rfl ?_
  refine WL.end ?_
  refine NE.code ?_
  iterate 2 refine CE.seq ?_
  refine CE.region ?_
  refine WL.call (oc_call (vs := [vP w.heap.size 0]) (cap := []) rfl rfl rfl Try.call57 (c_l04OkS nR GR nL GL 0 xS cR bR PR loR cL bL PL loL cS bS k kc0 kc1 kc2 ks0 ks1 op lo re sl w.heap.size lDR lDL lnS (by first | assumption | exact rd_small (by assumption) (by assumption) | exact markD_small (by first | assumption | exact rd_small (by assumption) (by assumption)) _) (by first | assumption | exact rd_small (by assumption) (by assumption) | exact markD_small (by first | assumption | exact rd_small (by assumption) (by assumption)) _) lPR lPL (by first | assumption | omega) (by first | assumption | omega) (by first | assumption | omega) (by omega) w2 (r1.ext m2).rng ((rR.ext m1).ext m2) ((rL.ext m1).ext m2) ((rS.ext m1).ext m2) ((FR.ext m1).ext m2) ((FL.ext m1).ext m2))) rfl rfl (ltb rfl) ?_
  rintro _ w3 ⟨rfl, m3⟩
  refine WL.det (op_not rfl) rfl rfl rfl ?_
  refine WL.end ?_
  refine NE.code ?_
  refine CE.cond_f rfl (bnot_t hv) ?_
  refine CE.skip' ?_
  refine NE.code ?_
  refine CE.seq ?_
  refine CE.region ?_
  have r3 := (((rR.ext m1).ext m2).ext m3)
  have r4 := (((rL.ext m1).ext m2).ext m3)
  have r5 := (((rS.ext m1).ext m2).ext m3)
  refine WL.call (oc_call (vs := [vP w.heap.size 0]) (cap := []) rfl rfl rfl Try.call59 (c_l04CopyS0 nR GR nL GL xS cR bR PR loR cL bL PL loL cS bS k kc0 kc1 kc2 ks0 ks1 op lo re sl w.heap.size lDR lDL lnS (by first | assumption | exact rd_small (by assumption) (by assumption) | exact markD_small (by first | assumption | exact rd_small (by assumption) (by assumption)) _) (by first | assumption | exact rd_small (by assumption) (by assumption) | exact markD_small (by first | assumption | exact rd_small (by assumption) (by assumption)) _) lPR lPL (by first | assumption | omega) (by first | assumption | omega) (by omega) (by omega) (by first | assumption | exact vRings_pos (by assumption)) (by first | assumption | exact vRings_pos (by assumption)) w3 ((r1.ext m2).ext m3).rng r3 r4 r5 (((FR.ext m1).ext m2).ext m3) (((FL.ext m1).ext m2).ext m3))) rfl rfl (ltb rfl) ?_
  rintro _ w4 ⟨bR'1, cR'1, PR'1, bL'1, cL'1, PL'1, bS'1, cS'1, rfl, h1, h2, r6, r7, r8, ge1, ge2, ge3, ne1, ne2, ne3, fm1, fn1, fn2, fn3, fn4, fm2, fn5, fn6, fn7, m4⟩
  refine WL.op (op_alloc (cs := [.slice none 0 0, .slice none 0 0, .slice none 0 0, vI 0, vF 0, vF 0, vF 0, vF 0, vF 0, .bool false, vF 0, vF 0, vF 0]) Try.zeroValue33 rfl) rfl rfl (ltb rfl) ?_
  rintro _ w5 ⟨rfl, r9, m5, z3⟩
  refine WL.op0 (op_store (i := 0) (cs := [vS bR'1 0 nR cR'1, vS bL'1 0 nL cL'1, vS bS'1 0 0 cS'1, vI k, vF kc0, vF kc1, vF kc2, vF ks0, vF ks1, .bool op, vF lo, vF re, vF sl]) rfl rfl rfl Try.sizeOf33 rfl r9 rfl (lB rfl) rfl) rfl rfl ?_
  rintro _ w6 ⟨r10, m6, z4⟩
  have r11 : Row w6 w4.heap.size 0 [vS bR'1 0 nR cR'1, vS bL'1 0 nL cL'1, vS bS'1 0 0 cS'1, vI k, vF kc0, vF kc1, vF kc2, vF ks0, vF ks1, .bool op, vF lo, vF re, vF sl] := Row.congr r10 rfl
  refine WL.end ?_
  refine NE.code ?_
  refine CE.seq ?_
  refine CE.region ?_
  refine WL.det (op_move rfl) rfl rfl rfl ?_
  refine WL.call (oc_call (vs := [vP w4.heap.size 0, vF a]) (cap := []) rfl rfl rfl Try.call60 (c_l04Step nR GR nL GL 0 xS cR'1 bR'1 PR'1 w3.heap.size cL'1 bL'1 PL'1 w3.heap.size cS'1 bS'1 k kc0 kc1 kc2 ks0 ks1 op lo re sl w4.heap.size a a lDR lDL lnS (by first | assumption | exact rd_small (by assumption) (by assumption) | exact markD_small (by first | assumption | exact rd_small (by assumption) (by assumption)) _) (by first | assumption | exact rd_small (by assumption) (by assumption) | exact markD_small (by first | assumption | exact rd_small (by assumption) (by assumption)) _) h1 h2 (by first | assumption | omega) (by first | assumption | omega) (by first | assumption | omega) (by first | assumption | omega) (by assumption) (by assumption) lks0 lks1 rfl la w6 r11 ((r6.ext m5).mod m6 (nC (lE (lL r6.lt lR)) nN)) ((r7.ext m5).mod m6 (nC (lE (lL r7.lt lR)) nN)) ((r8.ext m5).mod m6 (nC (lE (lL r8.lt lR)) nN)).rng (lG (lL r6.lt lR)) (lG (lL r7.lt lR)) (lG (lL r8.lt lR)) ne1 ne2 ne3 ((fm1.ext m5).mod m6 (fun j hj => (nC (lE (lL (OF.lt fm1 (Nat.lt_of_lt_of_eq (Nat.lt_of_lt_of_eq hj lDR) lDR.symm)) lR)) nN))) (fun j hj => (lE (lL (OF.lt fm1 (Nat.lt_of_lt_of_eq hj lDR.symm)) lR))) (fun j hj => (fn1 j hj)) (fun j hj => (fn2 j hj)) (fun j hj => (fn3 j hj)) (fun j q hj hq => (fn4 j q hj hq)) ((fm2.ext m5).mod m6 (fun j hj => (nC (lE (lL (OF.lt fm2 (Nat.lt_of_lt_of_eq (Nat.lt_of_lt_of_eq hj lDL) lDL.symm)) lR)) nN))) (fun j hj => (lE (lL (OF.lt fm2 (Nat.lt_of_lt_of_eq hj lDL.symm)) lR))) (fun j hj => (fn5 j hj)) (fun j hj => (fn6 j hj)) (fun j hj => (fn7 j hj)))) rfl rfl (ltb rfl) ?_
  rintro _ w7 ⟨y1, rfl, h3, h4, h5, h6, h7, h8, r12, r13, r14, fm3, fm4, m7⟩
  refine WL.det (op_assign rfl) rfl rfl rfl ?_
  refine WL.end ?_
  refine NE.code ?_
  refine CE.seq ?_
  refine CE.region ?_
  refine WL.det (op_loadA (i := 0) (cs := [vS bR'1 0 nR cR'1, vS bL'1 0 nL cL'1, vS bS'1 0 0 cS'1, vI k, vF kc0, vF kc1, vF kc2, vF (stepS k kc0 kc1 kc2 ks0 ks1 (oldD GR (nR - 1))), vF (stepT k kc0 kc1 kc2 ks0 ks1 (oldD GR (nR - 1))), .bool op, vF lo, vF re, vF sl]) rfl Try.isAgg33 Try.sizeOf33 r12.rng rfl rfl rfl) rfl rfl rfl ?_
  refine WL.det (op_move rfl) rfl rfl rfl ?_
  have r15 := (((((r2.ext m3).ext m4).ext m5).mod m6 (nC (lE (lL (lL r2.lt (lT m3.size m4.size)) lR)) nN)).mod m7 (nC (lE (lL (lL r2.lt (lT m3.size m4.size)) lR)) (nC (lE (lL (lL r2.lt m3.size) ge1)) (nC (lE (lL (lL r2.lt m3.size) ge2)) (nA h1 (fun j hj => (lG (lL (lL r2.lt m3.size) (fm3.ge j (Nat.lt_of_lt_of_eq hj (stR_len lDR _).symm))))) (nA h2 (fun j hj => (lG (lL (lL r2.lt m3.size) (fm4.ge j (Nat.lt_of_lt_of_eq hj (endL_len lDL).symm))))) nN))))))
  refine WL.op0 (op_store (i := 0) (cs := [vS bR'1 0 nR cR'1, vS bL'1 0 nL cL'1, vS bS'1 0 0 cS'1, vI k, vF kc0, vF kc1, vF kc2, vF (stepS k kc0 kc1 kc2 ks0 ks1 (oldD GR (nR - 1))), vF (stepT k kc0 kc1 kc2 ks0 ks1 (oldD GR (nR - 1))), .bool op, vF lo, vF re, vF sl]) rfl rfl rfl Try.sizeOf33 rfl r15 rfl (lB rfl) rfl) rfl rfl ?_
  rintro _ w8 ⟨r16, m8, z5⟩
  have r17 : Row w8 w1.heap.size 0 [vS bR'1 0 nR cR'1, vS bL'1 0 nL cL'1, vS bS'1 0 0 cS'1, vI k, vF kc0, vF kc1, vF kc2, vF (stepS k kc0 kc1 kc2 ks0 ks1 (oldD GR (nR - 1))), vF (stepT k kc0 kc1 kc2 ks0 ks1 (oldD GR (nR - 1))), .bool op, vF lo, vF re, vF sl] := Row.congr r16 rfl
  iterate 2 refine WL.det (op_assign rfl) rfl rfl rfl ?_
  refine WL.end ?_
  refine NE.code ?_
  refine CE.ret' ?_
  refine XE.leaveT Try.results47 (res_agg (cs := [vS bR'1 0 nR cR'1, vS bL'1 0 nL cL'1, vS bS'1 0 0 cS'1, vI k, vF kc0, vF kc1, vF kc2, vF (stepS k kc0 kc1 kc2 ks0 ks1 (oldD GR (nR - 1))), vF (stepT k kc0 kc1 kc2 ks0 ks1 (oldD GR (nR - 1))), .bool op, vF lo, vF re, vF sl]) rfl Try.isAgg33 Try.sizeOf33 r17.rng rfl (res_tmp rfl (res_tmp rfl res_nil))) ?_
  have r18 := ((((r8.ext m5).mod m6 (nC (lE (lL r8.lt lR)) nN)).mod m7 (nC (lE (lL r8.lt lR)) (nC (Ne.symm ne2) (nC (Ne.symm ne3) (nA h1 (fun j hj => (fn3 j hj)) (nA h2 (fun j hj => (fn7 j hj)) nN)))))).mod m8 (nC (lG (lL (lL r2.lt m3.size) ge3)) nN))
  have sz1 := (lT (lT m1.size m2.size) m3.size)
  refine ⟨bR'1, cR'1, PR'1, bL'1, cL'1, PL'1, bS'1, cS'1, y1, ?_, h1, h2, ?_, h4, (Row.congr (r13.mod m8 (nC (lG (lL (lL r2.lt m3.size) ge1)) nN)) ?_), (Row.congr (r14.mod m8 (nC (lG (lL (lL r2.lt m3.size) ge2)) nN)) ?_), r18, (lT sz1 ge1), (lT sz1 ge2), (lT sz1 ge3), ne1, ne2, ne3, (OF.congr (OF.low (fm3.mod m8 (fun j hj => (nC (lG (lL (lL r2.lt m3.size) (fm3.ge j (Nat.lt_of_lt_of_eq (Nat.lt_of_lt_of_eq hj (stR_len lDR _)) (stR_len lDR _).symm)))) nN))) sz1) (by first | (rw [eZR]; done) | (rw [eZL]; done) | (rw [eZR, fop_mul_comm .f32 a]; done) | (rw [eZL, fop_mul_comm .f32 a]; done) | (rw [eZR]; rfl) | (rw [eZL]; rfl))), (fun j hj => (fn1 j (show j < nR by omega))), (fun j hj => (fn2 j (show j < nR by omega))), (fun j hj => (fn3 j (show j < nR by omega))), (fun j q hj hq => (fn4 j q (show j < nR by omega) (show q < nL by omega))), (OF.congr (OF.low (fm4.mod m8 (fun j hj => (nC (lG (lL (lL r2.lt m3.size) (fm4.ge j (Nat.lt_of_lt_of_eq (Nat.lt_of_lt_of_eq hj (endL_len lDL)) (endL_len lDL).symm)))) nN))) sz1) (by first | (rw [eZR]; done) | (rw [eZL]; done) | (rw [eZR, fop_mul_comm .f32 a]; done) | (rw [eZL, fop_mul_comm .f32 a]; done) | (rw [eZR]; rfl) | (rw [eZL]; rfl))), (fun j hj => (fn5 j (show j < nL by omega))), (fun j hj => (fn6 j (show j < nL by omega))), (fun j hj => (fn7 j (show j < nL by omega))), (((((((((Mod.refl [] w).nt m1).nt m2).nt m3).nt m4).nt m5).then m6 ((aC (.inr (lT (lT sz1 m4.size) lR)) aN))).then m7 ((aC (.inr (lT (lT sz1 m4.size) lR)) (aC (.inr (lT sz1 ge1)) (aC (.inr (lT sz1 ge2)) (aA h1 (fun j hj => (lT sz1 (fm3.ge j (Nat.lt_of_lt_of_eq hj (stR_len lDR _).symm)))) (aA h2 (fun j hj => (lT sz1 (fm4.ge j (Nat.lt_of_lt_of_eq hj (endL_len lDL).symm)))) aN))))))).then m8 ((aC (.inr (lT m1.size lR)) aN)))⟩
  all_goals subst eZR
  all_goals subst eZL
  all_goals subst et0
  all_goals subst et1
  all_goals subst eye
  all_goals first | assumption | rfl

set_option maxRecDepth 100000 in
set_option maxHeartbeats 2000000 in
theorem c_sStepP_bad (nR : Nat) (GR : List RD) (nL : Nat) (GL : List RD) (nS : Nat) (xS : List Nat) (cR : Nat) (bR : Nat) (PR : List BC) (loR : Nat) (cL : Nat) (bL : Nat) (PL : List BC) (loL : Nat) (cS : Nat) (bS : Nat) (k : Int) (kc0 : Nat) (kc1 : Nat) (kc2 : Nat) (ks0 : Nat) (ks1 : Nat) (op : Bool) (lo : Nat) (re : Nat) (sl : Nat) (a : Nat) (lDR : GR.length = nR) (lDL : GL.length = nL) (lnS : xS.length = nS) (hzR : ∀ i, (GR.getD i RD.d).xs.length ≤ 1048576) (hzL : ∀ i, (GL.getD i RD.d).xs.length ≤ 1048576) (lPR : PR.length = nR) (lPL : PL.length = nL) (mR : nR ≤ 1048576) (mL : nL ≤ 1048576) (mS : nS ≤ 1048576) (hs : 1 ≤ nR ∧ nR ≤ 3 ∧ nL = nR ∧ nS + 1 = nR) (hv : vPipe nR nL nS GR GL xS k kc0 kc1 kc2 ks0 ks1 lo re sl = false) (w : World) (rR : Rng w bR 0 (olc GR PR)) (rL : Rng w bL 0 (olc GL PL)) (rS : Rng w bS 0 (fl xS))  (FR : OF loR w GR PR) (FL : OF loL w GL PL) : Cl Try.prog 47 #[.agg #[vS bR 0 nR cR, vS bL 0 nL cL, vS bS 0 nS cS, vI k, vF kc0, vF kc1, vF kc2, vF ks0, vF ks1, .bool op, vF lo, vF re, vF sl], vF a] w fun v w' => v = .tuple #[.agg #[.slice none 0 0, .slice none 0 0, .slice none 0 0, vI 0, vF 0, vF 0, vF 0, vF 0, vF 0, .bool false, vF 0, vF 0, vF 0], vF 0, vI 1] ∧ Mod [] w w' := by
  refine Cl.of Try.func47 Try.ntmps47 rfl rfl (ρ := [(0, .agg #[vS bR 0 nR cR, vS bL 0 nL cL, vS bS 0 nS cS, vI k, vF kc0, vF kc1, vF kc2, vF ks0, vF ks1, .bool op, vF lo, vF re, vF sl]), (1, vF a)]) rfl ?_
  refine CE.seq ?_
  refine CE.region ?_
  refine WL.op (op_box (cs := [vS bR 0 nR cR, vS bL 0 nL cL, vS bS 0 nS cS, vI k, vF kc0, vF kc1, vF kc2, vF ks0, vF ks1, .bool op, vF lo, vF re, vF sl]) rfl rfl) rfl rfl (ltb rfl) ?_
  rintro _ w1 ⟨rfl, r1, m1, z1⟩
  refine WL.op (op_alloc (cs := [.slice none 0 0, .slice none 0 0, .slice none 0 0, vI 0, vF 0, vF 0, vF 0, vF 0, vF 0, .bool false, vF 0, vF 0, vF 0]) Try.zeroValue33 rfl) rfl rfl (ltb rfl) ?_
  rintro _ w2 ⟨rfl, r2, m2, z2⟩
  iterate 2 refine WL.det (op_assign rfl) rfl rfl rfl ?_
  refine WL.end ?_
  refine NE.code ?_
  iterate 2 refine CE.seq ?_
  refine CE.region ?_
  refine WL.call (oc_call (vs := [vP w.heap.size 0]) (cap := []) rfl rfl rfl Try.call57 (c_l04OkS nR GR nL GL nS xS cR bR PR loR cL bL PL loL cS bS k kc0 kc1 kc2 ks0 ks1 op lo re sl w.heap.size lDR lDL lnS (by first | assumption | exact rd_small (by assumption) (by assumption) | exact markD_small (by first | assumption | exact rd_small (by assumption) (by assumption)) _) (by first | assumption | exact rd_small (by assumption) (by assumption) | exact markD_small (by first | assumption | exact rd_small (by assumption) (by assumption)) _) lPR lPL (by first | assumption | omega) (by first | assumption | omega) (by first | assumption | omega) (by omega) w2 (r1.ext m2).rng ((rR.ext m1).ext m2) ((rL.ext m1).ext m2) ((rS.ext m1).ext m2) ((FR.ext m1).ext m2) ((FL.ext m1).ext m2))) rfl rfl (ltb rfl) ?_
  rintro _ w3 ⟨rfl, m3⟩
  refine WL.det (op_not rfl) rfl rfl rfl ?_
  refine WL.end ?_
  refine NE.code ?_
  refine CE.cond_t rfl (bnot_f hv) ?_
  refine CE.seq ?_
  refine CE.region ?_
  refine WL.det (op_build (qs := []) (cells := #[.slice none 0 0, .slice none 0 0, .slice none 0 0, vI 0, vF 0, vF 0, vF 0, vF 0, vF 0, .bool false, vF 0, vF 0, vF 0]) rfl (by kernel_rfl)) rfl rfl rfl ?_
  refine WL.op0 (op_store (i := 0) (cs := [.slice none 0 0, .slice none 0 0, .slice none 0 0, vI 0, vF 0, vF 0, vF 0, vF 0, vF 0, .bool false, vF 0, vF 0, vF 0]) rfl rfl rfl Try.sizeOf33 rfl (r2.ext m3) rfl (lB rfl) rfl) rfl rfl ?_
  rintro _ w4 ⟨r3, m4, z3⟩
  have r4 : Row w4 w1.heap.size 0 [.slice none 0 0, .slice none 0 0, .slice none 0 0, vI 0, vF 0, vF 0, vF 0, vF 0, vF 0, .bool false, vF 0, vF 0, vF 0] := Row.congr r3 rfl
  iterate 2 refine WL.det (op_assign rfl) rfl rfl rfl ?_
  refine WL.end ?_
  refine NE.code ?_
  refine CE.ret' ?_
  refine XE.ret_then ?_
  refine XE.leaveT Try.results47 (res_agg (cs := [.slice none 0 0, .slice none 0 0, .slice none 0 0, vI 0, vF 0, vF 0, vF 0, vF 0, vF 0, .bool false, vF 0, vF 0, vF 0]) rfl Try.isAgg33 Try.sizeOf33 r4.rng rfl (res_tmp rfl (res_tmp rfl res_nil))) ?_
  refine ⟨rfl, (((((Mod.refl [] w).nt m1).nt m2).nt m3).then m4 ((aC (.inr (lT m1.size lR)) aN)))⟩

set_option maxRecDepth 100000 in
set_option maxHeartbeats 2000000 in
theorem c_sStepP_shape (nR : Nat) (cR : Nat) (AR : Option Addr) (nL : Nat) (cL : Nat) (AL : Option Addr) (nS : Nat) (cS : Nat) (AS : Option Addr) (k : Int) (kc0 : Nat) (kc1 : Nat) (kc2 : Nat) (ks0 : Nat) (ks1 : Nat) (op : Bool) (lo : Nat) (re : Nat) (sl : Nat) (a : Nat) (hv : ¬ (1 ≤ nR ∧ nR ≤ 3 ∧ nL = nR ∧ nS + 1 = nR)) (mR : nR ≤ 1048576) (mL : nL ≤ 1048576) (mS : nS ≤ 1048576) (w : World) : Cl Try.prog 47 #[.agg #[.slice AR nR cR, .slice AL nL cL, .slice AS nS cS, vI k, vF kc0, vF kc1, vF kc2, vF ks0, vF ks1, .bool op, vF lo, vF re, vF sl], vF a] w fun v w' => v = .tuple #[.agg #[.slice none 0 0, .slice none 0 0, .slice none 0 0, vI 0, vF 0, vF 0, vF 0, vF 0, vF 0, .bool false, vF 0, vF 0, vF 0], vF 0, vI 1] ∧ Mod [] w w' := by
  refine Cl.of Try.func47 Try.ntmps47 rfl rfl (ρ := [(0, .agg #[.slice AR nR cR, .slice AL nL cL, .slice AS nS cS, vI k, vF kc0, vF kc1, vF kc2, vF ks0, vF ks1, .bool op, vF lo, vF re, vF sl]), (1, vF a)]) rfl ?_
  refine CE.seq ?_
  refine CE.region ?_
  refine WL.op (op_box (cs := [.slice AR nR cR, .slice AL nL cL, .slice AS nS cS, vI k, vF kc0, vF kc1, vF kc2, vF ks0, vF ks1, .bool op, vF lo, vF re, vF sl]) rfl rfl) rfl rfl (ltb rfl) ?_
  rintro _ w1 ⟨rfl, r1, m1, z1⟩
  refine WL.op (op_alloc (cs := [.slice none 0 0, .slice none 0 0, .slice none 0 0, vI 0, vF 0, vF 0, vF 0, vF 0, vF 0, .bool false, vF 0, vF 0, vF 0]) Try.zeroValue33 rfl) rfl rfl (ltb rfl) ?_
  rintro _ w2 ⟨rfl, r2, m2, z2⟩
  iterate 2 refine WL.det (op_assign rfl) rfl rfl rfl ?_
  refine WL.end ?_
  refine NE.code ?_
  iterate 2 refine CE.seq ?_
  refine CE.region ?_
  refine WL.call (oc_call (vs := [vP w.heap.size 0]) (cap := []) rfl rfl rfl Try.call57 (c_l04Ok_bad nR cR AR nL cL AL nS cS AS k kc0 kc1 kc2 ks0 ks1 op lo re sl w.heap.size (by omega) (by first | assumption | omega) (by first | assumption | omega) (by first | assumption | omega) w2 (r1.ext m2).rng)) rfl rfl (ltb rfl) ?_
  rintro _ w3 ⟨rfl, m3⟩
  refine WL.det (op_not rfl) rfl rfl rfl ?_
  refine WL.end ?_
  refine NE.code ?_
  refine CE.cond_t rfl rfl ?_
  refine CE.seq ?_
  refine CE.region ?_
  refine WL.det (op_build (qs := []) (cells := #[.slice none 0 0, .slice none 0 0, .slice none 0 0, vI 0, vF 0, vF 0, vF 0, vF 0, vF 0, .bool false, vF 0, vF 0, vF 0]) rfl (by kernel_rfl)) rfl rfl rfl ?_
  refine WL.op0 (op_store (i := 0) (cs := [.slice none 0 0, .slice none 0 0, .slice none 0 0, vI 0, vF 0, vF 0, vF 0, vF 0, vF 0, .bool false, vF 0, vF 0, vF 0]) rfl rfl rfl Try.sizeOf33 rfl (r2.ext m3) rfl (lB rfl) rfl) rfl rfl ?_
  rintro _ w4 ⟨r3, m4, z3⟩
  have r4 : Row w4 w1.heap.size 0 [.slice none 0 0, .slice none 0 0, .slice none 0 0, vI 0, vF 0, vF 0, vF 0, vF 0, vF 0, .bool false, vF 0, vF 0, vF 0] := Row.congr r3 rfl
  iterate 2 refine WL.det (op_assign rfl) rfl rfl rfl ?_
  refine WL.end ?_
  refine NE.code ?_
  refine CE.ret' ?_
  refine XE.ret_then ?_
  refine XE.leaveT Try.results47 (res_agg (cs := [.slice none 0 0, .slice none 0 0, .slice none 0 0, vI 0, vF 0, vF 0, vF 0, vF 0, vF 0, .bool false, vF 0, vF 0, vF 0]) rfl Try.isAgg33 Try.sizeOf33 r4.rng rfl (res_tmp rfl (res_tmp rfl res_nil))) ?_
  refine ⟨rfl, (((((Mod.refl [] w).nt m1).nt m2).nt m3).then m4 ((aC (.inr (lT m1.size lR)) aN)))⟩

set_option maxRecDepth 100000 in
set_option maxHeartbeats 2000000 in
theorem c_iStepP (nR : Nat) (GR : List RD) (nL : Nat) (GL : List RD) (nS : Nat) (xS : List Nat) (cR : Nat) (bR : Nat) (PR : List BC) (loR : Nat) (cL : Nat) (bL : Nat) (PL : List BC) (loL : Nat) (cS : Nat) (bS : Nat) (k : Int) (kc0 : Nat) (kc1 : Nat) (kc2 : Nat) (ks0 : Nat) (ks1 : Nat) (op : Bool) (lo : Nat) (re : Nat) (sl : Nat) (a : Nat) (ZR : List RD) (ZL : List RD) (t0 : Nat) (t1 : Nat) (ye : Nat) (lDR : GR.length = nR) (lDL : GL.length = nL) (lnS : xS.length = nS) (hzR : ∀ i, (GR.getD i RD.d).xs.length ≤ 1048576) (hzL : ∀ i, (GL.getD i RD.d).xs.length ≤ 1048576) (lPR : PR.length = nR) (lPL : PL.length = nL) (mR : nR ≤ 1048576) (mL : nL ≤ 1048576) (mS : nS ≤ 1048576) (h0n : 0 < nR) (h0m : 0 < nL) (hpR : ∀ i, i < nR → 0 < (GR.getD i RD.d).xs.length) (hpL : ∀ i, i < nL → 0 < (GL.getD i RD.d).xs.length) (hs : 1 ≤ nR ∧ nR ≤ 3 ∧ nL = nR ∧ nS + 1 = nR) (h0s : 0 < nS) (gR : GoodD GR nR) (gL : GoodD GL nL) (lks0 : ks0 < wid .f32) (lks1 : ks1 < wid .f32) (la : a < wid .f32) (hv : vPipe nR nL nS GR GL xS k kc0 kc1 kc2 ks0 ks1 lo re sl = true) (eZR : ZR = (stR GR GL xS re sl a nS)) (eZL : ZL = (endL GR GL xS op lo (stepY k kc0 kc1 kc2 ks0 ks1 (oldD GR (nR - 1))) nR nS)) (lZR : ZR.length = nR) (lZL : ZL.length = nL) (et0 : t0 = (stepS k kc0 kc1 kc2 ks0 ks1 (oldD GR (nR - 1)))) (et1 : t1 = (stepT k kc0 kc1 kc2 ks0 ks1 (oldD GR (nR - 1)))) (eye : ye = (stepY k kc0 kc1 kc2 ks0 ks1 (oldD GR (nR - 1)))) (w : World) (rR : Rng w bR 0 (olc GR PR)) (rL : Rng w bL 0 (olc GL PL)) (rS : Rng w bS 0 (fl xS))  (FR : OF loR w GR PR) (FL : OF loL w GL PL) : Cl Try.prog 46 #[.agg #[vS bR 0 nR cR, vS bL 0 nL cL, vS bS 0 nS cS, vI k, vF kc0, vF kc1, vF kc2, vF ks0, vF ks1, .bool op, vF lo, vF re, vF sl], vF a] w fun v w' => ∃ (bR' : Nat) (cR' : Nat) (PR' : List BC) (bL' : Nat) (cL' : Nat) (PL' : List BC) (bS' : Nat) (cS' : Nat) (y : Nat), v = .tuple #[.agg #[vS bR' 0 nR cR', vS bL' 0 nL cL', vS bS' 0 nS cS', vI k, vF kc0, vF kc1, vF kc2, vF t0, vF t1, .bool op, vF lo, vF re, vF sl], vF y, vI 0] ∧ (PR'.length = nR) ∧ (PL'.length = nL) ∧ (cn .f32 y = cn .f32 ye) ∧ (y < wid .f32) ∧ Row w' bR' 0 (olc ZR PR') ∧ Row w' bL' 0 (olc ZL PL') ∧ Row w' bS' 0 (fl xS) ∧ w.heap.size ≤ bR' ∧ w.heap.size ≤ bL' ∧ w.heap.size ≤ bS' ∧ bR' ≠ bL' ∧ bR' ≠ bS' ∧ bL' ≠ bS' ∧ OF w.heap.size w' ZR PR' ∧ (∀ i, i < nR → (PR'.getD i BC.d).b ≠ bR') ∧ (∀ i, i < nR → (PR'.getD i BC.d).b ≠ bL') ∧ (∀ i, i < nR → (PR'.getD i BC.d).b ≠ bS') ∧ (∀ i j, i < nR → j < nL → (PR'.getD i BC.d).b ≠ (PL'.getD j BC.d).b) ∧ OF w.heap.size w' ZL PL' ∧ (∀ i, i < nL → (PL'.getD i BC.d).b ≠ bR') ∧ (∀ i, i < nL → (PL'.getD i BC.d).b ≠ bL') ∧ (∀ i, i < nL → (PL'.getD i BC.d).b ≠ bS') ∧ Mod [] w w' := by
  refine Cl.of Try.func46 Try.ntmps46 rfl rfl (ρ := [(0, .agg #[vS bR 0 nR cR, vS bL 0 nL cL, vS bS 0 nS cS, vI k, vF kc0, vF kc1, vF kc2, vF ks0, vF ks1, .bool op, vF lo, vF re, vF sl]), (1, vF a)]) rfl ?_
  refine CE.seq ?_
  refine CE.region ?_
  refine WL.op (op_box (cs := [vS bR 0 nR cR, vS bL 0 nL cL, vS bS 0 nS cS, vI k, vF kc0, vF kc1, vF kc2, vF ks0, vF ks1, .bool op, vF lo, vF re, vF sl]) rfl rfl) rfl rfl (ltb rfl) ?_
  rintro _ w1 ⟨rfl, r1, m1, z1⟩
  refine WL.op (op_alloc (cs := [.slice none 0 0, .slice none 0 0, .slice none 0 0, vI 0, vF 0, vF 0, vF 0, vF 0, vF 0, .bool false, vF 0, vF 0, vF 0]) Try.zeroValue33 rfl) rfl rfl (ltb rfl) ?_
  rintro _ w2 ⟨rfl, r2, m2, z2⟩
  iterate 2 refine WL.det (op_assign rfl) rfl rfl rfl ?_
  refine WL.end ?_
  refine NE.code ?_
  iterate 2 refine CE.seq ?_
  refine CE.region ?_
  refine WL.det (op_loadA (i := 0) (cs := [vS bR 0 nR cR, vS bL 0 nL cL, vS bS 0 nS cS, vI k, vF kc0, vF kc1, vF kc2, vF ks0, vF ks1, .bool op, vF lo, vF re, vF sl]) rfl Try.isAgg33 Try.sizeOf33 (r1.ext m2).rng rfl rfl rfl) rfl rfl rfl ?_
  refine WL.call (oc_call (vs := [.agg #[vS bR 0 nR cR, vS bL 0 nL cL, vS bS 0 nS cS, vI k, vF kc0, vF kc1, vF kc2, vF ks0, vF ks1, .bool op, vF lo, vF re, vF sl]]) (cap := []) rfl rfl rfl Try.call44 (c_ValidPipeS nR GR nL GL nS xS cR bR PR loR cL bL PL loL cS bS k kc0 kc1 kc2 ks0 ks1 op lo re sl lDR lDL lnS (by first | assumption | exact rd_small (by assumption) (by assumption) | exact markD_small (by first | assumption | exact rd_small (by assumption) (by assumption)) _) (by first | assumption | exact rd_small (by assumption) (by assumption) | exact markD_small (by first | assumption | exact rd_small (by assumption) (by assumption)) _) lPR lPL (by first | assumption | omega) (by first | assumption | omega) (by first | assumption | omega) (by omega) w2 ((rR.ext m1).ext m2) ((rL.ext m1).ext m2) ((rS.ext m1).ext m2) ((FR.ext m1).ext m2) ((FL.ext m1).ext m2))) rfl rfl (ltb rfl) ?_
  rintro _ w3 ⟨rfl, m3⟩
  refine WL.det (op_not rfl) rfl rfl rfl ?_
  refine WL.end ?_
  refine NE.code ?_
  refine CE.cond_f rfl (bnot_t hv) ?_
  refine CE.skip' ?_
  refine NE.code ?_
  refine CE.seq ?_
  refine CE.region ?_
  refine WL.det (op_loadA (i := 0) (cs := [vS bR 0 nR cR, vS bL 0 nL cL, vS bS 0 nS cS, vI k, vF kc0, vF kc1, vF kc2, vF ks0, vF ks1, .bool op, vF lo, vF re, vF sl]) rfl Try.isAgg33 Try.sizeOf33 ((r1.ext m2).ext m3).rng rfl rfl rfl) rfl rfl rfl ?_
  have r3 := (((rR.ext m1).ext m2).ext m3)
  have r4 := (((rL.ext m1).ext m2).ext m3)
  have r5 := (((rS.ext m1).ext m2).ext m3)
  refine WL.call (oc_call (vs := [.agg #[vS bR 0 nR cR, vS bL 0 nL cL, vS bS 0 nS cS, vI k, vF kc0, vF kc1, vF kc2, vF ks0, vF ks1, .bool op, vF lo, vF re, vF sl]]) (cap := []) rfl rfl rfl Try.call63 (c_clonePipeS nR GR nL GL nS xS cR bR PR loR cL bL PL loL cS bS k kc0 kc1 kc2 ks0 ks1 op lo re sl lDR lDL lnS (by first | assumption | exact rd_small (by assumption) (by assumption) | exact markD_small (by first | assumption | exact rd_small (by assumption) (by assumption)) _) (by first | assumption | exact rd_small (by assumption) (by assumption) | exact markD_small (by first | assumption | exact rd_small (by assumption) (by assumption)) _) lPR lPL (by first | assumption | omega) (by first | assumption | omega) (by first | assumption | omega) (by omega) (by omega) (by first | assumption | exact vRings_pos (by assumption)) (by first | assumption | exact vRings_pos (by assumption)) (by first | assumption | omega) w3 r3 r4 r5 (((FR.ext m1).ext m2).ext m3) (((FL.ext m1).ext m2).ext m3))) rfl rfl (ltb rfl) ?_
  rintro _ w4 ⟨bR'1, cR'1, PR'1, bL'1, cL'1, PL'1, bS'1, cS'1, rfl, h1, h2, r6, r7, r8, ge1, ge2, ge3, ne1, ne2, ne3, fm1, fn1, fn2, fn3, fn4, fm2, fn5, fn6, fn7, m4⟩
  have r9 := (((r1.ext m2).ext m3).ext m4)
  refine WL.op0 (op_store (i := 0) (cs := [vS bR'1 0 nR cR'1, vS bL'1 0 nL cL'1, vS bS'1 0 nS cS'1, vI k, vF kc0, vF kc1, vF kc2, vF ks0, vF ks1, .bool op, vF lo, vF re, vF sl]) rfl rfl rfl Try.sizeOf33 rfl r9 rfl (lB rfl) rfl) rfl rfl ?_
  rintro _ w5 ⟨r10, m5, z3⟩
  have r11 : Row w5 w.heap.size 0 [vS bR'1 0 nR cR'1, vS bL'1 0 nL cL'1, vS bS'1 0 nS cS'1, vI k, vF kc0, vF kc1, vF kc2, vF ks0, vF ks1, .bool op, vF lo, vF re, vF sl] := Row.congr r10 rfl
  refine WL.end ?_
  refine NE.code ?_
  refine CE.seq ?_
  refine CE.region ?_
  refine WL.det (op_move rfl) rfl rfl rfl ?_
  have r12 := (r6.mod m5 (nC (lG (lL (lL r1.lt (lT m2.size m3.size)) ge1)) nN))
  have r13 := (r7.mod m5 (nC (lG (lL (lL r1.lt (lT m2.size m3.size)) ge2)) nN))
  have r14 := (r8.mod m5 (nC (lG (lL (lL r1.lt (lT m2.size m3.size)) ge3)) nN))
  refine WL.call (oc_call (vs := [vP w.heap.size 0, vF a]) (cap := []) rfl rfl rfl Try.call69 (c_pipeStep nR GR nL GL nS xS cR'1 bR'1 PR'1 w3.heap.size cL'1 bL'1 PL'1 w3.heap.size cS'1 bS'1 k kc0 kc1 kc2 ks0 ks1 op lo re sl w.heap.size a a lDR lDL lnS (by first | assumption | exact rd_small (by assumption) (by assumption) | exact markD_small (by first | assumption | exact rd_small (by assumption) (by assumption)) _) (by first | assumption | exact rd_small (by assumption) (by assumption) | exact markD_small (by first | assumption | exact rd_small (by assumption) (by assumption)) _) h1 h2 (by first | assumption | omega) (by first | assumption | omega) (by first | assumption | omega) (by first | assumption | omega) (by assumption) (by assumption) lks0 lks1 rfl la w5 r11 r12 r13 r14.rng (lE (lL (lL r1.lt (lT m2.size m3.size)) ge1)) (lE (lL (lL r1.lt (lT m2.size m3.size)) ge2)) (lE (lL (lL r1.lt (lT m2.size m3.size)) ge3)) ne1 ne2 ne3 (fm1.mod m5 (fun j hj => (nC (lG (lL (lL r1.lt (lT m2.size m3.size)) (fm1.ge j (Nat.lt_of_lt_of_eq (Nat.lt_of_lt_of_eq hj lDR) lDR.symm)))) nN))) (fun j hj => (lG (lL (lL r1.lt (lT m2.size m3.size)) (fm1.ge j (Nat.lt_of_lt_of_eq hj lDR.symm))))) (fun j hj => (fn1 j hj)) (fun j hj => (fn2 j hj)) (fun j hj => (fn3 j hj)) (fun j q hj hq => (fn4 j q hj hq)) (fm2.mod m5 (fun j hj => (nC (lG (lL (lL r1.lt (lT m2.size m3.size)) (fm2.ge j (Nat.lt_of_lt_of_eq (Nat.lt_of_lt_of_eq hj lDL) lDL.symm)))) nN))) (fun j hj => (lG (lL (lL r1.lt (lT m2.size m3.size)) (fm2.ge j (Nat.lt_of_lt_of_eq hj lDL.symm))))) (fun j hj => (fn5 j hj)) (fun j hj => (fn6 j hj)) (fun j hj => (fn7 j hj)))) rfl rfl (ltb rfl) ?_
  rintro _ w6 ⟨y1, rfl, h3, h4, h5, h6, h7, h8, r15, r16, r17, fm3, fm4, m6⟩
  refine WL.det (op_assign rfl) rfl rfl rfl ?_
  refine WL.end ?_
  refine NE.code ?_
  refine CE.seq ?_
  refine CE.region ?_
  refine WL.det (op_loadA (i := 0) (cs := [vS bR'1 0 nR cR'1, vS bL'1 0 nL cL'1, vS bS'1 0 nS cS'1, vI k, vF kc0, vF kc1, vF kc2, vF (stepS k kc0 kc1 kc2 ks0 ks1 (oldD GR (nR - 1))), vF (stepT k kc0 kc1 kc2 ks0 ks1 (oldD GR (nR - 1))), .bool op, vF lo, vF re, vF sl]) rfl Try.isAgg33 Try.sizeOf33 r15.rng rfl rfl rfl) rfl rfl rfl ?_
  refine WL.det (op_move rfl) rfl rfl rfl ?_
  have r18 := ((((r2.ext m3).ext m4).mod m5 (nC (lG (lL r1.lt lR)) nN)).mod m6 (nC (lG (lL r1.lt lR)) (nC (lE (lL (lL r2.lt m3.size) ge1)) (nC (lE (lL (lL r2.lt m3.size) ge2)) (nA h1 (fun j hj => (lG (lL (lL r2.lt m3.size) (fm3.ge j (Nat.lt_of_lt_of_eq hj (stR_len lDR _).symm))))) (nA h2 (fun j hj => (lG (lL (lL r2.lt m3.size) (fm4.ge j (Nat.lt_of_lt_of_eq hj (endL_len lDL).symm))))) nN))))))
  refine WL.op0 (op_store (i := 0) (cs := [vS bR'1 0 nR cR'1, vS bL'1 0 nL cL'1, vS bS'1 0 nS cS'1, vI k, vF kc0, vF kc1, vF kc2, vF (stepS k kc0 kc1 kc2 ks0 ks1 (oldD GR (nR - 1))), vF (stepT k kc0 kc1 kc2 ks0 ks1 (oldD GR (nR - 1))), .bool op, vF lo, vF re, vF sl]) rfl rfl rfl Try.sizeOf33 rfl r18 rfl (lB rfl) rfl) rfl rfl ?_
  rintro _ w7 ⟨r19, m7, z4⟩
  have r20 : Row w7 w1.heap.size 0 [vS bR'1 0 nR cR'1, vS bL'1 0 nL cL'1, vS bS'1 0 nS cS'1, vI k, vF kc0, vF kc1, vF kc2, vF (stepS k kc0 kc1 kc2 ks0 ks1 (oldD GR (nR - 1))), vF (stepT k kc0 kc1 kc2 ks0 ks1 (oldD GR (nR - 1))), .bool op, vF lo, vF re, vF sl] := Row.congr r19 rfl
  iterate 2 refine WL.det (op_assign rfl) rfl rfl rfl ?_
  refine WL.end ?_
  refine NE.code ?_
  refine CE.ret' ?_
  refine XE.leaveT Try.results46 (res_agg (cs := [vS bR'1 0 nR cR'1, vS bL'1 0 nL cL'1, vS bS'1 0 nS cS'1, vI k, vF kc0, vF kc1, vF kc2, vF (stepS k kc0 kc1 kc2 ks0 ks1 (oldD GR (nR - 1))), vF (stepT k kc0 kc1 kc2 ks0 ks1 (oldD GR (nR - 1))), .bool op, vF lo, vF re, vF sl]) rfl Try.isAgg33 Try.sizeOf33 r20.rng rfl (res_tmp rfl (res_tmp rfl res_nil))) ?_
  have r21 := ((r14.mod m6 (nC (lG (lL (lL r1.lt (lT m2.size m3.size)) ge3)) (nC (Ne.symm ne2) (nC (Ne.symm ne3) (nA h1 (fun j hj => (fn3 j hj)) (nA h2 (fun j hj => (fn7 j hj)) nN)))))).mod m7 (nC (lG (lL (lL r2.lt m3.size) ge3)) nN))
  have sz1 := (lT (lT m1.size m2.size) m3.size)
  refine ⟨bR'1, cR'1, PR'1, bL'1, cL'1, PL'1, bS'1, cS'1, y1, ?_, h1, h2, ?_, h4, (Row.congr (r16.mod m7 (nC (lG (lL (lL r2.lt m3.size) ge1)) nN)) ?_), (Row.congr (r17.mod m7 (nC (lG (lL (lL r2.lt m3.size) ge2)) nN)) ?_), r21, (lT sz1 ge1), (lT sz1 ge2), (lT sz1 ge3), ne1, ne2, ne3, (OF.congr (OF.low (fm3.mod m7 (fun j hj => (nC (lG (lL (lL r2.lt m3.size) (fm3.ge j (Nat.lt_of_lt_of_eq (Nat.lt_of_lt_of_eq hj (stR_len lDR _)) (stR_len lDR _).symm)))) nN))) sz1) (by first | (rw [eZR]; done) | (rw [eZL]; done) | (rw [eZR, fop_mul_comm .f32 a]; done) | (rw [eZL, fop_mul_comm .f32 a]; done) | (rw [eZR]; rfl) | (rw [eZL]; rfl))), (fun j hj => (fn1 j (show j < nR by omega))), (fun j hj => (fn2 j (show j < nR by omega))), (fun j hj => (fn3 j (show j < nR by omega))), (fun j q hj hq => (fn4 j q (show j < nR by omega) (show q < nL by omega))), (OF.congr (OF.low (fm4.mod m7 (fun j hj => (nC (lG (lL (lL r2.lt m3.size) (fm4.ge j (Nat.lt_of_lt_of_eq (Nat.lt_of_lt_of_eq hj (endL_len lDL)) (endL_len lDL).symm)))) nN))) sz1) (by first | (rw [eZR]; done) | (rw [eZL]; done) | (rw [eZR, fop_mul_comm .f32 a]; done) | (rw [eZL, fop_mul_comm .f32 a]; done) | (rw [eZR]; rfl) | (rw [eZL]; rfl))), (fun j hj => (fn5 j (show j < nL by omega))), (fun j hj => (fn6 j (show j < nL by omega))), (fun j hj => (fn7 j (show j < nL by omega))), ((((((((Mod.refl [] w).nt m1).nt m2).nt m3).nt m4).then m5 ((aC (.inr lR) aN))).then m6 ((aC (.inr lR) (aC (.inr (lT sz1 ge1)) (aC (.inr (lT sz1 ge2)) (aA h1 (fun j hj => (lT sz1 (fm3.ge j (Nat.lt_of_lt_of_eq hj (stR_len lDR _).symm)))) (aA h2 (fun j hj => (lT sz1 (fm4.ge j (Nat.lt_of_lt_of_eq hj (endL_len lDL).symm)))) aN))))))).then m7 ((aC (.inr (lT m1.size lR)) aN)))⟩
  all_goals subst eZR
  all_goals subst eZL
  all_goals subst et0
  all_goals subst et1
  all_goals subst eye
  all_goals first | assumption | rfl

set_option maxRecDepth 100000 in
set_option maxHeartbeats 2000000 in
theorem c_iStepP0 (nR : Nat) (GR : List RD) (nL : Nat) (GL : List RD) (xS : List Nat) (cR : Nat) (bR : Nat) (PR : List BC) (loR : Nat) (cL : Nat) (bL : Nat) (PL : List BC) (loL : Nat) (cS : Nat) (bS : Nat) (k : Int) (kc0 : Nat) (kc1 : Nat) (kc2 : Nat) (ks0 : Nat) (ks1 : Nat) (op : Bool) (lo : Nat) (re : Nat) (sl : Nat) (a : Nat) (ZR : List RD) (ZL : List RD) (t0 : Nat) (t1 : Nat) (ye : Nat) (lDR : GR.length = nR) (lDL : GL.length = nL) (lnS : xS.length = 0) (hzR : ∀ i, (GR.getD i RD.d).xs.length ≤ 1048576) (hzL : ∀ i, (GL.getD i RD.d).xs.length ≤ 1048576) (lPR : PR.length = nR) (lPL : PL.length = nL) (mR : nR ≤ 1048576) (mL : nL ≤ 1048576) (h0n : 0 < nR) (h0m : 0 < nL) (hpR : ∀ i, i < nR → 0 < (GR.getD i RD.d).xs.length) (hpL : ∀ i, i < nL → 0 < (GL.getD i RD.d).xs.length) (hs : 1 ≤ nR ∧ nR ≤ 3 ∧ nL = nR ∧ 0 + 1 = nR) (gR : GoodD GR nR) (gL : GoodD GL nL) (lks0 : ks0 < wid .f32) (lks1 : ks1 < wid .f32) (la : a < wid .f32) (hv : vPipe nR nL 0 GR GL xS k kc0 kc1 kc2 ks0 ks1 lo re sl = true) (eZR : ZR = (stR GR GL xS re sl a 0)) (eZL : ZL = (endL GR GL xS op lo (stepY k kc0 kc1 kc2 ks0 ks1 (oldD GR (nR - 1))) nR 0)) (lZR : ZR.length = nR) (lZL : ZL.length = nL) (et0 : t0 = (stepS k kc0 kc1 kc2 ks0 ks1 (oldD GR (nR - 1)))) (et1 : t1 = (stepT k kc0 kc1 kc2 ks0 ks1 (oldD GR (nR - 1)))) (eye : ye = (stepY k kc0 kc1 kc2 ks0 ks1 (oldD GR (nR - 1)))) (w : World) (rR : Rng w bR 0 (olc GR PR)) (rL : Rng w bL 0 (olc GL PL)) (rS : Rng w bS 0 (fl xS))  (FR : OF loR w GR PR) (FL : OF loL w GL PL) : Cl Try.prog 46 #[.agg #[vS bR 0 nR cR, vS bL 0 nL cL, vS bS 0 0 cS, vI k, vF kc0, vF kc1, vF kc2, vF ks0, vF ks1, .bool op, vF lo, vF re, vF sl], vF a] w fun v w' => ∃ (bR' : Nat) (cR' : Nat) (PR' : List BC) (bL' : Nat) (cL' : Nat) (PL' : List BC) (bS' : Nat) (cS' : Nat) (y : Nat), v = .tuple #[.agg #[vS bR' 0 nR cR', vS bL' 0 nL cL', vS bS' 0 0 cS', vI k, vF kc0, vF kc1, vF kc2, vF t0, vF t1, .bool op, vF lo, vF re, vF sl], vF y, vI 0] ∧ (PR'.length = nR) ∧ (PL'.length = nL) ∧ (cn .f32 y = cn .f32 ye) ∧ (y < wid .f32) ∧ Row w' bR' 0 (olc ZR PR') ∧ Row w' bL' 0 (olc ZL PL') ∧ Row w' bS' 0 (fl xS) ∧ w.heap.size ≤ bR' ∧ w.heap.size ≤ bL' ∧ w.heap.size ≤ bS' ∧ bR' ≠ bL' ∧ bR' ≠ bS' ∧ bL' ≠ bS' ∧ OF w.heap.size w' ZR PR' ∧ (∀ i, i < nR → (PR'.getD i BC.d).b ≠ bR') ∧ (∀ i, i < nR → (PR'.getD i BC.d).b ≠ bL') ∧ (∀ i, i < nR → (PR'.getD i BC.d).b ≠ bS') ∧ (∀ i j, i < nR → j < nL → (PR'.getD i BC.d).b ≠ (PL'.getD j BC.d).b) ∧ OF w.heap.size w' ZL PL' ∧ (∀ i, i < nL → (PL'.getD i BC.d).b ≠ bR') ∧ (∀ i, i < nL → (PL'.getD i BC.d).b ≠ bL') ∧ (∀ i, i < nL → (PL'.getD i BC.d).b ≠ bS') ∧ Mod [] w w' := by
  refine Cl.of Try.func46 Try.ntmps46 rfl rfl (ρ := [(0, .agg #[vS bR 0 nR cR, vS bL 0 nL cL, vS bS 0 0 cS, vI k, vF kc0, vF kc1, vF kc2, vF ks0, vF ks1, .bool op, vF lo, vF re, vF sl]), (1, vF a)]) rfl ?_
  refine CE.seq ?_
  refine CE.region ?_
  refine WL.op (op_box (cs := [vS bR 0 nR cR, vS bL 0 nL cL, vS bS 0 0 cS, vI k, vF kc0, vF kc1, vF kc2, vF ks0, vF ks1, .bool op, vF lo, vF re, vF sl]) rfl rfl) rfl rfl (ltb rfl) ?_
  rintro _ w1 ⟨rfl, r1, m1, z1⟩
  refine WL.op (op_alloc (cs := [.slice none 0 0, .slice none 0 0, .slice none 0 0, vI 0, vF 0, vF 0, vF 0, vF 0, vF 0, .bool false, vF 0, vF 0, vF 0]) Try.zeroValue33 rfl) rfl rfl (ltb rfl) ?_
  rintro _ w2 ⟨rfl, r2, m2, z2⟩
  iterate 2 refine WL.det (op_assign rfl) rfl rfl rfl ?_
  refine WL.end ?_
  refine NE.code ?_
  iterate 2 refine CE.seq ?_
  refine CE.region ?_
  refine WL.det (op_loadA (i := 0) (cs := [vS bR 0 nR cR, vS bL 0 nL cL, vS bS 0 0 cS, vI k, vF kc0, vF kc1, vF kc2, vF ks0, vF ks1, .bool op, vF lo, vF re, vF sl]) rfl Try.isAgg33 Try.sizeOf33 (r1.ext m2).rng rfl rfl rfl) rfl rfl rfl ?_
  refine WL.call (oc_call (vs := [.agg #[vS bR 0 nR cR, vS bL 0 nL cL, vS bS 0 0 cS, vI k, vF kc0, vF kc1, vF kc2, vF ks0, vF ks1, .bool op, vF lo, vF re, vF sl]]) (cap := []) rfl rfl rfl Try.call44 (c_ValidPipeS nR GR nL GL 0 xS cR bR PR loR cL bL PL loL cS bS k kc0 kc1 kc2 ks0 ks1 op lo re sl lDR lDL lnS (by first | assumption | exact rd_small (by assumption) (by assumption) | exact markD_small (by first | assumption | exact rd_small (by assumption) (by assumption)) _) (by first | assumption | exact rd_small (by assumption) (by assumption) | exact markD_small (by first | assumption | exact rd_small (by assumption) (by assumption)) _) lPR lPL (by first | assumption | omega) (by first | assumption | omega) (by first | assumption | omega) (by omega) w2 ((rR.ext m1).ext m2) ((rL.ext m1).ext m2) ((rS.ext m1).ext m2) ((FR.ext m1).ext m2) ((FL.ext m1).ext m2))) rfl rfl (ltb rfl) ?_
  rintro _ w3 ⟨rfl, m3⟩
  refine WL.det (op_not rfl) rfl rfl rfl ?_
  refine WL.end ?_
  refine NE.code ?_
  refine CE.cond_f rfl (bnot_t hv) ?_
  refine CE.skip' ?_
  refine NE.code ?_
  refine CE.seq ?_
  refine CE.region ?_
  refine WL.det (op_loadA (i := 0) (cs := [vS bR 0 nR cR, vS bL 0 nL cL, vS bS 0 0 cS, vI k, vF kc0, vF kc1, vF kc2, vF ks0, vF ks1, .bool op, vF lo, vF re, vF sl]) rfl Try.isAgg33 Try.sizeOf33 ((r1.ext m2).ext m3).rng rfl rfl rfl) rfl rfl rfl ?_
  have r3 := (((rR.ext m1).ext m2).ext m3)
  have r4 := (((rL.ext m1).ext m2).ext m3)
  have r5 := (((rS.ext m1).ext m2).ext m3)
  refine WL.call (oc_call (vs := [.agg #[vS bR 0 nR cR, vS bL 0 nL cL, vS bS 0 0 cS, vI k, vF kc0, vF kc1, vF kc2, vF ks0, vF ks1, .bool op, vF lo, vF re, vF sl]]) (cap := []) rfl rfl rfl Try.call63 (c_clonePipeS0 nR GR nL GL xS cR bR PR loR cL bL PL loL cS bS k kc0 kc1 kc2 ks0 ks1 op lo re sl lDR lDL lnS (by first | assumption | exact rd_small (by assumption) (by assumption) | exact markD_small (by first | assumption | exact rd_small (by assumption) (by assumption)) _) (by first | assumption | exact rd_small (by assumption) (by assumption) | exact markD_small (by first | assumption | exact rd_small (by assumption) (by assumption)) _) lPR lPL (by first | assumption | omega) (by first | assumption | omega) (by omega) (by omega) (by first | assumption | exact vRings_pos (by assumption)) (by first | assumption | exact vRings_pos (by assumption)) w3 r3 r4 r5 (((FR.ext m1).ext m2).ext m3) (((FL.ext m1).ext m2).ext m3))) rfl rfl (ltb rfl) ?_
  rintro _ w4 ⟨bR'1, cR'1, PR'1, bL'1, cL'1, PL'1, bS'1, cS'1, rfl, h1, h2, r6, r7, r8, ge1, ge2, ge3, ne1, ne2, ne3, fm1, fn1, fn2, fn3, fn4, fm2, fn5, fn6, fn7, m4⟩
  have r9 := (((r1.ext m2).ext m3).ext m4)
  refine WL.op0 (op_store (i := 0) (cs := [vS bR'1 0 nR cR'1, vS bL'1 0 nL cL'1, vS bS'1 0 0 cS'1, vI k, vF kc0, vF kc1, vF kc2, vF ks0, vF ks1, .bool op, vF lo, vF re, vF sl]) rfl rfl rfl Try.sizeOf33 rfl r9 rfl (lB rfl) rfl) rfl rfl ?_
  rintro _ w5 ⟨r10, m5, z3⟩
  have r11 : Row w5 w.heap.size 0 [vS bR'1 0 nR cR'1, vS bL'1 0 nL cL'1, vS bS'1 0 0 cS'1, vI k, vF kc0, vF kc1, vF kc2, vF ks0, vF ks1, .bool op, vF lo, vF re, vF sl] := Row.congr r10 rfl
  refine WL.end ?_
  refine NE.code ?_
  refine CE.seq ?_
  refine CE.region ?_
  refine WL.det (op_move rfl) rfl rfl rfl ?_
  have r12 := (r6.mod m5 (nC (lG (lL (lL r1.lt (lT m2.size m3.size)) ge1)) nN))
  have r13 := (r7.mod m5 (nC (lG (lL (lL r1.lt (lT m2.size m3.size)) ge2)) nN))
  have r14 := (r8.mod m5 (nC (lG (lL (lL r1.lt (lT m2.size m3.size)) ge3)) nN))
  refine WL.call (oc_call (vs := [vP w.heap.size 0, vF a]) (cap := []) rfl rfl rfl Try.call69 (c_pipeStep nR GR nL GL 0 xS cR'1 bR'1 PR'1 w3.heap.size cL'1 bL'1 PL'1 w3.heap.size cS'1 bS'1 k kc0 kc1 kc2 ks0 ks1 op lo re sl w.heap.size a a lDR lDL lnS (by first | assumption | exact rd_small (by assumption) (by assumption) | exact markD_small (by first | assumption | exact rd_small (by assumption) (by assumption)) _) (by first | assumption | exact rd_small (by assumption) (by assumption) | exact markD_small (by first | assumption | exact rd_small (by assumption) (by assumption)) _) h1 h2 (by first | assumption | omega) (by first | assumption | omega) (by first | assumption | omega) (by first | assumption | omega) (by assumption) (by assumption) lks0 lks1 rfl la w5 r11 r12 r13 r14.rng (lE (lL (lL r1.lt (lT m2.size m3.size)) ge1)) (lE (lL (lL r1.lt (lT m2.size m3.size)) ge2)) (lE (lL (lL r1.lt (lT m2.size m3.size)) ge3)) ne1 ne2 ne3 (fm1.mod m5 (fun j hj => (nC (lG (lL (lL r1.lt (lT m2.size m3.size)) (fm1.ge j (Nat.lt_of_lt_of_eq (Nat.lt_of_lt_of_eq hj lDR) lDR.symm)))) nN))) (fun j hj => (lG (lL (lL r1.lt (lT m2.size m3.size)) (fm1.ge j (Nat.lt_of_lt_of_eq hj lDR.symm))))) (fun j hj => (fn1 j hj)) (fun j hj => (fn2 j hj)) (fun j hj => (fn3 j hj)) (fun j q hj hq => (fn4 j q hj hq)) (fm2.mod m5 (fun j hj => (nC (lG (lL (lL r1.lt (lT m2.size m3.size)) (fm2.ge j (Nat.lt_of_lt_of_eq (Nat.lt_of_lt_of_eq hj lDL) lDL.symm)))) nN))) (fun j hj => (lG (lL (lL r1.lt (lT m2.size m3.size)) (fm2.ge j (Nat.lt_of_lt_of_eq hj lDL.symm))))) (fun j hj => (fn5 j hj)) (fun j hj => (fn6 j hj)) (fun j hj => (fn7 j hj)))) rfl rfl (ltb rfl) ?_
  rintro _ w6 ⟨y1, rfl, h3, h4, h5, h6, h7, h8, r15, r16, r17, fm3, fm4, m6⟩
  refine WL.det (op_assign rfl) rfl rfl rfl ?_
  refine WL.end ?_
  refine NE.code ?_
  refine CE.seq ?_
  refine CE.region ?_
  refine WL.det (op_loadA (i := 0) (cs := [vS bR'1 0 nR cR'1, vS bL'1 0 nL cL'1, vS bS'1 0 0 cS'1, vI k, vF kc0, vF kc1, vF kc2, vF (stepS k kc0 kc1 kc2 ks0 ks1 (oldD GR (nR - 1))), vF (stepT k kc0 kc1 kc2 ks0 ks1 (oldD GR (nR - 1))), .bool op, vF lo, vF re, vF sl]) rfl Try.isAgg33 Try.sizeOf33 r15.rng rfl rfl rfl) rfl rfl rfl ?_
  refine WL.det (op_move rfl) rfl rfl rfl ?_
  have r18 := ((((r2.ext m3).ext m4).mod m5 (nC (lG (lL r1.lt lR)) nN)).mod m6 (nC (lG (lL r1.lt lR)) (nC (lE (lL (lL r2.lt m3.size) ge1)) (nC (lE (lL (lL r2.lt m3.size) ge2)) (nA h1 (fun j hj => (lG (lL (lL r2.lt m3.size) (fm3.ge j (Nat.lt_of_lt_of_eq hj (stR_len lDR _).symm))))) (nA h2 (fun j hj => (lG (lL (lL r2.lt m3.size) (fm4.ge j (Nat.lt_of_lt_of_eq hj (endL_len lDL).symm))))) nN))))))
  refine WL.op0 (op_store (i := 0) (cs := [vS bR'1 0 nR cR'1, vS bL'1 0 nL cL'1, vS bS'1 0 0 cS'1, vI k, vF kc0, vF kc1, vF kc2, vF (stepS k kc0 kc1 kc2 ks0 ks1 (oldD GR (nR - 1))), vF (stepT k kc0 kc1 kc2 ks0 ks1 (oldD GR (nR - 1))), .bool op, vF lo, vF re, vF sl]) rfl rfl rfl Try.sizeOf33 rfl r18 rfl (lB rfl) rfl) rfl rfl ?_
  rintro _ w7 ⟨r19, m7, z4⟩
  have r20 : Row w7 w1.heap.size 0 [vS bR'1 0 nR cR'1, vS bL'1 0 nL cL'1, vS bS'1 0 0 cS'1, vI k, vF kc0, vF kc1, vF kc2, vF (stepS k kc0 kc1 kc2 ks0 ks1 (oldD GR (nR - 1))), vF (stepT k kc0 kc1 kc2 ks0 ks1 (oldD GR (nR - 1))), .bool op, vF lo, vF re, vF sl] := Row.congr r19 rfl
  iterate 2 refine WL.det (op_assign rfl) rfl rfl rfl ?_
  refine WL.end ?_
  refine NE.code ?_
  refine CE.ret' ?_
  refine XE.leaveT Try.results46 (res_agg (cs := [vS bR'1 0 nR cR'1, vS bL'1 0 nL cL'1, vS bS'1 0 0 cS'1, vI k, vF kc0, vF kc1, vF kc2, vF (stepS k kc0 kc1 kc2 ks0 ks1 (oldD GR (nR - 1))), vF (stepT k kc0 kc1 kc2 ks0 ks1 (oldD GR (nR - 1))), .bool op, vF lo, vF re, vF sl]) rfl Try.isAgg33 Try.sizeOf33 r20.rng rfl (res_tmp rfl (res_tmp rfl res_nil))) ?_
  have r21 := ((r14.mod m6 (nC (lG (lL (lL r1.lt (lT m2.size m3.size)) ge3)) (nC (Ne.symm ne2) (nC (Ne.symm ne3) (nA h1 (fun j hj => (fn3 j hj)) (nA h2 (fun j hj => (fn7 j hj)) nN)))))).mod m7 (nC (lG (lL (lL r2.lt m3.size) ge3)) nN))
  have sz1 := (lT (lT m1.size m2.size) m3.size)
  refine ⟨bR'1, cR'1, PR'1, bL'1, cL'1, PL'1, bS'1, cS'1, y1, ?_, h1, h2, ?_, h4, (Row.congr (r16.mod m7 (nC (lG (lL (lL r2.lt m3.size) ge1)) nN)) ?_), (Row.congr (r17.mod m7 (nC (lG (lL (lL r2.lt m3.size) ge2)) nN)) ?_), r21, (lT sz1 ge1), (lT sz1 ge2), (lT sz1 ge3), ne1, ne2, ne3, (OF.congr (OF.low (fm3.mod m7 (fun j hj => (nC (lG (lL (lL r2.lt m3.size) (fm3.ge j (Nat.lt_of_lt_of_eq (Nat.lt_of_lt_of_eq hj (stR_len lDR _)) (stR_len lDR _).symm)))) nN))) sz1) (by first | (rw [eZR]; done) | (rw [eZL]; done) | (rw [eZR, fop_mul_comm .f32 a]; done) | (rw [eZL, fop_mul_comm .f32 a]; done) | (rw [eZR]; rfl) | (rw [eZL]; rfl))), (fun j hj => (fn1 j (show j < nR by omega))), (fun j hj => (fn2 j (show j < nR by omega))), (fun j hj => (fn3 j (show j < nR by omega))), (fun j q hj hq => (fn4 j q (show j < nR by omega) (show q < nL by omega))), (OF.congr (OF.low (fm4.mod m7 (fun j hj => (nC (lG (lL (lL r2.lt m3.size) (fm4.ge j (Nat.lt_of_lt_of_eq (Nat.lt_of_lt_of_eq hj (endL_len lDL)) (endL_len lDL).symm)))) nN))) sz1) (by first | (rw [eZR]; done) | (rw [eZL]; done) | (rw [eZR, fop_mul_comm .f32 a]; done) | (rw [eZL, fop_mul_comm .f32 a]; done) | (rw [eZR]; rfl) | (rw [eZL]; rfl))), (fun j hj => (fn5 j (show j < nL by omega))), (fun j hj => (fn6 j (show j < nL by omega))), (fun j hj => (fn7 j (show j < nL by omega))), ((((((((Mod.refl [] w).nt m1).nt m2).nt m3).nt m4).then m5 ((aC (.inr lR) aN))).then m6 ((aC (.inr lR) (aC (.inr (lT sz1 ge1)) (aC (.inr (lT sz1 ge2)) (aA h1 (fun j hj => (lT sz1 (fm3.ge j (Nat.lt_of_lt_of_eq hj (stR_len lDR _).symm)))) (aA h2 (fun j hj => (lT sz1 (fm4.ge j (Nat.lt_of_lt_of_eq hj (endL_len lDL).symm)))) aN))))))).then m7 ((aC (.inr (lT m1.size lR)) aN)))⟩
  all_goals subst eZR
  all_goals subst eZL
  all_goals subst et0
  all_goals subst et1
  all_goals subst eye
  all_goals first | assumption | rfl

set_option maxRecDepth 100000 in
set_option maxHeartbeats 2000000 in
theorem c_iStepP_bad (nR : Nat) (GR : List RD) (nL : Nat) (GL : List RD) (nS : Nat) (xS : List Nat) (cR : Nat) (bR : Nat) (PR : List BC) (loR : Nat) (cL : Nat) (bL : Nat) (PL : List BC) (loL : Nat) (cS : Nat) (bS : Nat) (k : Int) (kc0 : Nat) (kc1 : Nat) (kc2 : Nat) (ks0 : Nat) (ks1 : Nat) (op : Bool) (lo : Nat) (re : Nat) (sl : Nat) (a : Nat) (lDR : GR.length = nR) (lDL : GL.length = nL) (lnS : xS.length = nS) (hzR : ∀ i, (GR.getD i RD.d).xs.length ≤ 1048576) (hzL : ∀ i, (GL.getD i RD.d).xs.length ≤ 1048576) (lPR : PR.length = nR) (lPL : PL.length = nL) (mR : nR ≤ 1048576) (mL : nL ≤ 1048576) (mS : nS ≤ 1048576) (hs : 1 ≤ nR ∧ nR ≤ 3 ∧ nL = nR ∧ nS + 1 = nR) (hv : vPipe nR nL nS GR GL xS k kc0 kc1 kc2 ks0 ks1 lo re sl = false) (w : World) (rR : Rng w bR 0 (olc GR PR)) (rL : Rng w bL 0 (olc GL PL)) (rS : Rng w bS 0 (fl xS))  (FR : OF loR w GR PR) (FL : OF loL w GL PL) : Cl Try.prog 46 #[.agg #[vS bR 0 nR cR, vS bL 0 nL cL, vS bS 0 nS cS, vI k, vF kc0, vF kc1, vF kc2, vF ks0, vF ks1, .bool op, vF lo, vF re, vF sl], vF a] w fun v w' => v = .tuple #[.agg #[.slice none 0 0, .slice none 0 0, .slice none 0 0, vI 0, vF 0, vF 0, vF 0, vF 0, vF 0, .bool false, vF 0, vF 0, vF 0], vF 0, vI 1] ∧ Mod [] w w' := by
  refine Cl.of Try.func46 Try.ntmps46 rfl rfl (ρ := [(0, .agg #[vS bR 0 nR cR, vS bL 0 nL cL, vS bS 0 nS cS, vI k, vF kc0, vF kc1, vF kc2, vF ks0, vF ks1, .bool op, vF lo, vF re, vF sl]), (1, vF a)]) rfl ?_
  refine CE.seq ?_
  refine CE.region ?_
  refine WL.op (op_box (cs := [vS bR 0 nR cR, vS bL 0 nL cL, vS bS 0 nS cS, vI k, vF kc0, vF kc1, vF kc2, vF ks0, vF ks1, .bool op, vF lo, vF re, vF sl]) rfl rfl) rfl rfl (ltb rfl) ?_
  rintro _ w1 ⟨rfl, r1, m1, z1⟩
  refine WL.op (op_alloc (cs := [.slice none 0 0, .slice none 0 0, .slice none 0 0, vI 0, vF 0, vF 0, vF 0, vF 0, vF 0, .bool false, vF 0, vF 0, vF 0]) Try.zeroValue33 rfl) rfl rfl (ltb rfl) ?_
  rintro _ w2 ⟨rfl, r2, m2, z2⟩
  iterate 2 refine WL.det (op_assign rfl) rfl rfl rfl ?_
  refine WL.end ?_
  refine NE.code ?_
  iterate 2 refine CE.seq ?_
  refine CE.region ?_
  refine WL.det (op_loadA (i := 0) (cs := [vS bR 0 nR cR, vS bL 0 nL cL, vS bS 0 nS cS, vI k, vF kc0, vF kc1, vF kc2, vF ks0, vF ks1, .bool op, vF lo, vF re, vF sl]) rfl Try.isAgg33 Try.sizeOf33 (r1.ext m2).rng rfl rfl rfl) rfl rfl rfl ?_
  refine WL.call (oc_call (vs := [.agg #[vS bR 0 nR cR, vS bL 0 nL cL, vS bS 0 nS cS, vI k, vF kc0, vF kc1, vF kc2, vF ks0, vF ks1, .bool op, vF lo, vF re, vF sl]]) (cap := []) rfl rfl rfl Try.call44 (c_ValidPipeS nR GR nL GL nS xS cR bR PR loR cL bL PL loL cS bS k kc0 kc1 kc2 ks0 ks1 op lo re sl lDR lDL lnS (by first | assumption | exact rd_small (by assumption) (by assumption) | exact markD_small (by first | assumption | exact rd_small (by assumption) (by assumption)) _) (by first | assumption | exact rd_small (by assumption) (by assumption) | exact markD_small (by first | assumption | exact rd_small (by assumption) (by assumption)) _) lPR lPL (by first | assumption | omega) (by first | assumption | omega) (by first | assumption | omega) (by omega) w2 ((rR.ext m1).ext m2) ((rL.ext m1).ext m2) ((rS.ext m1).ext m2) ((FR.ext m1).ext m2) ((FL.ext m1).ext m2))) rfl rfl (ltb rfl) ?_
  rintro _ w3 ⟨rfl, m3⟩
  refine WL.det (op_not rfl) rfl rfl rfl ?_
  refine WL.end ?_
  refine NE.code ?_
  refine CE.cond_t rfl (bnot_f hv) ?_
  refine CE.seq ?_
  refine CE.region ?_
  refine WL.det (op_build (qs := []) (cells := #[.slice none 0 0, .slice none 0 0, .slice none 0 0, vI 0, vF 0, vF 0, vF 0, vF 0, vF 0, .bool false, vF 0, vF 0, vF 0]) rfl (by kernel_rfl)) rfl rfl rfl ?_
  refine WL.op0 (op_store (i := 0) (cs := [.slice none 0 0, .slice none 0 0, .slice none 0 0, vI 0, vF 0, vF 0, vF 0, vF 0, vF 0, .bool false, vF 0, vF 0, vF 0]) rfl rfl rfl Try.sizeOf33 rfl (r2.ext m3) rfl (lB rfl) rfl) rfl rfl ?_
  rintro _ w4 ⟨r3, m4, z3⟩
  have r4 : Row w4 w1.heap.size 0 [.slice none 0 0, .slice none 0 0, .slice none 0 0, vI 0, vF 0, vF 0, vF 0, vF 0, vF 0, .bool false, vF 0, vF 0, vF 0] := Row.congr r3 rfl
  iterate 2 refine WL.det (op_assign rfl) rfl rfl rfl ?_
  refine WL.end ?_
  refine NE.code ?_
  refine CE.ret' ?_
  refine XE.ret_then ?_
  refine XE.leaveT Try.results46 (res_agg (cs := [.slice none 0 0, .slice none 0 0, .slice none 0 0, vI 0, vF 0, vF 0, vF 0, vF 0, vF 0, .bool false, vF 0, vF 0, vF 0]) rfl Try.isAgg33 Try.sizeOf33 r4.rng rfl (res_tmp rfl (res_tmp rfl res_nil))) ?_
  refine ⟨rfl, (((((Mod.refl [] w).nt m1).nt m2).nt m3).then m4 ((aC (.inr (lT m1.size lR)) aN)))⟩

set_option maxRecDepth 100000 in
set_option maxHeartbeats 2000000 in
theorem c_iStepP_shape (nR : Nat) (cR : Nat) (AR : Option Addr) (nL : Nat) (cL : Nat) (AL : Option Addr) (nS : Nat) (cS : Nat) (AS : Option Addr) (k : Int) (kc0 : Nat) (kc1 : Nat) (kc2 : Nat) (ks0 : Nat) (ks1 : Nat) (op : Bool) (lo : Nat) (re : Nat) (sl : Nat) (a : Nat) (hv : ¬ (1 ≤ nR ∧ nR ≤ 3 ∧ nL = nR ∧ nS + 1 = nR)) (mR : nR ≤ 1048576) (mL : nL ≤ 1048576) (mS : nS ≤ 1048576) (w : World) : Cl Try.prog 46 #[.agg #[.slice AR nR cR, .slice AL nL cL, .slice AS nS cS, vI k, vF kc0, vF kc1, vF kc2, vF ks0, vF ks1, .bool op, vF lo, vF re, vF sl], vF a] w fun v w' => v = .tuple #[.agg #[.slice none 0 0, .slice none 0 0, .slice none 0 0, vI 0, vF 0, vF 0, vF 0, vF 0, vF 0, .bool false, vF 0, vF 0, vF 0], vF 0, vI 1] ∧ Mod [] w w' := by
  refine Cl.of Try.func46 Try.ntmps46 rfl rfl (ρ := [(0, .agg #[.slice AR nR cR, .slice AL nL cL, .slice AS nS cS, vI k, vF kc0, vF kc1, vF kc2, vF ks0, vF ks1, .bool op, vF lo, vF re, vF sl]), (1, vF a)]) rfl ?_
  refine CE.seq ?_
  refine CE.region ?_
  refine WL.op (op_box (cs := [.slice AR nR cR, .slice AL nL cL, .slice AS nS cS, vI k, vF kc0, vF kc1, vF kc2, vF ks0, vF ks1, .bool op, vF lo, vF re, vF sl]) rfl rfl) rfl rfl (ltb rfl) ?_
  rintro _ w1 ⟨rfl, r1, m1, z1⟩
  refine WL.op (op_alloc (cs := [.slice none 0 0, .slice none 0 0, .slice none 0 0, vI 0, vF 0, vF 0, vF 0, vF 0, vF 0, .bool false, vF 0, vF 0, vF 0]) Try.zeroValue33 rfl) rfl rfl (ltb rfl) ?_
  rintro _ w2 ⟨rfl, r2, m2, z2⟩
  iterate 2 refine WL.det (op_assign rfl) rfl rfl rfl ?_
  refine WL.end ?_
  refine NE.code ?_
  iterate 2 refine CE.seq ?_
  refine CE.region ?_
  refine WL.det (op_loadA (i := 0) (cs := [.slice AR nR cR, .slice AL nL cL, .slice AS nS cS, vI k, vF kc0, vF kc1, vF kc2, vF ks0, vF ks1, .bool op, vF lo, vF re, vF sl]) rfl Try.isAgg33 Try.sizeOf33 (r1.ext m2).rng rfl rfl rfl) rfl rfl rfl ?_
  refine WL.call (oc_call (vs := [.agg #[.slice AR nR cR, .slice AL nL cL, .slice AS nS cS, vI k, vF kc0, vF kc1, vF kc2, vF ks0, vF ks1, .bool op, vF lo, vF re, vF sl]]) (cap := []) rfl rfl rfl Try.call44 (c_ValidPipe_bad nR cR AR nL cL AL nS cS AS k kc0 kc1 kc2 ks0 ks1 op lo re sl (by omega) (by first | assumption | omega) (by first | assumption | omega) (by first | assumption | omega) w2)) rfl rfl (ltb rfl) ?_
  rintro _ w3 ⟨rfl, m3⟩
  refine WL.det (op_not rfl) rfl rfl rfl ?_
  refine WL.end ?_
  refine NE.code ?_
  refine CE.cond_t rfl rfl ?_
  refine CE.seq ?_
  refine CE.region ?_
  refine WL.det (op_build (qs := []) (cells := #[.slice none 0 0, .slice none 0 0, .slice none 0 0, vI 0, vF 0, vF 0, vF 0, vF 0, vF 0, .bool false, vF 0, vF 0, vF 0]) rfl (by kernel_rfl)) rfl rfl rfl ?_
  refine WL.op0 (op_store (i := 0) (cs := [.slice none 0 0, .slice none 0 0, .slice none 0 0, vI 0, vF 0, vF 0, vF 0, vF 0, vF 0, .bool false, vF 0, vF 0, vF 0]) rfl rfl rfl Try.sizeOf33 rfl (r2.ext m3) rfl (lB rfl) rfl) rfl rfl ?_
  rintro _ w4 ⟨r3, m4, z3⟩
  have r4 : Row w4 w1.heap.size 0 [.slice none 0 0, .slice none 0 0, .slice none 0 0, vI 0, vF 0, vF 0, vF 0, vF 0, vF 0, .bool false, vF 0, vF 0, vF 0] := Row.congr r3 rfl
  iterate 2 refine WL.det (op_assign rfl) rfl rfl rfl ?_
  refine WL.end ?_
  refine NE.code ?_
  refine CE.ret' ?_
  refine XE.ret_then ?_
  refine XE.leaveT Try.results46 (res_agg (cs := [.slice none 0 0, .slice none 0 0, .slice none 0 0, vI 0, vF 0, vF 0, vF 0, vF 0, vF 0, .bool false, vF 0, vF 0, vF 0]) rfl Try.isAgg33 Try.sizeOf33 r4.rng rfl (res_tmp rfl (res_tmp rfl res_nil))) ?_
  refine ⟨rfl, (((((Mod.refl [] w).nt m1).nt m2).nt m3).then m4 ((aC (.inr (lT m1.size lR)) aN)))⟩

end Go.Proofs.Ytnahhdnkbbdceaa
