/- What a step of a pipe does. -/
import Derived.Test.YtnahhdnkbbdceaaT1
set_option linter.unusedVariables false
set_option linter.unusedSimpArgs false
set_option maxRecDepth 100000
set_option maxHeartbeats 8000000
namespace Go.Proofs.Ytnahhdnkbbdceaa

theorem c_l04Step (nR : Nat) (GR : List RD) (nL : Nat) (GL : List RD) (nS : Nat) (xS : List Nat) (cR : Nat) (bR : Nat) (PR : List BC) (loR : Nat) (cL : Nat) (bL : Nat) (PL : List BC) (loL : Nat) (cS : Nat) (bS : Nat) (k : Int) (kc0 : Nat) (kc1 : Nat) (kc2 : Nat) (ks0 : Nat) (ks1 : Nat) (op : Bool) (lo : Nat) (re : Nat) (sl : Nat) (p : Nat) (a : Nat) (x : Nat) (lDR : GR.length = nR) (lDL : GL.length = nL) (lnS : xS.length = nS) (hzR : ∀ i, (GR.getD i RD.d).xs.length ≤ 1048576) (hzL : ∀ i, (GL.getD i RD.d).xs.length ≤ 1048576) (lPR : PR.length = nR) (lPL : PL.length = nL) (mR : nR ≤ 1048576) (mL : nL ≤ 1048576) (mS : nS ≤ 1048576) (hs : 1 ≤ nR ∧ nR ≤ 3 ∧ nL = nR ∧ nS + 1 = nR) (gR : GoodD GR nR) (gL : GoodD GL nL) (lks0 : ks0 < wid .f32) (lks1 : ks1 < wid .f32) (ha : cn .f32 a = cn .f32 x) (la : a < wid .f32) (w : World) (q : Row w p 0 [vS bR 0 nR cR, vS bL 0 nL cL, vS bS 0 nS cS, vI k, vF kc0, vF kc1, vF kc2, vF ks0, vF ks1, .bool op, vF lo, vF re, vF sl]) (rR : Row w bR 0 (olc GR PR)) (rL : Row w bL 0 (olc GL PL)) (rS : Rng w bS 0 (fl xS)) (n1 : p ≠ bR) (n2 : p ≠ bL) (n3 : p ≠ bS) (n4 : bR ≠ bL) (n5 : bR ≠ bS) (n6 : bL ≠ bS)  (FR : OF loR w GR PR) (gRp : (∀ i, i < nR → (PR.getD i BC.d).b ≠ p)) (gRR : (∀ i, i < nR → (PR.getD i BC.d).b ≠ bR)) (gRL : (∀ i, i < nR → (PR.getD i BC.d).b ≠ bL)) (gRS : (∀ i, i < nR → (PR.getD i BC.d).b ≠ bS)) (gPP : (∀ i j, i < nR → j < nL → (PR.getD i BC.d).b ≠ (PL.getD j BC.d).b)) (FL : OF loL w GL PL) (gLp : (∀ i, i < nL → (PL.getD i BC.d).b ≠ p)) (gLR : (∀ i, i < nL → (PL.getD i BC.d).b ≠ bR)) (gLL : (∀ i, i < nL → (PL.getD i BC.d).b ≠ bL)) (gLS : (∀ i, i < nL → (PL.getD i BC.d).b ≠ bS)) : Cl Try.prog 60 #[vP p 0, vF a] w fun v w' => ∃ (y : Nat), v = vF y ∧ (cn .f32 y = cn .f32 (stepY k kc0 kc1 kc2 ks0 ks1 (oldD GR (nR - 1)))) ∧ (y < wid .f32) ∧ ((stepS k kc0 kc1 kc2 ks0 ks1 (oldD GR (nR - 1))) < wid .f32) ∧ ((stepT k kc0 kc1 kc2 ks0 ks1 (oldD GR (nR - 1))) < wid .f32) ∧ (GoodD (stR GR GL xS re sl x nS) nR) ∧ (GoodD (endL GR GL xS op lo (stepY k kc0 kc1 kc2 ks0 ks1 (oldD GR (nR - 1))) nR nS) nL) ∧ Row w' p 0 [vS bR 0 nR cR, vS bL 0 nL cL, vS bS 0 nS cS, vI k, vF kc0, vF kc1, vF kc2, vF (stepS k kc0 kc1 kc2 ks0 ks1 (oldD GR (nR - 1))), vF (stepT k kc0 kc1 kc2 ks0 ks1 (oldD GR (nR - 1))), .bool op, vF lo, vF re, vF sl] ∧ Row w' bR 0 (olc (stR GR GL xS re sl x nS) PR) ∧ Row w' bL 0 (olc (endL GR GL xS op lo (stepY k kc0 kc1 kc2 ks0 ks1 (oldD GR (nR - 1))) nR nS) PL) ∧ OF loR w' (stR GR GL xS re sl x nS) PR ∧ OF loL w' (endL GR GL xS op lo (stepY k kc0 kc1 kc2 ks0 ks1 (oldD GR (nR - 1))) nR nS) PL ∧ Mod (p :: bR :: bL :: (PR.map BC.b ++ (PL.map BC.b ++ []))) w w' := by
 have hz0 := hzR 0
 have hz1 := hzL (nR - 1)
 have hz2 : ((stL GR GL xS nS).getD (nR - 1) RD.d).xs.length = _ := stL_lens (nR - 1) nS
 refine Cl.of Try.func60 Try.ntmps60 rfl rfl (ρ := [(0, vP p 0), (1, vF a)]) rfl ?_
 refine CE.seq (CE.region ?_)
 refine WD (op_assign rfl) rfl ?_
 refine WL.end (NE.code (CE.seq (CE.region ?_)))
 refine WD (op_move rfl) rfl ?_
 refine WD (op_nilCheck rfl) rfl ?_
 refine WD (op_fieldAddr (off' := 0) rfl Try.runUnderlying33 rfl rfl Try.sizeOf25 rfl) rfl ?_
 refine WD (op_load1 (i := 0) rfl Try.isAgg25 q.rng rfl rfl) rfl ?_
 refine WD (op_len rfl Try.runUnderlying25) rfl ?_
 refine WD (op_assign rfl) rfl ?_
 refine WL.end (NE.code (CE.seq (CE.region ?_)))
 refine WD (op_move rfl) rfl ?_
 refine WD (op_nilCheck rfl) rfl ?_
 refine WD (op_fieldAddr (off' := 0) rfl Try.runUnderlying33 rfl rfl Try.sizeOf25 rfl) rfl ?_
 refine WD (op_load1 (i := 0) rfl Try.isAgg25 q.rng rfl rfl) rfl ?_
 refine WL.call (oc_call (vs := [vS bR 0 nR cR]) (cap := []) rfl rfl rfl Try.call112 (c_l04Oldest nR cR bR GR PR loR lDR lPR (by first | assumption | exact rd_small (by assumption) (by assumption) | exact markD_small (by first | assumption | exact rd_small (by assumption) (by assumption)) _) (by omega) (by assumption) w rR.rng FR)) rfl rfl (ltb rfl) ?_
 rintro _ w1 ⟨e'1, c'1, A'1, rfl, h1, r1, ge1, m1⟩
 refine WD (op_assign rfl) rfl ?_
 refine WL.end (NE.code (CE.seq (CE.region ?_)))
 refine WD (op_move rfl) rfl ?_
 refine WD (op_nilCheck rfl) rfl ?_
 refine WD (op_fieldAddr (off' := 1) rfl Try.runUnderlying33 rfl rfl Try.sizeOf25 rfl) rfl ?_
 refine WD (op_load1 (i := 1) rfl Try.isAgg25 (q.ext m1).rng rfl rfl) rfl ?_
 refine WL.call (oc_call (vs := [vS bL 0 nL cL]) (cap := []) rfl rfl rfl Try.call112 (c_l04Oldest nL cL bL GL PL loL lDL lPL (by first | assumption | exact rd_small (by assumption) (by assumption) | exact markD_small (by first | assumption | exact rd_small (by assumption) (by assumption)) _) (by omega) (by assumption) w1 (rL.ext m1).rng (FL.ext m1))) rfl rfl (ltb rfl) ?_
 rintro _ w2 ⟨e'2, c'2, A'2, rfl, h2, r2, ge2, m2⟩
 refine WD (op_assign rfl) rfl ?_
 refine WL.end (NE.code (CE.seq (CE.region ?_)))
 refine WD (op_move rfl) rfl ?_
 refine WD (op_indexSl (off' := 0) rfl (h2 (by omega)) rfl Try.runUnderlying26 Try.sizeOf27 (by omega) (by omega) rfl) rfl ?_
 refine WD (op_load1 (i := 0) rfl Try.isAgg27 r2.rng rfl (fl_get_eq (by have eL : List.length (outs (oldD GL) nL) = nL := (outs_len _ _); omega) (outs_get (by omega)))) rfl ?_
 refine WD (op_move rfl) rfl ?_
 refine WL.op (op_farith (e := (fop .sub .f32 (oldD GL 0) x)) (.inr (.inl rfl)) rfl rfl rfl ha rfl) rfl rfl (ltb rfl) ?_
 rintro _ w3 ⟨⟨f1, rfl, hf1, lf1⟩, m3⟩
 refine WD (op_assign rfl) rfl ?_
 refine WL.end (NE.code (CE.seq ?_))
 refine CE.draw (fun | 16 => some (fun _ wA uA wB => ∃ (r : Nat), uA = vF r ∧ (cn .f32 r = cn .f32 (reedF re sl (fop .sub .f32 (oldD GL 0) x))) ∧ (r < wid .f32) ∧ Mod [] wA wB) | 19 => some (fun _ wA uA wB => uA = vF (keptF (fop .add .f32 x (fop .mul .f32 (fop .sub .f32 (oldD GL 0) x) (reedF re sl (fop .sub .f32 (oldD GL 0) x))))) ∧ (keptF (fop .add .f32 x (fop .mul .f32 (fop .sub .f32 (oldD GL 0) x) (reedF re sl (fop .sub .f32 (oldD GL 0) x)))) < wid .f32) ∧ Mod [] wA wB) | _ => none) [0, 1, 2, 3, 4, 5, 6, 7, 8, 9, 10, 11, 12, 13, 14, 15, 16, 17, 18, 19] [20] [] (by kernel_rfl) (by kernel_rfl) ?_
 have md1 : Mod [] w3 w3.drew := (Mod.refl _ _).drew
 generalize w3.drew = w4 at md1 ⊢
 refine DD 0 rfl (by kernel_rfl) rfl (fun wD mD => op_move rfl) ?_
 refine DD 1 rfl (by kernel_rfl) rfl (fun wD mD => op_nilCheck rfl) ?_
 refine DD 2 rfl (by kernel_rfl) rfl (fun wD mD => op_fieldAddr (off' := 0) rfl Try.runUnderlying33 rfl rfl Try.sizeOf25 rfl) ?_
 refine DD 3 rfl (by kernel_rfl) rfl (fun wD mD => op_load1 (i := 0) rfl Try.isAgg25 (((((q.ext m1).ext m2).ext m3).ext md1).ext mD).rng rfl rfl) ?_
 refine DD 4 rfl (by kernel_rfl) rfl (fun wD mD => op_indexSl (off' := 0) rfl rfl rfl Try.runUnderlying25 Try.sizeOf60 (by omega) (by omega) rfl) ?_
 refine DD 5 rfl (by kernel_rfl) rfl (fun wD mD => op_move rfl) ?_
 refine DD 6 rfl (by kernel_rfl) rfl (fun wD mD => op_move rfl) ?_
 refine DD 7 rfl (by kernel_rfl) rfl (fun wD mD => op_move rfl) ?_
 refine DD 8 rfl (by kernel_rfl) rfl (fun wD mD => op_nilCheck rfl) ?_
 refine DD 9 rfl (by kernel_rfl) rfl (fun wD mD => op_fieldAddr (off' := 11) rfl Try.runUnderlying33 rfl rfl Try.sizeOf27 rfl) ?_
 refine DD 10 rfl (by kernel_rfl) rfl (fun wD mD => op_load1 (i := 11) rfl Try.isAgg27 (((((q.ext m1).ext m2).ext m3).ext md1).ext mD).rng rfl rfl) ?_
 refine DD 11 rfl (by kernel_rfl) rfl (fun wD mD => op_move rfl) ?_
 refine DD 12 rfl (by kernel_rfl) rfl (fun wD mD => op_nilCheck rfl) ?_
 refine DD 13 rfl (by kernel_rfl) rfl (fun wD mD => op_fieldAddr (off' := 12) rfl Try.runUnderlying33 rfl rfl Try.sizeOf27 rfl) ?_
 refine DD 14 rfl (by kernel_rfl) rfl (fun wD mD => op_load1 (i := 12) rfl Try.isAgg27 (((((q.ext m1).ext m2).ext m3).ext md1).ext mD).rng rfl rfl) ?_
 refine DD 15 rfl (by kernel_rfl) rfl (fun wD mD => op_move rfl) ?_
 refine DR.call (i := 16) (fun uA => ∃ (r : Nat), uA = vF r ∧ (cn .f32 r = cn .f32 (reedF re sl (fop .sub .f32 (oldD GL 0) x))) ∧ (r < wid .f32)) rfl rfl (by kernel_rfl) (.free rfl) rfl (ltb rfl) ⟨_, _, rfl, rfl, reedF_lt⟩ (vs := [.func (.func 114) #[] #[], vF re, vF sl, vF f1]) rfl (fun wD mD => oc_call (vs := [vF re, vF sl, vF f1]) (cap := []) rfl rfl rfl Try.call114 (c_l04Reed re sl f1 (fop .sub .f32 (oldD GL 0) x) hf1 wD)) ?_ ?_
 ·rintro w1 _ w2 m1 ⟨r, rfl, p0, p1, m2⟩; exact ⟨⟨r, rfl, p0, p1⟩, m2⟩
 rintro _ ⟨r3, rfl, h3, h4⟩
 refine DR.op (i := 17) (FOut .f32 (fop .mul .f32 (fop .sub .f32 (oldD GL 0) x) (reedF re sl (fop .sub .f32 (oldD GL 0) x)))) rfl rfl (by kernel_rfl) (.free rfl) rfl (ltb rfl) (fun wD mD => op_farith (e := (fop .mul .f32 (fop .sub .f32 (oldD GL 0) x) (reedF re sl (fop .sub .f32 (oldD GL 0) x)))) (.inr (.inr (.inl rfl))) rfl rfl hf1 h3 rfl) ?_
 rintro _ ⟨f2, rfl, hf2, lf2⟩
 refine DR.op (i := 18) (FOut .f32 (fop .add .f32 x (fop .mul .f32 (fop .sub .f32 (oldD GL 0) x) (reedF re sl (fop .sub .f32 (oldD GL 0) x))))) rfl rfl (by kernel_rfl) (.free rfl) rfl (ltb rfl) (fun wD mD => op_farith (e := (fop .add .f32 x (fop .mul .f32 (fop .sub .f32 (oldD GL 0) x) (reedF re sl (fop .sub .f32 (oldD GL 0) x))))) (.inl rfl) rfl rfl ha hf2 rfl) ?_
 rintro _ ⟨f3, rfl, hf3, lf3⟩
 refine DR.call (i := 19) (fun uA => uA = vF (keptF (fop .add .f32 x (fop .mul .f32 (fop .sub .f32 (oldD GL 0) x) (reedF re sl (fop .sub .f32 (oldD GL 0) x))))) ∧ (keptF (fop .add .f32 x (fop .mul .f32 (fop .sub .f32 (oldD GL 0) x) (reedF re sl (fop .sub .f32 (oldD GL 0) x)))) < wid .f32)) rfl rfl (by kernel_rfl) (.free rfl) rfl (ltb rfl) ⟨_, rfl, keptF_wid hf3 lf3⟩ (vs := [.func (.func 96) #[] #[], vF f3]) rfl (fun wD mD => oc_call (vs := [vF f3]) (cap := []) rfl rfl rfl Try.call96 (c_l02Kept f3 (fop .add .f32 x (fop .mul .f32 (fop .sub .f32 (oldD GL 0) x) (reedF re sl (fop .sub .f32 (oldD GL 0) x)))) hf3 lf3 wD)) ?_ ?_
 ·rintro w1 _ w2 m1 ⟨rfl, p0, m2⟩; exact ⟨⟨rfl, p0⟩, m2⟩
 rintro _ ⟨rfl, h5⟩
 refine DR.done rfl ?_
 intro w5 m4
 have r4 := (((((rR.ext m1).ext m2).ext m3).ext md1).ext m4)
 refine WO.call rfl (.free rfl) rfl (ltb rfl) (oc_call (vs := [vP bR 0, vF (keptF (fop .add .f32 x (fop .mul .f32 (fop .sub .f32 (oldD GL 0) x) (reedF re sl (fop .sub .f32 (oldD GL 0) x)))))]) (cap := []) rfl rfl rfl Try.call113 (c_l02PushJ ((GR.getD 0 RD.d).xs.length) ((PR.getD 0 BC.d).c) ((PR.getD 0 BC.d).b) ((GR.getD 0 RD.d).xs) ((GR.getD 0 RD.d).at_) bR 0 (olc GR PR) (keptF (fop .add .f32 x (fop .mul .f32 (fop .sub .f32 (oldD GL 0) x) (reedF re sl (fop .sub .f32 (oldD GL 0) x))))) rfl (by first | omega | exact GoodD.ge (by assumption) _ (by omega)) (by first | omega | exact GoodD.lt (by assumption) _ (by omega)) (by first | omega | exact Nat.le_trans (Nat.le_of_eq (stL_lens _ _)) (by first | omega | exact hzL _) | exact Nat.le_trans (Nat.le_of_eq (stR_lens _ _)) (by first | omega | exact hzR _)) (olc_fit lDR lPR (show 0 < nR by omega) rfl) w5 (Row.congr r4 (olc_part lDR lPR (show 0 < nR by omega) rfl)) ((((((OF.row FR 0 (lQ (show 0 < nR by omega) lDR.symm)).ext m1).ext m2).ext m3).ext md1).ext m4) (Ne.symm (gRR 0 (show 0 < nR by omega))))) ?_
 rintro _ w6 ⟨rfl, r5, r6, m5⟩
 have fm1 : OF loR w6 (pushD GR 0 (keptF (fop .add .f32 x (fop .mul .f32 (fop .sub .f32 (oldD GL 0) x) (reedF re sl (fop .sub .f32 (oldD GL 0) x)))))) PR := OF.upd (((((FR.ext m1).ext m2).ext m3).ext md1).ext m4) (lQ (show 0 < nR by omega) lDR.symm) m5 (fun j hj hji => (nC (gRR j (lQ hj lDR)) (nC (FR.ne j 0 (lQ (lQ hj lDR) lDR.symm) (lQ (show 0 < nR by omega) lDR.symm) (by omega)) nN))) r6
 have r7 : Row w6 bR 0 (olc (pushD GR 0 (keptF (fop .add .f32 x (fop .mul .f32 (fop .sub .f32 (oldD GL 0) x) (reedF re sl (fop .sub .f32 (oldD GL 0) x)))))) PR) := Row.congr r5 (olc_put lDR lPR (show 0 < nR by omega) rfl ((List.length_set).trans rfl))
 refine WO.end (NE.code (CE.seq (CE.seq (CE.region ?_))))
 refine WD (op_assign rfl) rfl ?_
 refine WL.end (NE.code (CE.block ?_))
 have r8 := ((((((rL.ext m1).ext m2).ext m3).ext md1).ext m4).mod m5 (nC (Ne.symm n4) (nC (Ne.symm (gRL 0 (show 0 < nR by omega))) nN)))
 refine CE.loop (fun (i : Nat) => [(9, vI ((i : Nat) : Int)), (0, vP p 0), (4, vF 0), (5, vI ((nR : Nat) : Int)), (6, .slice A'1 nR c'1), (7, .slice A'2 nL c'2)]) (fun (i : Nat) => fun W => (i ≤ nS) ∧ (GoodD (stR GR GL xS re sl x i) nR) ∧ (GoodD (stL GR GL xS i) nL) ∧ Row W bR 0 (olc (stR GR GL xS re sl x i) PR) ∧ Row W bL 0 (olc (stL GR GL xS i) PL) ∧ OF loR W (stR GR GL xS re sl x i) PR ∧ OF loL W (stL GR GL xS i) PL ∧ Mod (bR :: bL :: (PR.map BC.b ++ (PL.map BC.b ++ []))) w6 W) (fun (i : Nat) => nS - i) 0 (⟨rfl, rfl, rfl, rfl, rfl, rfl, trivial⟩) ⟨(by omega), (by exact GoodD.push gR lDR (by assumption)), (by exact gL), (Row.congr r7 rfl), (Row.congr r8 rfl), fm1, ((((((FL.ext m1).ext m2).ext m3).ext md1).ext m4).mod m5 (fun j hj => (nC (gLR j (lQ hj lDL)) (nC (Ne.symm (gPP 0 j (show 0 < nR by omega) (lQ hj lDL))) nN)))), Mod.refl _ _⟩ ?_
 rintro i w7 ⟨hi, g1, g2, r9, r10, fm2, fm3, m6⟩
 have hzi := hzR (i + 1)
 have hzj := hzL i
 have hzi2 : ((stR GR GL xS re sl x i).getD (i + 1) RD.d).xs.length = _ := stR_lens (i + 1) i
 have hzj2 : ((stL GR GL xS i).getD i RD.d).xs.length = _ := stL_lens i i
 show CE _ _ _ _ [(9, vI ((i : Nat) : Int)), (0, vP p 0), (4, vF 0), (5, vI ((nR : Nat) : Int)), (6, .slice A'1 nR c'1), (7, .slice A'2 nL c'2)] _
 refine CE.seq (CE.seq (CE.region ?_))
 refine WD (op_move rfl) rfl ?_
 refine WD (op_add (r := ((i + 1 : Nat) : Int)) rfl rfl (w_i64 (by omega) (by omega))) rfl ?_
 refine WD (op_move rfl) rfl ?_
 refine WD (op_lti rfl rfl) rfl ?_
 refine WL.end (NE.code ?_)
 rcases Bool.eq_false_or_eq_true (decide (((i + 1 : Nat) : Int) < ((nR : Nat) : Int))) with hb1 | hb1
 ·have hp1 := of_decide_eq_true hb1
  refine CE.cond_t rfl hb1 ?_
  refine CE.skip' (NE.code (CE.seq (CE.block (CE.seq ?_))))
  refine CE.draw (fun _ => none) [0, 1, 2, 3, 4, 5, 6, 7, 8, 9, 10, 11, 12, 13, 14, 15, 16] [17, 18] [] (by kernel_rfl) (by kernel_rfl) ?_
  have md2 : Mod [] w7 w7.drew := (Mod.refl _ _).drew
  generalize w7.drew = w8 at md2 ⊢
  refine DD 0 rfl (by kernel_rfl) rfl (fun wD mD => op_move rfl) ?_
  refine DD 1 rfl (by kernel_rfl) rfl (fun wD mD => op_nilCheck rfl) ?_
  refine DD 2 rfl (by kernel_rfl) rfl (fun wD mD => op_fieldAddr (off' := 2) rfl Try.runUnderlying33 rfl rfl Try.sizeOf26 rfl) ?_
  refine DD 3 rfl (by kernel_rfl) rfl (fun wD mD => op_load1 (i := 2) rfl Try.isAgg26 (((((((((q.ext m1).ext m2).ext m3).ext md1).ext m4).mod m5 (nC n1 (nC (Ne.symm (gRp 0 (show 0 < nR by omega))) nN))).mod m6 (nC n1 (nC n2 (nA lPR (fun j hj => (gRp j hj)) (nA lPL (fun j hj => (gLp j hj)) nN))))).ext md2).ext mD).rng rfl rfl) ?_
  refine DD 4 rfl (by kernel_rfl) rfl (fun wD mD => op_move rfl) ?_
  refine DD 5 rfl (by kernel_rfl) rfl (fun wD mD => op_indexSl (off' := 0 + i) rfl rfl rfl Try.runUnderlying26 Try.sizeOf27 (by omega) (by omega) (by omega)) ?_
  refine DD 6 rfl (by kernel_rfl) rfl (fun wD mD => op_load1 (i := i) rfl Try.isAgg27 (((((((((rS.ext m1).ext m2).ext m3).ext md1).ext m4).mod m5 (nC (Ne.symm n5) (nC (Ne.symm (gRS 0 (show 0 < nR by omega))) nN))).mod m6 (nC (Ne.symm n5) (nC (Ne.symm n6) (nA lPR (fun j hj => (gRS j hj)) (nA lPL (fun j hj => (gLS j hj)) nN))))).ext md2).ext mD) rfl (fl_get (by have eL : List.length xS = nS := lnS; omega))) ?_
  refine DD 7 rfl (by kernel_rfl) rfl (fun wD mD => op_move rfl) ?_
  refine DD 8 rfl (by kernel_rfl) rfl (fun wD mD => op_move rfl) ?_
  refine DD 9 rfl (by kernel_rfl) rfl (fun wD mD => op_indexSl (off' := 0 + i) rfl (h1 (by omega)) rfl Try.runUnderlying26 Try.sizeOf27 (by omega) (by omega) (by omega)) ?_
  refine DD 10 rfl (by kernel_rfl) rfl (fun wD mD => op_load1 (i := i) rfl Try.isAgg27 ((((((((r1.ext m2).ext m3).ext md1).ext m4).mod m5 (nC (lG (lL rR.lt ge1)) (nC (Ne.symm (lE (lL (OF.lt FR (lQ (show 0 < nR by omega) lDR.symm)) ge1))) nN))).mod m6 (nC (lG (lL rR.lt ge1)) (nC (lG (lL rL.lt ge1)) (nA lPR (fun j hj => (lE (lL (OF.lt FR (lQ hj lDR.symm)) ge1))) (nA lPL (fun j hj => (lE (lL (OF.lt FL (lQ hj lDL.symm)) ge1))) nN))))).ext md2).ext mD).rng rfl (fl_get_eq (by have eL : List.length (outs (oldD GR) nR) = nR := (outs_len _ _); omega) (outs_get (by omega)))) ?_
  refine DD 11 rfl (by kernel_rfl) rfl (fun wD mD => op_move rfl) ?_
  refine DD 12 rfl (by kernel_rfl) rfl (fun wD mD => op_move rfl) ?_
  refine DD 13 rfl (by kernel_rfl) rfl (fun wD mD => op_add (r := ((i + 1 : Nat) : Int)) rfl rfl (w_i64 (by omega) (by omega))) ?_
  refine DD 14 rfl (by kernel_rfl) rfl (fun wD mD => op_indexSl (off' := 0 + (i + 1)) rfl (h2 (by omega)) rfl Try.runUnderlying26 Try.sizeOf27 (by omega) (by omega) (by omega)) ?_
  refine DD 15 rfl (by kernel_rfl) rfl (fun wD mD => op_load1 (i := (i + 1)) rfl Try.isAgg27 (((((((r2.ext m3).ext md1).ext m4).mod m5 (nC (lG (lL (lL rR.lt m1.size) ge2)) (nC (Ne.symm (lE (lL (OF.lt FR (lQ (show 0 < nR by omega) lDR.symm)) (lT m1.size ge2)))) nN))).mod m6 (nC (lG (lL (lL rR.lt m1.size) ge2)) (nC (lG (lL (lL rL.lt m1.size) ge2)) (nA lPR (fun j hj => (lE (lL (OF.lt FR (lQ hj lDR.symm)) (lT m1.size ge2)))) (nA lPL (fun j hj => (lE (lL (OF.lt FL (lQ hj lDL.symm)) (lT m1.size ge2)))) nN))))).ext md2).ext mD).rng rfl (fl_get_eq (by have eL : List.length (outs (oldD GL) nL) = nL := (outs_len _ _); omega) (outs_get (by omega)))) ?_
  refine DR.op (i := 16) (FOut .f32 (fop .sub .f32 (oldD GR i) (oldD GL (i + 1)))) rfl rfl (by kernel_rfl) (.free rfl) rfl (ltb rfl) (fun wD mD => op_farith (e := (fop .sub .f32 (oldD GR i) (oldD GL (i + 1)))) (.inr (.inl rfl)) rfl rfl rfl rfl rfl) ?_
  rintro _ ⟨f4, rfl, hf4, lf4⟩
  refine DR.done rfl ?_
  intro w9 m7
  refine WO.op rfl (.free rfl) rfl (ltb rfl) (op_farith (e := (fop .mul .f32 (xS.getD i 0) (fop .sub .f32 (oldD GR i) (oldD GL (i + 1))))) (.inr (.inr (.inl rfl))) rfl rfl rfl hf4 rfl) ?_
  rintro _ w10 ⟨⟨f5, rfl, hf5, lf5⟩, m8⟩
  refine WO.det (op_assign rfl) rfl (.free rfl) rfl rfl ?_
  refine WO.end (NE.code (CE.seq ?_))
  refine CE.draw (fun | 13 => some (fun _ wA uA wB => uA = vF (keptF (fop .add .f32 (oldD GR i) (fop .mul .f32 (xS.getD i 0) (fop .sub .f32 (oldD GR i) (oldD GL (i + 1)))))) ∧ (keptF (fop .add .f32 (oldD GR i) (fop .mul .f32 (xS.getD i 0) (fop .sub .f32 (oldD GR i) (oldD GL (i + 1))))) < wid .f32) ∧ Mod [] wA wB) | _ => none) [0, 1, 2, 3, 4, 5, 6, 7, 8, 9, 10, 11, 12, 13] [14] [] (by kernel_rfl) (by kernel_rfl) ?_
  have md3 : Mod [] w10 w10.drew := (Mod.refl _ _).drew
  generalize w10.drew = w11 at md3 ⊢
  refine DD 0 rfl (by kernel_rfl) rfl (fun wD mD => op_move rfl) ?_
  refine DD 1 rfl (by kernel_rfl) rfl (fun wD mD => op_nilCheck rfl) ?_
  refine DD 2 rfl (by kernel_rfl) rfl (fun wD mD => op_fieldAddr (off' := 0) rfl Try.runUnderlying33 rfl rfl Try.sizeOf25 rfl) ?_
  refine DD 3 rfl (by kernel_rfl) rfl (fun wD mD => op_load1 (i := 0) rfl Try.isAgg25 ((((((((((((q.ext m1).ext m2).ext m3).ext md1).ext m4).mod m5 (nC n1 (nC (Ne.symm (gRp 0 (show 0 < nR by omega))) nN))).mod m6 (nC n1 (nC n2 (nA lPR (fun j hj => (gRp j hj)) (nA lPL (fun j hj => (gLp j hj)) nN))))).ext md2).ext m7).ext m8).ext md3).ext mD).rng rfl rfl) ?_
  refine DD 4 rfl (by kernel_rfl) rfl (fun wD mD => op_move rfl) ?_
  refine DD 5 rfl (by kernel_rfl) rfl (fun wD mD => op_add (r := ((i + 1 : Nat) : Int)) rfl rfl (w_i64 (by omega) (by omega))) ?_
  refine DD 6 rfl (by kernel_rfl) rfl (fun wD mD => op_indexSl (off' := 0 + (i + 1) * 2) rfl rfl rfl Try.runUnderlying25 Try.sizeOf60 (by omega) (by omega) (by omega)) ?_
  refine DD 7 rfl (by kernel_rfl) rfl (fun wD mD => op_move rfl) ?_
  refine DD 8 rfl (by kernel_rfl) rfl (fun wD mD => op_move rfl) ?_
  refine DD 9 rfl (by kernel_rfl) rfl (fun wD mD => op_indexSl (off' := 0 + i) rfl (h1 (by omega)) rfl Try.runUnderlying26 Try.sizeOf27 (by omega) (by omega) (by omega)) ?_
  refine DD 10 rfl (by kernel_rfl) rfl (fun wD mD => op_load1 (i := i) rfl Try.isAgg27 (((((((((((r1.ext m2).ext m3).ext md1).ext m4).mod m5 (nC (lG (lL rR.lt ge1)) (nC (Ne.symm (lE (lL (OF.lt FR (lQ (show 0 < nR by omega) lDR.symm)) ge1))) nN))).mod m6 (nC (lG (lL rR.lt ge1)) (nC (lG (lL rL.lt ge1)) (nA lPR (fun j hj => (lE (lL (OF.lt FR (lQ hj lDR.symm)) ge1))) (nA lPL (fun j hj => (lE (lL (OF.lt FL (lQ hj lDL.symm)) ge1))) nN))))).ext md2).ext m7).ext m8).ext md3).ext mD).rng rfl (fl_get_eq (by have eL : List.length (outs (oldD GR) nR) = nR := (outs_len _ _); omega) (outs_get (by omega)))) ?_
  refine DD 11 rfl (by kernel_rfl) rfl (fun wD mD => op_move rfl) ?_
  refine DR.op (i := 12) (FOut .f32 (fop .add .f32 (oldD GR i) (fop .mul .f32 (xS.getD i 0) (fop .sub .f32 (oldD GR i) (oldD GL (i + 1)))))) rfl rfl (by kernel_rfl) (.free rfl) rfl (ltb rfl) (fun wD mD => op_farith (e := (fop .add .f32 (oldD GR i) (fop .mul .f32 (xS.getD i 0) (fop .sub .f32 (oldD GR i) (oldD GL (i + 1)))))) (.inl rfl) rfl rfl rfl hf5 rfl) ?_
  rintro _ ⟨f6, rfl, hf6, lf6⟩
  refine DR.call (i := 13) (fun uA => uA = vF (keptF (fop .add .f32 (oldD GR i) (fop .mul .f32 (xS.getD i 0) (fop .sub .f32 (oldD GR i) (oldD GL (i + 1)))))) ∧ (keptF (fop .add .f32 (oldD GR i) (fop .mul .f32 (xS.getD i 0) (fop .sub .f32 (oldD GR i) (oldD GL (i + 1))))) < wid .f32)) rfl rfl (by kernel_rfl) (.free rfl) rfl (ltb rfl) ⟨_, rfl, keptF_wid hf6 lf6⟩ (vs := [.func (.func 96) #[] #[], vF f6]) rfl (fun wD mD => oc_call (vs := [vF f6]) (cap := []) rfl rfl rfl Try.call96 (c_l02Kept f6 (fop .add .f32 (oldD GR i) (fop .mul .f32 (xS.getD i 0) (fop .sub .f32 (oldD GR i) (oldD GL (i + 1))))) hf6 lf6 wD)) ?_ ?_
  ·rintro w1 _ w2 m1 ⟨rfl, p0, m2⟩; exact ⟨⟨rfl, p0⟩, m2⟩
  rintro _ ⟨rfl, h6⟩
  refine DR.done rfl ?_
  intro w12 m9
  have r11 := (((((r9.ext md2).ext m7).ext m8).ext md3).ext m9)
  refine WO.call rfl (.free rfl) rfl (ltb rfl) (oc_call (vs := [vP bR (0 + (i + 1) * 2), vF (keptF (fop .add .f32 (oldD GR i) (fop .mul .f32 (xS.getD i 0) (fop .sub .f32 (oldD GR i) (oldD GL (i + 1))))))]) (cap := []) rfl rfl rfl Try.call113 (c_l02PushJ (((stR GR GL xS re sl x i).getD (i + 1) RD.d).xs.length) ((PR.getD (i + 1) BC.d).c) ((PR.getD (i + 1) BC.d).b) (((stR GR GL xS re sl x i).getD (i + 1) RD.d).xs) (((stR GR GL xS re sl x i).getD (i + 1) RD.d).at_) bR (0 + (i + 1) * 2) (olc (stR GR GL xS re sl x i) PR) (keptF (fop .add .f32 (oldD GR i) (fop .mul .f32 (xS.getD i 0) (fop .sub .f32 (oldD GR i) (oldD GL (i + 1)))))) rfl (by first | omega | exact GoodD.ge (by assumption) _ (by omega)) (by first | omega | exact GoodD.lt (by assumption) _ (by omega)) (by first | omega | exact Nat.le_trans (Nat.le_of_eq (stL_lens _ _)) (by first | omega | exact hzL _) | exact Nat.le_trans (Nat.le_of_eq (stR_lens _ _)) (by first | omega | exact hzR _)) (olc_fit (stR_len lDR _) lPR (show (i + 1) < nR by omega) (Nat.zero_add _)) w12 (Row.congr r11 (olc_part (stR_len lDR _) lPR (show (i + 1) < nR by omega) (Nat.zero_add _))) ((((((OF.row fm2 (i + 1) (lQ (show i + 1 < nR by omega) (stR_len lDR _).symm)).ext md2).ext m7).ext m8).ext md3).ext m9) (Ne.symm (gRR (i + 1) (show i + 1 < nR by omega))))) ?_
  rintro _ w13 ⟨rfl, r12, r13, m10⟩
  have fm4 : OF loR w13 (pushD (stR GR GL xS re sl x i) (i + 1) (keptF (fop .add .f32 (oldD GR i) (fop .mul .f32 (xS.getD i 0) (fop .sub .f32 (oldD GR i) (oldD GL (i + 1))))))) PR := OF.upd (((((fm2.ext md2).ext m7).ext m8).ext md3).ext m9) (lQ (show (i + 1) < nR by omega) (stR_len lDR _).symm) m10 (fun j hj hji => (nC (gRR j (lQ hj (stR_len lDR _))) (nC (fm2.ne j (i + 1) (lQ (lQ hj (stR_len lDR _)) (stR_len lDR _).symm) (lQ (show i + 1 < nR by omega) (stR_len lDR _).symm) (by omega)) nN))) r13
  have r14 : Row w13 bR 0 (olc (pushD (stR GR GL xS re sl x i) (i + 1) (keptF (fop .add .f32 (oldD GR i) (fop .mul .f32 (xS.getD i 0) (fop .sub .f32 (oldD GR i) (oldD GL (i + 1))))))) PR) := Row.congr r12 (olc_put (stR_len lDR _) lPR (show (i + 1) < nR by omega) (Nat.zero_add _) ((List.length_set).trans rfl))
  refine WO.end (NE.code ?_)
  refine CE.draw (fun | 13 => some (fun _ wA uA wB => uA = vF (keptF (fop .add .f32 (oldD GL (i + 1)) (fop .mul .f32 (xS.getD i 0) (fop .sub .f32 (oldD GR i) (oldD GL (i + 1)))))) ∧ (keptF (fop .add .f32 (oldD GL (i + 1)) (fop .mul .f32 (xS.getD i 0) (fop .sub .f32 (oldD GR i) (oldD GL (i + 1))))) < wid .f32) ∧ Mod [] wA wB) | _ => none) [0, 1, 2, 3, 4, 5, 6, 7, 8, 9, 10, 11, 12, 13] [14] [] (by kernel_rfl) (by kernel_rfl) ?_
  have md4 : Mod [] w13 w13.drew := (Mod.refl _ _).drew
  generalize w13.drew = w14 at md4 ⊢
  refine DD 0 rfl (by kernel_rfl) rfl (fun wD mD => op_move rfl) ?_
  refine DD 1 rfl (by kernel_rfl) rfl (fun wD mD => op_nilCheck rfl) ?_
  refine DD 2 rfl (by kernel_rfl) rfl (fun wD mD => op_fieldAddr (off' := 1) rfl Try.runUnderlying33 rfl rfl Try.sizeOf25 rfl) ?_
  refine DD 3 rfl (by kernel_rfl) rfl (fun wD mD => op_load1 (i := 1) rfl Try.isAgg25 (((((((((((((((q.ext m1).ext m2).ext m3).ext md1).ext m4).mod m5 (nC n1 (nC (Ne.symm (gRp 0 (show 0 < nR by omega))) nN))).mod m6 (nC n1 (nC n2 (nA lPR (fun j hj => (gRp j hj)) (nA lPL (fun j hj => (gLp j hj)) nN))))).ext md2).ext m7).ext m8).ext md3).ext m9).mod m10 (nC n1 (nC (Ne.symm (gRp (i + 1) (show i + 1 < nR by omega))) nN))).ext md4).ext mD).rng rfl rfl) ?_
  refine DD 4 rfl (by kernel_rfl) rfl (fun wD mD => op_move rfl) ?_
  refine DD 5 rfl (by kernel_rfl) rfl (fun wD mD => op_indexSl (off' := 0 + i * 2) rfl rfl rfl Try.runUnderlying25 Try.sizeOf60 (by omega) (by omega) (by omega)) ?_
  refine DD 6 rfl (by kernel_rfl) rfl (fun wD mD => op_move rfl) ?_
  refine DD 7 rfl (by kernel_rfl) rfl (fun wD mD => op_move rfl) ?_
  refine DD 8 rfl (by kernel_rfl) rfl (fun wD mD => op_add (r := ((i + 1 : Nat) : Int)) rfl rfl (w_i64 (by omega) (by omega))) ?_
  refine DD 9 rfl (by kernel_rfl) rfl (fun wD mD => op_indexSl (off' := 0 + (i + 1)) rfl (h2 (by omega)) rfl Try.runUnderlying26 Try.sizeOf27 (by omega) (by omega) (by omega)) ?_
  refine DD 10 rfl (by kernel_rfl) rfl (fun wD mD => op_load1 (i := (i + 1)) rfl Try.isAgg27 (((((((((((((r2.ext m3).ext md1).ext m4).mod m5 (nC (lG (lL (lL rR.lt m1.size) ge2)) (nC (Ne.symm (lE (lL (OF.lt FR (lQ (show 0 < nR by omega) lDR.symm)) (lT m1.size ge2)))) nN))).mod m6 (nC (lG (lL (lL rR.lt m1.size) ge2)) (nC (lG (lL (lL rL.lt m1.size) ge2)) (nA lPR (fun j hj => (lE (lL (OF.lt FR (lQ hj lDR.symm)) (lT m1.size ge2)))) (nA lPL (fun j hj => (lE (lL (OF.lt FL (lQ hj lDL.symm)) (lT m1.size ge2)))) nN))))).ext md2).ext m7).ext m8).ext md3).ext m9).mod m10 (nC (lG (lL (lL rR.lt m1.size) ge2)) (nC (Ne.symm (lE (lL (OF.lt FR (lQ (show i + 1 < nR by omega) lDR.symm)) (lT m1.size ge2)))) nN))).ext md4).ext mD).rng rfl (fl_get_eq (by have eL : List.length (outs (oldD GL) nL) = nL := (outs_len _ _); omega) (outs_get (by omega)))) ?_
  refine DD 11 rfl (by kernel_rfl) rfl (fun wD mD => op_move rfl) ?_
  refine DR.op (i := 12) (FOut .f32 (fop .add .f32 (oldD GL (i + 1)) (fop .mul .f32 (xS.getD i 0) (fop .sub .f32 (oldD GR i) (oldD GL (i + 1)))))) rfl rfl (by kernel_rfl) (.free rfl) rfl (ltb rfl) (fun wD mD => op_farith (e := (fop .add .f32 (oldD GL (i + 1)) (fop .mul .f32 (xS.getD i 0) (fop .sub .f32 (oldD GR i) (oldD GL (i + 1)))))) (.inl rfl) rfl rfl rfl hf5 rfl) ?_
  rintro _ ⟨f7, rfl, hf7, lf7⟩
  refine DR.call (i := 13) (fun uA => uA = vF (keptF (fop .add .f32 (oldD GL (i + 1)) (fop .mul .f32 (xS.getD i 0) (fop .sub .f32 (oldD GR i) (oldD GL (i + 1)))))) ∧ (keptF (fop .add .f32 (oldD GL (i + 1)) (fop .mul .f32 (xS.getD i 0) (fop .sub .f32 (oldD GR i) (oldD GL (i + 1))))) < wid .f32)) rfl rfl (by kernel_rfl) (.free rfl) rfl (ltb rfl) ⟨_, rfl, keptF_wid hf7 lf7⟩ (vs := [.func (.func 96) #[] #[], vF f7]) rfl (fun wD mD => oc_call (vs := [vF f7]) (cap := []) rfl rfl rfl Try.call96 (c_l02Kept f7 (fop .add .f32 (oldD GL (i + 1)) (fop .mul .f32 (xS.getD i 0) (fop .sub .f32 (oldD GR i) (oldD GL (i + 1))))) hf7 lf7 wD)) ?_ ?_
  ·rintro w1 _ w2 m1 ⟨rfl, p0, m2⟩; exact ⟨⟨rfl, p0⟩, m2⟩
  rintro _ ⟨rfl, h7⟩
  refine DR.done rfl ?_
  intro w15 m11
  have r15 := ((((((((r10.ext md2).ext m7).ext m8).ext md3).ext m9).mod m10 (nC (Ne.symm n4) (nC (Ne.symm (gRL (i + 1) (show i + 1 < nR by omega))) nN))).ext md4).ext m11)
  refine WO.call rfl (.free rfl) rfl (ltb rfl) (oc_call (vs := [vP bL (0 + i * 2), vF (keptF (fop .add .f32 (oldD GL (i + 1)) (fop .mul .f32 (xS.getD i 0) (fop .sub .f32 (oldD GR i) (oldD GL (i + 1))))))]) (cap := []) rfl rfl rfl Try.call113 (c_l02PushJ (((stL GR GL xS i).getD i RD.d).xs.length) ((PL.getD i BC.d).c) ((PL.getD i BC.d).b) (((stL GR GL xS i).getD i RD.d).xs) (((stL GR GL xS i).getD i RD.d).at_) bL (0 + i * 2) (olc (stL GR GL xS i) PL) (keptF (fop .add .f32 (oldD GL (i + 1)) (fop .mul .f32 (xS.getD i 0) (fop .sub .f32 (oldD GR i) (oldD GL (i + 1)))))) rfl (by first | omega | exact GoodD.ge (by assumption) _ (by omega)) (by first | omega | exact GoodD.lt (by assumption) _ (by omega)) (by first | omega | exact Nat.le_trans (Nat.le_of_eq (stL_lens _ _)) (by first | omega | exact hzL _) | exact Nat.le_trans (Nat.le_of_eq (stR_lens _ _)) (by first | omega | exact hzR _)) (olc_fit (stL_len lDL _) lPL (show i < nL by omega) (Nat.zero_add _)) w15 (Row.congr r15 (olc_part (stL_len lDL _) lPL (show i < nL by omega) (Nat.zero_add _))) (((((((((OF.row fm3 i (lQ (show i < nL by omega) (stL_len lDL _).symm)).ext md2).ext m7).ext m8).ext md3).ext m9).mod m10 (nC (gLR i (show i < nL by omega)) (nC (Ne.symm (gPP (i + 1) i (show i + 1 < nR by omega) (show i < nL by omega))) nN))).ext md4).ext m11) (Ne.symm (gLL i (show i < nL by omega))))) ?_
  rintro _ w16 ⟨rfl, r16, r17, m12⟩
  have fm5 : OF loL w16 (pushD (stL GR GL xS i) i (keptF (fop .add .f32 (oldD GL (i + 1)) (fop .mul .f32 (xS.getD i 0) (fop .sub .f32 (oldD GR i) (oldD GL (i + 1))))))) PL := OF.upd ((((((((fm3.ext md2).ext m7).ext m8).ext md3).ext m9).mod m10 (fun j hj => (nC (gLR j (lQ hj (stL_len lDL _))) (nC (Ne.symm (gPP (i + 1) j (show i + 1 < nR by omega) (lQ hj (stL_len lDL _)))) nN)))).ext md4).ext m11) (lQ (show i < nL by omega) (stL_len lDL _).symm) m12 (fun j hj hji => (nC (gLL j (lQ hj (stL_len lDL _))) (nC (fm3.ne j i (lQ (lQ hj (stL_len lDL _)) (stL_len lDL _).symm) (lQ (show i < nL by omega) (stL_len lDL _).symm) (by omega)) nN))) r17
  have r18 : Row w16 bL 0 (olc (pushD (stL GR GL xS i) i (keptF (fop .add .f32 (oldD GL (i + 1)) (fop .mul .f32 (xS.getD i 0) (fop .sub .f32 (oldD GR i) (oldD GL (i + 1))))))) PL) := Row.congr r16 (olc_put (stL_len lDL _) lPL (show i < nL by omega) (Nat.zero_add _) ((List.length_set).trans rfl))
  refine WO.end (NE.blk (NE.code (CE.region ?_)))
  refine WD (op_move rfl) rfl ?_
  refine WD (op_add (r := ((i + 1 : Nat) : Int)) rfl rfl (w_i64 (by omega) (by omega))) rfl ?_
  refine WD (op_assign rfl) rfl ?_
  refine WL.end ?_
  have r19 := (((r14.ext md4).ext m11).mod m12 (nC n4 (nC (Ne.symm (gLR i (show i < nL by omega))) nN)))
  exact NE.again (i + 1) (⟨rfl, rfl, rfl, rfl, rfl, rfl, trivial⟩) ⟨(by omega), (by exact GoodD.push g1 (stR_len lDR _) (by assumption)), (by exact GoodD.push g2 (stL_len lDL _) (by assumption)), (Row.congr r19 rfl), (Row.congr r18 rfl), (((fm4.ext md4).ext m11).mod m12 (fun j hj => (nC (gRL j (lQ hj (pushD_len (stR_len lDR _)))) (nC (gPP j i (lQ hj (pushD_len (stR_len lDR _))) (show i < nL by omega)) nN)))), fm5, (((((((((m6.nt md2).nt m7).nt m8).nt md3).nt m9).then m10 ((aC (.inl (by simp)) (aC (.inl (by have hx := mem_bc lPR (show i + 1 < nR by omega); simp only [List.mem_cons, List.mem_append, hx, true_or, or_true])) aN)))).nt md4).nt m11).then m12 ((aC (.inl (by simp)) (aC (.inl (by have hx := mem_bc lPL (show i < nL by omega); simp only [List.mem_cons, List.mem_append, hx, true_or, or_true])) aN))))⟩ (by first | (dsimp only; omega) | omega)
 ·have hp1 := of_decide_eq_false hb1
  refine CE.cond_f rfl hb1 ?_
  refine CE.exit' (XE.exit_then (XE.exit_then (XE.exit_here (NE.code (CE.seq ?_)))))
  refine CE.draw (fun _ => none) [0, 1, 2, 3, 4, 5, 6, 7] [8, 9] [] (by kernel_rfl) (by kernel_rfl) ?_
  have md5 : Mod [] w7 w7.drew := (Mod.refl _ _).drew
  generalize w7.drew = w17 at md5 ⊢
  refine DD 0 rfl (by kernel_rfl) rfl (fun wD mD => op_move rfl) ?_
  refine DD 1 rfl (by kernel_rfl) rfl (fun wD mD => op_nilCheck rfl) ?_
  refine DD 2 rfl (by kernel_rfl) rfl (fun wD mD => op_fieldAddr (off' := 3) rfl Try.runUnderlying33 rfl rfl Try.sizeOf31 rfl) ?_
  refine DD 3 rfl (by kernel_rfl) rfl (fun wD mD => op_move rfl) ?_
  refine DD 4 rfl (by kernel_rfl) rfl (fun wD mD => op_move rfl) ?_
  refine DD 5 rfl (by kernel_rfl) rfl (fun wD mD => op_sub (r := ((nR - 1 : Nat) : Int)) rfl rfl (w_nsub (l := nR) (n := 1) (by omega) (by omega))) ?_
  refine DD 6 rfl (by kernel_rfl) rfl (fun wD mD => op_indexSl (off' := 0 + (nR - 1)) rfl (h1 (by omega)) rfl Try.runUnderlying26 Try.sizeOf27 (by omega) (by omega) (by omega)) ?_
  refine DD 7 rfl (by kernel_rfl) rfl (fun wD mD => op_load1 (i := (nR - 1)) rfl Try.isAgg27 ((((((((r1.ext m2).ext m3).ext md1).ext m4).mod m5 (nC (lG (lL rR.lt ge1)) (nC (Ne.symm (lE (lL (OF.lt FR (lQ (show 0 < nR by omega) lDR.symm)) ge1))) nN))).mod m6 (nC (lG (lL rR.lt ge1)) (nC (lG (lL rL.lt ge1)) (nA lPR (fun j hj => (lE (lL (OF.lt FR (lQ hj lDR.symm)) ge1))) (nA lPL (fun j hj => (lE (lL (OF.lt FL (lQ hj lDL.symm)) ge1))) nN))))).ext md5).ext mD).rng rfl (fl_get_eq (by have eL : List.length (outs (oldD GR) nR) = nR := (outs_len _ _); omega) (outs_get (by omega)))) ?_
  refine DR.done rfl ?_
  intro w18 m13
  have r20 := (((((((((q.ext m1).ext m2).ext m3).ext md1).ext m4).mod m5 (nC n1 (nC (Ne.symm (gRp 0 (show 0 < nR by omega))) nN))).mod m6 (nC n1 (nC n2 (nA lPR (fun j hj => (gRp j hj)) (nA lPL (fun j hj => (gLp j hj)) nN))))).ext md5).ext m13)
  refine WO.call rfl (.free rfl) rfl (ltb rfl) (oc_call (vs := [vP p 3, vF (oldD GR (nR - 1))]) (cap := []) rfl rfl rfl Try.call115 (c_l02Step k kc0 kc1 kc2 ks0 ks1 p 3 [vS bR 0 nR cR, vS bL 0 nL cL, vS bS 0 nS cS, vI k, vF kc0, vF kc1, vF kc2, vF ks0, vF ks1, .bool op, vF lo, vF re, vF sl] (oldD GR (nR - 1)) (oldD GR (nR - 1)) lks0 lks1 (lB rfl) rfl (by first | exact gR.old _ | exact gL.old _) w18 (Row.congr r20 rfl))) ?_
  rintro _ w19 ⟨y1, rfl, h8, h9, h10, h11, r21, m14⟩
  have r22 : Row w19 p 0 [vS bR 0 nR cR, vS bL 0 nL cL, vS bS 0 nS cS, vI k, vF kc0, vF kc1, vF kc2, vF (stepS k kc0 kc1 kc2 ks0 ks1 (oldD GR (nR - 1))), vF (stepT k kc0 kc1 kc2 ks0 ks1 (oldD GR (nR - 1))), .bool op, vF lo, vF re, vF sl] := r21
  refine WO.det (op_assign rfl) rfl (.free rfl) rfl rfl ?_
  refine WO.end (NE.code (CE.seq (CE.region ?_)))
  refine WD (op_move rfl) rfl ?_
  refine WD (op_nilCheck rfl) rfl ?_
  refine WD (op_fieldAddr (off' := 10) rfl Try.runUnderlying33 rfl rfl Try.sizeOf27 rfl) rfl ?_
  refine WD (op_load1 (i := 10) rfl Try.isAgg27 r22.rng rfl rfl) rfl ?_
  refine WD (op_move rfl) rfl ?_
  refine WL.op (op_farith (e := (fop .mul .f32 lo (stepY k kc0 kc1 kc2 ks0 ks1 (oldD GR (nR - 1))))) (.inr (.inr (.inl rfl))) rfl rfl rfl h8 rfl) rfl rfl (ltb rfl) ?_
  rintro _ w20 ⟨⟨f8, rfl, hf8, lf8⟩, m15⟩
  refine WD (op_assign rfl) rfl ?_
  refine WL.end (NE.code (CE.seq (CE.seq (CE.region ?_))))
  refine WD (op_move rfl) rfl ?_
  refine WD (op_nilCheck rfl) rfl ?_
  refine WD (op_fieldAddr (off' := 9) rfl Try.runUnderlying33 rfl rfl Try.sizeOf4 rfl) rfl ?_
  refine WD (op_load1 (i := 9) rfl Try.isAgg4 (r22.ext m15).rng rfl rfl) rfl ?_
  refine WL.end (NE.code ?_)
  rcases Bool.eq_false_or_eq_true (op) with hb2 | hb2
  ·refine CE.cond_t rfl hb2 ?_
   refine CE.region ?_
   refine WD (op_move rfl) rfl ?_
   refine WD (op_negf rfl) rfl ?_
   refine WD (op_assign rfl) rfl ?_
   refine WL.end (NE.code (CE.seq ?_))
   refine CE.draw (fun | 8 => some (fun _ wA uA wB => uA = vF (keptF (Op.negFloat .f32 (fop .mul .f32 lo (stepY k kc0 kc1 kc2 ks0 ks1 (oldD GR (nR - 1)))))) ∧ (keptF (Op.negFloat .f32 (fop .mul .f32 lo (stepY k kc0 kc1 kc2 ks0 ks1 (oldD GR (nR - 1))))) < wid .f32) ∧ Mod [] wA wB) | _ => none) [0, 1, 2, 3, 4, 5, 6, 7, 8] [9] [] (by kernel_rfl) (by kernel_rfl) ?_
   have md6 : Mod [] w20 w20.drew := (Mod.refl _ _).drew
   generalize w20.drew = w21 at md6 ⊢
   refine DD 0 rfl (by kernel_rfl) rfl (fun wD mD => op_move rfl) ?_
   refine DD 1 rfl (by kernel_rfl) rfl (fun wD mD => op_nilCheck rfl) ?_
   refine DD 2 rfl (by kernel_rfl) rfl (fun wD mD => op_fieldAddr (off' := 1) rfl Try.runUnderlying33 rfl rfl Try.sizeOf25 rfl) ?_
   refine DD 3 rfl (by kernel_rfl) rfl (fun wD mD => op_load1 (i := 1) rfl Try.isAgg25 (((r22.ext m15).ext md6).ext mD).rng rfl rfl) ?_
   refine DD 4 rfl (by kernel_rfl) rfl (fun wD mD => op_move rfl) ?_
   refine DD 5 rfl (by kernel_rfl) rfl (fun wD mD => op_sub (r := ((nR - 1 : Nat) : Int)) rfl rfl (w_nsub (l := nR) (n := 1) (by omega) (by omega))) ?_
   refine DD 6 rfl (by kernel_rfl) rfl (fun wD mD => op_indexSl (off' := 0 + (nR - 1) * 2) rfl rfl rfl Try.runUnderlying25 Try.sizeOf60 (by omega) (by omega) (by omega)) ?_
   refine DD 7 rfl (by kernel_rfl) rfl (fun wD mD => op_move rfl) ?_
   refine DR.call (i := 8) (fun uA => uA = vF (keptF (Op.negFloat .f32 (fop .mul .f32 lo (stepY k kc0 kc1 kc2 ks0 ks1 (oldD GR (nR - 1)))))) ∧ (keptF (Op.negFloat .f32 (fop .mul .f32 lo (stepY k kc0 kc1 kc2 ks0 ks1 (oldD GR (nR - 1))))) < wid .f32)) rfl rfl (by kernel_rfl) (.free rfl) rfl (ltb rfl) ⟨_, rfl, keptF_wid (negf_congr hf8) (negFloat_lt lf8)⟩ (vs := [.func (.func 96) #[] #[], vF (Op.negFloat .f32 f8)]) rfl (fun wD mD => oc_call (vs := [vF (Op.negFloat .f32 f8)]) (cap := []) rfl rfl rfl Try.call96 (c_l02Kept (Op.negFloat .f32 f8) (Op.negFloat .f32 (fop .mul .f32 lo (stepY k kc0 kc1 kc2 ks0 ks1 (oldD GR (nR - 1))))) (negf_congr hf8) (negFloat_lt lf8) wD)) ?_ ?_
   ·rintro w1 _ w2 m1 ⟨rfl, p0, m2⟩; exact ⟨⟨rfl, p0⟩, m2⟩
   rintro _ ⟨rfl, h12⟩
   refine DR.done rfl ?_
   intro w22 m16
   have r23 := ((((((r10.ext md5).ext m13).mod m14 (nC (Ne.symm n2) nN)).ext m15).ext md6).ext m16)
   refine WO.call rfl (.free rfl) rfl (ltb rfl) (oc_call (vs := [vP bL (0 + (nR - 1) * 2), vF (keptF (Op.negFloat .f32 (fop .mul .f32 lo (stepY k kc0 kc1 kc2 ks0 ks1 (oldD GR (nR - 1))))))]) (cap := []) rfl rfl rfl Try.call113 (c_l02PushJ (((stL GR GL xS i).getD (nR - 1) RD.d).xs.length) ((PL.getD (nR - 1) BC.d).c) ((PL.getD (nR - 1) BC.d).b) (((stL GR GL xS i).getD (nR - 1) RD.d).xs) (((stL GR GL xS i).getD (nR - 1) RD.d).at_) bL (0 + (nR - 1) * 2) (olc (stL GR GL xS i) PL) (keptF (Op.negFloat .f32 (fop .mul .f32 lo (stepY k kc0 kc1 kc2 ks0 ks1 (oldD GR (nR - 1)))))) rfl (by first | omega | exact GoodD.ge (by assumption) _ (by omega)) (by first | omega | exact GoodD.lt (by assumption) _ (by omega)) (by first | omega | exact Nat.le_trans (Nat.le_of_eq (stL_lens _ _)) (by first | omega | exact hzL _) | exact Nat.le_trans (Nat.le_of_eq (stR_lens _ _)) (by first | omega | exact hzR _)) (olc_fit (stL_len lDL _) lPL (show (nR - 1) < nL by omega) (Nat.zero_add _)) w22 (Row.congr r23 (olc_part (stL_len lDL _) lPL (show (nR - 1) < nL by omega) (Nat.zero_add _))) (((((((OF.row fm3 (nR - 1) (lQ (show nR - 1 < nL by omega) (stL_len lDL _).symm)).ext md5).ext m13).mod m14 (nC (gLp (nR - 1) (show nR - 1 < nL by omega)) nN)).ext m15).ext md6).ext m16) (Ne.symm (gLL (nR - 1) (show nR - 1 < nL by omega))))) ?_
   rintro _ w23 ⟨rfl, r24, r25, m17⟩
   have fm6 : OF loL w23 (pushD (stL GR GL xS i) (nR - 1) (keptF (Op.negFloat .f32 (fop .mul .f32 lo (stepY k kc0 kc1 kc2 ks0 ks1 (oldD GR (nR - 1))))))) PL := OF.upd ((((((fm3.ext md5).ext m13).mod m14 (fun j hj => (nC (gLp j (lQ hj (stL_len lDL _))) nN))).ext m15).ext md6).ext m16) (lQ (show (nR - 1) < nL by omega) (stL_len lDL _).symm) m17 (fun j hj hji => (nC (gLL j (lQ hj (stL_len lDL _))) (nC (fm3.ne j (nR - 1) (lQ (lQ hj (stL_len lDL _)) (stL_len lDL _).symm) (lQ (show nR - 1 < nL by omega) (stL_len lDL _).symm) (by omega)) nN))) r25
   have r26 : Row w23 bL 0 (olc (pushD (stL GR GL xS i) (nR - 1) (keptF (Op.negFloat .f32 (fop .mul .f32 lo (stepY k kc0 kc1 kc2 ks0 ks1 (oldD GR (nR - 1))))))) PL) := Row.congr r24 (olc_put (stL_len lDL _) lPL (show (nR - 1) < nL by omega) (Nat.zero_add _) ((List.length_set).trans rfl))
   refine WO.end (NE.code (CE.seq (CE.region ?_)))
   refine WD (op_move rfl) rfl ?_
   refine WD (op_assign rfl) rfl ?_
   refine WL.end (NE.code (CE.ret' ?_))
   have ei : nS = i := by omega
   subst ei
   refine XE.leave1 Try.results60 rfl ?_
   have r27 := ((((r22.ext m15).ext md6).ext m16).mod m17 (nC n2 (nC (Ne.symm (gLp (nR - 1) (show nR - 1 < nL by omega))) nN)))
   have r28 := (((((((r9.ext md5).ext m13).mod m14 (nC (Ne.symm n1) nN)).ext m15).ext md6).ext m16).mod m17 (nC n4 (nC (Ne.symm (gLR (nR - 1) (show nR - 1 < nL by omega))) nN)))
   refine ⟨y1, rfl, h8, h9, ?_, ?_, ?_, ?_, r27, r28, (Row.congr r26 ?_), (((((((fm2.ext md5).ext m13).mod m14 (fun j hj => (nC (gRp j (lQ hj (stR_len lDR _))) nN))).ext m15).ext md6).ext m16).mod m17 (fun j hj => (nC (gRL j (lQ hj (stR_len lDR _))) (nC (gPP j (nR - 1) (lQ hj (stR_len lDR _)) (show nR - 1 < nL by omega)) nN)))), (OF.congr fm6 (by first | rfl | (unfold endL backT; first | rw [if_pos (by assumption)] | rw [if_neg (by simp_all)]))), (((((((((((((((Mod.refl (p :: bR :: bL :: (PR.map BC.b ++ (PL.map BC.b ++ []))) w).nt m1).nt m2).nt m3).nt md1).nt m4).then m5 ((aC (.inl (by simp)) (aC (.inl (by have hx := mem_bc lPR (show 0 < nR by omega); simp only [List.mem_cons, List.mem_append, hx, true_or, or_true])) aN)))).then m6 ((aC (.inl (by simp)) (aC (.inl (by simp)) (aI (fun x hx => by simp only [List.mem_cons, List.mem_append, hx, true_or, or_true]) (aI (fun x hx => by simp only [List.mem_cons, List.mem_append, hx, true_or, or_true]) aN)))))).nt md5).nt m13).then m14 ((aC (.inl (by simp)) aN))).nt m15).nt md6).nt m16).then m17 ((aC (.inl (by simp)) (aC (.inl (by have hx := mem_bc lPL (show nR - 1 < nL by omega); simp only [List.mem_cons, List.mem_append, hx, true_or, or_true])) aN))))⟩
   all_goals first | assumption | rfl | (unfold endL backT; rw [if_pos (by assumption)]; done) | (unfold endL backT; rw [if_neg (by simp_all)]; done) | (unfold endL backT; rw [if_pos (by assumption)]; exact GoodD.push (by assumption) (stL_len lDL _) (by assumption)) | (unfold endL backT; rw [if_neg (by simp_all)]; exact GoodD.push (by assumption) (stL_len lDL _) (by assumption))
  ·refine CE.cond_f rfl hb2 ?_
   refine CE.skip' (NE.code (CE.seq ?_))
   refine CE.draw (fun | 8 => some (fun _ wA uA wB => uA = vF (keptF (fop .mul .f32 lo (stepY k kc0 kc1 kc2 ks0 ks1 (oldD GR (nR - 1))))) ∧ (keptF (fop .mul .f32 lo (stepY k kc0 kc1 kc2 ks0 ks1 (oldD GR (nR - 1)))) < wid .f32) ∧ Mod [] wA wB) | _ => none) [0, 1, 2, 3, 4, 5, 6, 7, 8] [9] [] (by kernel_rfl) (by kernel_rfl) ?_
   have md7 : Mod [] w20 w20.drew := (Mod.refl _ _).drew
   generalize w20.drew = w24 at md7 ⊢
   refine DD 0 rfl (by kernel_rfl) rfl (fun wD mD => op_move rfl) ?_
   refine DD 1 rfl (by kernel_rfl) rfl (fun wD mD => op_nilCheck rfl) ?_
   refine DD 2 rfl (by kernel_rfl) rfl (fun wD mD => op_fieldAddr (off' := 1) rfl Try.runUnderlying33 rfl rfl Try.sizeOf25 rfl) ?_
   refine DD 3 rfl (by kernel_rfl) rfl (fun wD mD => op_load1 (i := 1) rfl Try.isAgg25 (((r22.ext m15).ext md7).ext mD).rng rfl rfl) ?_
   refine DD 4 rfl (by kernel_rfl) rfl (fun wD mD => op_move rfl) ?_
   refine DD 5 rfl (by kernel_rfl) rfl (fun wD mD => op_sub (r := ((nR - 1 : Nat) : Int)) rfl rfl (w_nsub (l := nR) (n := 1) (by omega) (by omega))) ?_
   refine DD 6 rfl (by kernel_rfl) rfl (fun wD mD => op_indexSl (off' := 0 + (nR - 1) * 2) rfl rfl rfl Try.runUnderlying25 Try.sizeOf60 (by omega) (by omega) (by omega)) ?_
   refine DD 7 rfl (by kernel_rfl) rfl (fun wD mD => op_move rfl) ?_
   refine DR.call (i := 8) (fun uA => uA = vF (keptF (fop .mul .f32 lo (stepY k kc0 kc1 kc2 ks0 ks1 (oldD GR (nR - 1))))) ∧ (keptF (fop .mul .f32 lo (stepY k kc0 kc1 kc2 ks0 ks1 (oldD GR (nR - 1)))) < wid .f32)) rfl rfl (by kernel_rfl) (.free rfl) rfl (ltb rfl) ⟨_, rfl, keptF_wid hf8 lf8⟩ (vs := [.func (.func 96) #[] #[], vF f8]) rfl (fun wD mD => oc_call (vs := [vF f8]) (cap := []) rfl rfl rfl Try.call96 (c_l02Kept f8 (fop .mul .f32 lo (stepY k kc0 kc1 kc2 ks0 ks1 (oldD GR (nR - 1)))) hf8 lf8 wD)) ?_ ?_
   ·rintro w1 _ w2 m1 ⟨rfl, p0, m2⟩; exact ⟨⟨rfl, p0⟩, m2⟩
   rintro _ ⟨rfl, h13⟩
   refine DR.done rfl ?_
   intro w25 m18
   have r29 := ((((((r10.ext md5).ext m13).mod m14 (nC (Ne.symm n2) nN)).ext m15).ext md7).ext m18)
   refine WO.call rfl (.free rfl) rfl (ltb rfl) (oc_call (vs := [vP bL (0 + (nR - 1) * 2), vF (keptF (fop .mul .f32 lo (stepY k kc0 kc1 kc2 ks0 ks1 (oldD GR (nR - 1)))))]) (cap := []) rfl rfl rfl Try.call113 (c_l02PushJ (((stL GR GL xS i).getD (nR - 1) RD.d).xs.length) ((PL.getD (nR - 1) BC.d).c) ((PL.getD (nR - 1) BC.d).b) (((stL GR GL xS i).getD (nR - 1) RD.d).xs) (((stL GR GL xS i).getD (nR - 1) RD.d).at_) bL (0 + (nR - 1) * 2) (olc (stL GR GL xS i) PL) (keptF (fop .mul .f32 lo (stepY k kc0 kc1 kc2 ks0 ks1 (oldD GR (nR - 1))))) rfl (by first | omega | exact GoodD.ge (by assumption) _ (by omega)) (by first | omega | exact GoodD.lt (by assumption) _ (by omega)) (by first | omega | exact Nat.le_trans (Nat.le_of_eq (stL_lens _ _)) (by first | omega | exact hzL _) | exact Nat.le_trans (Nat.le_of_eq (stR_lens _ _)) (by first | omega | exact hzR _)) (olc_fit (stL_len lDL _) lPL (show (nR - 1) < nL by omega) (Nat.zero_add _)) w25 (Row.congr r29 (olc_part (stL_len lDL _) lPL (show (nR - 1) < nL by omega) (Nat.zero_add _))) (((((((OF.row fm3 (nR - 1) (lQ (show nR - 1 < nL by omega) (stL_len lDL _).symm)).ext md5).ext m13).mod m14 (nC (gLp (nR - 1) (show nR - 1 < nL by omega)) nN)).ext m15).ext md7).ext m18) (Ne.symm (gLL (nR - 1) (show nR - 1 < nL by omega))))) ?_
   rintro _ w26 ⟨rfl, r30, r31, m19⟩
   have fm7 : OF loL w26 (pushD (stL GR GL xS i) (nR - 1) (keptF (fop .mul .f32 lo (stepY k kc0 kc1 kc2 ks0 ks1 (oldD GR (nR - 1)))))) PL := OF.upd ((((((fm3.ext md5).ext m13).mod m14 (fun j hj => (nC (gLp j (lQ hj (stL_len lDL _))) nN))).ext m15).ext md7).ext m18) (lQ (show (nR - 1) < nL by omega) (stL_len lDL _).symm) m19 (fun j hj hji => (nC (gLL j (lQ hj (stL_len lDL _))) (nC (fm3.ne j (nR - 1) (lQ (lQ hj (stL_len lDL _)) (stL_len lDL _).symm) (lQ (show nR - 1 < nL by omega) (stL_len lDL _).symm) (by omega)) nN))) r31
   have r32 : Row w26 bL 0 (olc (pushD (stL GR GL xS i) (nR - 1) (keptF (fop .mul .f32 lo (stepY k kc0 kc1 kc2 ks0 ks1 (oldD GR (nR - 1)))))) PL) := Row.congr r30 (olc_put (stL_len lDL _) lPL (show (nR - 1) < nL by omega) (Nat.zero_add _) ((List.length_set).trans rfl))
   refine WO.end (NE.code (CE.seq (CE.region ?_)))
   refine WD (op_move rfl) rfl ?_
   refine WD (op_assign rfl) rfl ?_
   refine WL.end (NE.code (CE.ret' ?_))
   have ei : nS = i := by omega
   subst ei
   refine XE.leave1 Try.results60 rfl ?_
   have r33 := ((((r22.ext m15).ext md7).ext m18).mod m19 (nC n2 (nC (Ne.symm (gLp (nR - 1) (show nR - 1 < nL by omega))) nN)))
   have r34 := (((((((r9.ext md5).ext m13).mod m14 (nC (Ne.symm n1) nN)).ext m15).ext md7).ext m18).mod m19 (nC n4 (nC (Ne.symm (gLR (nR - 1) (show nR - 1 < nL by omega))) nN)))
   refine ⟨y1, rfl, h8, h9, ?_, ?_, ?_, ?_, r33, r34, (Row.congr r32 ?_), (((((((fm2.ext md5).ext m13).mod m14 (fun j hj => (nC (gRp j (lQ hj (stR_len lDR _))) nN))).ext m15).ext md7).ext m18).mod m19 (fun j hj => (nC (gRL j (lQ hj (stR_len lDR _))) (nC (gPP j (nR - 1) (lQ hj (stR_len lDR _)) (show nR - 1 < nL by omega)) nN)))), (OF.congr fm7 (by first | rfl | (unfold endL backT; first | rw [if_pos (by assumption)] | rw [if_neg (by simp_all)]))), (((((((((((((((Mod.refl (p :: bR :: bL :: (PR.map BC.b ++ (PL.map BC.b ++ []))) w).nt m1).nt m2).nt m3).nt md1).nt m4).then m5 ((aC (.inl (by simp)) (aC (.inl (by have hx := mem_bc lPR (show 0 < nR by omega); simp only [List.mem_cons, List.mem_append, hx, true_or, or_true])) aN)))).then m6 ((aC (.inl (by simp)) (aC (.inl (by simp)) (aI (fun x hx => by simp only [List.mem_cons, List.mem_append, hx, true_or, or_true]) (aI (fun x hx => by simp only [List.mem_cons, List.mem_append, hx, true_or, or_true]) aN)))))).nt md5).nt m13).then m14 ((aC (.inl (by simp)) aN))).nt m15).nt md7).nt m18).then m19 ((aC (.inl (by simp)) (aC (.inl (by have hx := mem_bc lPL (show nR - 1 < nL by omega); simp only [List.mem_cons, List.mem_append, hx, true_or, or_true])) aN))))⟩
   all_goals first | assumption | rfl | (unfold endL backT; rw [if_pos (by assumption)]; done) | (unfold endL backT; rw [if_neg (by simp_all)]; done) | (unfold endL backT; rw [if_pos (by assumption)]; exact GoodD.push (by assumption) (stL_len lDL _) (by assumption)) | (unfold endL backT; rw [if_neg (by simp_all)]; exact GoodD.push (by assumption) (stL_len lDL _) (by assumption))

end Go.Proofs.Ytnahhdnkbbdceaa
