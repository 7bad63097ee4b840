/- What a pulse does. -/
import Derived.Test.YtnahhdnkbbdceaaS8
import Derived.Test.YtnahhdnkbbdceaaE19
import Derived.Test.YtnahhdnkbbdceaaE20
set_option linter.unusedVariables false
set_option linter.unusedSimpArgs false
set_option maxRecDepth 100000
set_option maxHeartbeats 8000000
namespace Go.Proofs.Ytnahhdnkbbdceaa

theorem c_sPulseS (nR : Nat) (GR : List RD) (nL : Nat) (GL : List RD) (nS : Nat) (xS : List Nat) (cR : Nat) (bR : Nat) (PR : List BC) (loR : Nat) (cL : Nat) (bL : Nat) (PL : List BC) (loL : Nat) (cS : Nat) (bS : Nat) (k : Int) (kc0 : Nat) (kc1 : Nat) (kc2 : Nat) (ks0 : Nat) (ks1 : Nat) (op : Bool) (lo : Nat) (re : Nat) (sl : Nat) (m : Nat) (pl : Nat) (a : Nat) (aR : Nat) (aL : Nat) (ZR : List RD) (ZL : List RD) (lDR : GR.length = nR) (lDL : GL.length = nL) (lnS : xS.length = nS) (hzR : ∀ i, (GR.getD i RD.d).xs.length ≤ 1048576) (hzL : ∀ i, (GL.getD i RD.d).xs.length ≤ 1048576) (lPR : PR.length = nR) (lPL : PL.length = nL) (mR : nR ≤ 1048576) (mL : nL ≤ 1048576) (mS : nS ≤ 1048576) (h0n : 0 < nR) (h0m : 0 < nL) (hpR : ∀ i, i < nR → 0 < (GR.getD i RD.d).xs.length) (hpL : ∀ i, i < nL → 0 < (GL.getD i RD.d).xs.length) (hs : 1 ≤ nR ∧ nR ≤ 3 ∧ nL = nR ∧ nS + 1 = nR) (h0s : 0 < nS) (hm : m < nR) (hnn : nL = nR) (hpl : pl < (GR.getD m RD.d).xs.length) (heR : (GR.getD m RD.d).at_ = ((aR : Nat) : Int)) (heL : (GL.getD m RD.d).at_ = ((aL : Nat) : Int)) (hlR : aR < (GR.getD m RD.d).xs.length) (hlL : aL < (GL.getD m RD.d).xs.length) (hll : (GR.getD m RD.d).xs.length = (GL.getD m RD.d).xs.length) (wR : W32 (GR.getD m RD.d).xs) (wL : W32 (GL.getD m RD.d).xs) (hv : vPipe nR nL nS GR GL xS k kc0 kc1 kc2 ks0 ks1 lo re sl = true) (hf : finF a = true) (la : a < wid .f32) (eZR : ZR = (GR.set m ⟨((GR.getD m RD.d).xs.set ((aR + (GR.getD m RD.d).xs.length - 1 - pl) % (GR.getD m RD.d).xs.length) (keptF (fop .add .f32 ((GR.getD m RD.d).xs.getD ((aR + (GR.getD m RD.d).xs.length - 1 - pl) % (GR.getD m RD.d).xs.length) 0) (fop .mul .f32 1056964608 a)))), (GR.getD m RD.d).at_⟩)) (eZL : ZL = (GL.set m ⟨((GL.getD m RD.d).xs.set ((aL + pl) % (GR.getD m RD.d).xs.length) (keptF (fop .add .f32 ((GL.getD m RD.d).xs.getD ((aL + pl) % (GR.getD m RD.d).xs.length) 0) (fop .mul .f32 1056964608 a)))), (GL.getD m RD.d).at_⟩)) (lZR : ZR.length = nR) (lZL : ZL.length = nL) (w : World) (rR : Rng w bR 0 (olc GR PR)) (rL : Rng w bL 0 (olc GL PL)) (rS : Rng w bS 0 (fl xS))  (FR : OF loR w GR PR) (FL : OF loL w GL PL) : Cl Try.prog 36 #[.agg #[vS bR 0 nR cR, vS bL 0 nL cL, vS bS 0 nS cS, vI k, vF kc0, vF kc1, vF kc2, vF ks0, vF ks1, .bool op, vF lo, vF re, vF sl], vI ((m : Nat) : Int), vI ((pl : Nat) : Int), vF a] w fun v w' => ∃ (bR' : Nat) (cR' : Nat) (PR' : List BC) (bL' : Nat) (cL' : Nat) (PL' : List BC) (bS' : Nat) (cS' : Nat), v = .tuple #[.agg #[vS bR' 0 nR cR', vS bL' 0 nL cL', vS bS' 0 nS cS', vI k, vF kc0, vF kc1, vF kc2, vF ks0, vF ks1, .bool op, vF lo, vF re, vF sl], vI 0] ∧ (PR'.length = nR) ∧ (PL'.length = nL) ∧ Row w' bR' 0 (olc ZR PR') ∧ Row w' bL' 0 (olc ZL PL') ∧ Row w' bS' 0 (fl xS) ∧ w.heap.size ≤ bR' ∧ w.heap.size ≤ bL' ∧ w.heap.size ≤ bS' ∧ bR' ≠ bL' ∧ bR' ≠ bS' ∧ bL' ≠ bS' ∧ OF w.heap.size w' ZR PR' ∧ (∀ i, i < nR → (PR'.getD i BC.d).b ≠ bR') ∧ (∀ i, i < nR → (PR'.getD i BC.d).b ≠ bL') ∧ (∀ i, i < nR → (PR'.getD i BC.d).b ≠ bS') ∧ (∀ i j, i < nR → j < nL → (PR'.getD i BC.d).b ≠ (PL'.getD j BC.d).b) ∧ OF w.heap.size w' ZL PL' ∧ (∀ i, i < nL → (PL'.getD i BC.d).b ≠ bR') ∧ (∀ i, i < nL → (PL'.getD i BC.d).b ≠ bL') ∧ (∀ i, i < nL → (PL'.getD i BC.d).b ≠ bS') ∧ Mod [] w w' := by
 have hzm := hzR m
 have hzl := hzL m
 have hIR : ((aR + (GR.getD m RD.d).xs.length - 1 - pl) % (GR.getD m RD.d).xs.length) < (GR.getD m RD.d).xs.length := Nat.mod_lt _ (by omega)
 have hIL : ((aL + pl) % (GR.getD m RD.d).xs.length) < (GR.getD m RD.d).xs.length := Nat.mod_lt _ (by omega)
 refine Cl.of Try.func36 Try.ntmps36 rfl rfl (ρ := [(0, .agg #[vS bR 0 nR cR, vS bL 0 nL cL, vS bS 0 nS cS, vI k, vF kc0, vF kc1, vF kc2, vF ks0, vF ks1, .bool op, vF lo, vF re, vF sl]), (1, vI ((m : Nat) : Int)), (2, vI ((pl : Nat) : Int)), (3, vF a)]) rfl ?_
 refine CE.seq (CE.region ?_)
 refine WL.op (op_box (cs := [vS bR 0 nR cR, vS bL 0 nL cL, vS bS 0 nS cS, vI k, vF kc0, vF kc1, vF kc2, vF ks0, vF ks1, .bool op, vF lo, vF re, vF sl]) rfl rfl) rfl rfl (ltb rfl) ?_
 rintro _ w1 ⟨rfl, r1, m1, z1⟩
 refine WL.op (op_alloc (cs := [.slice none 0 0, .slice none 0 0, .slice none 0 0, vI 0, vF 0, vF 0, vF 0, vF 0, vF 0, .bool false, vF 0, vF 0, vF 0]) Try.zeroValue33 rfl) rfl rfl (ltb rfl) ?_
 rintro _ w2 ⟨rfl, r2, m2, z2⟩
 refine WD (op_assign rfl) rfl ?_
 refine WL.end (NE.code (CE.seq (CE.seq (CE.region ?_))))
 refine WL.call (oc_call (vs := [vP w.heap.size 0]) (cap := []) rfl rfl rfl Try.call57 (c_l04OkS nR GR nL GL nS xS cR bR PR loR cL bL PL loL cS bS k kc0 kc1 kc2 ks0 ks1 op lo re sl w.heap.size lDR lDL lnS (by first | assumption | exact rd_small (by assumption) (by assumption) | exact markD_small (by first | assumption | exact rd_small (by assumption) (by assumption)) _) (by first | assumption | exact rd_small (by assumption) (by assumption) | exact markD_small (by first | assumption | exact rd_small (by assumption) (by assumption)) _) lPR lPL (by first | assumption | omega) (by first | assumption | omega) (by first | assumption | omega) (by omega) w2 (r1.ext m2).rng ((rR.ext m1).ext m2) ((rL.ext m1).ext m2) ((rS.ext m1).ext m2) ((FR.ext m1).ext m2) ((FL.ext m1).ext m2))) rfl rfl (ltb rfl) ?_
 rintro _ w3 ⟨rfl, m3⟩
 refine WD (op_not rfl) rfl ?_
 refine WL.end (NE.code ?_)
 refine CE.cond_f rfl (bnot_t hv) ?_
 refine CE.skip' (NE.code (CE.seq (CE.seq (CE.region ?_))))
 iterate 2 refine WD (op_move rfl) rfl ?_
 have r3 := (((rR.ext m1).ext m2).ext m3)
 have r4 := (((rL.ext m1).ext m2).ext m3)
 have r5 := (((rS.ext m1).ext m2).ext m3)
 refine WL.call (oc_call (vs := [vP w.heap.size 0, vI ((m : Nat) : Int), vI ((pl : Nat) : Int)]) (cap := []) rfl rfl rfl Try.call94 (c_l04PlaceS nR GR nL GL nS xS cR bR PR loR cL bL PL loL cS bS k kc0 kc1 kc2 ks0 ks1 op lo re sl w.heap.size ((m : Nat) : Int) ((pl : Nat) : Int) lDR lDL lnS (by first | assumption | exact rd_small (by assumption) (by assumption) | exact markD_small (by first | assumption | exact rd_small (by assumption) (by assumption)) _) (by first | assumption | exact rd_small (by assumption) (by assumption) | exact markD_small (by first | assumption | exact rd_small (by assumption) (by assumption)) _) lPR lPL (by first | assumption | omega) (by first | assumption | omega) (by first | assumption | omega) w3 ((r1.ext m2).ext m3).rng r3 r4 r5 (((FR.ext m1).ext m2).ext m3) (((FL.ext m1).ext m2).ext m3))) rfl rfl (ltb rfl) ?_
 rintro _ w4 ⟨rfl, m4⟩
 refine WD (op_not rfl) rfl ?_
 refine WD (op_move rfl) rfl ?_
 refine WL.yes rfl rfl rfl (ltb rfl) rfl (bnot_t (by simp only [Int.toNat_natCast, Bool.and_eq_true, vIn_t]; omega)) ?_
 refine WD (op_move rfl) rfl ?_
 refine WL.yes rfl rfl rfl (ltb rfl) rfl (bnot_t (by simp only [Int.toNat_natCast, Bool.and_eq_true, vIn_t]; omega)) ?_
 refine WL.call (oc_call (vs := [vF a]) (cap := []) rfl rfl rfl Try.call58 (c_l01Finite a a rfl w4)) rfl rfl (ltb rfl) ?_
 rintro _ w5 ⟨rfl, m5⟩
 refine WL.yes rfl rfl rfl (ltb rfl) rfl (bnot_t (by simp only [Int.toNat_natCast, Bool.and_eq_true, vIn_t]; omega)) ?_
 refine WD (op_not rfl) rfl ?_
 refine WD (op_pick_f rfl (bnot_t (by simp only [Int.toNat_natCast, Bool.and_eq_true, vIn_t]; omega)) rfl) rfl ?_
 refine WL.end (NE.code ?_)
 refine CE.cond_f rfl (bnot_t hf) ?_
 refine CE.skip' (NE.code (CE.seq (CE.region ?_)))
 have r6 := ((((r1.ext m2).ext m3).ext m4).ext m5)
 refine WL.call (oc_call (vs := [vP w.heap.size 0]) (cap := []) rfl rfl rfl Try.call59 (c_l04CopyS nR GR nL GL nS xS cR bR PR loR cL bL PL loL cS bS k kc0 kc1 kc2 ks0 ks1 op lo re sl w.heap.size lDR lDL lnS (by first | assumption | exact rd_small (by assumption) (by assumption) | exact markD_small (by first | assumption | exact rd_small (by assumption) (by assumption)) _) (by first | assumption | exact rd_small (by assumption) (by assumption) | exact markD_small (by first | assumption | exact rd_small (by assumption) (by assumption)) _) lPR lPL (by first | assumption | omega) (by first | assumption | omega) (by first | assumption | omega) (by omega) (by omega) (by first | assumption | exact vRings_pos (by assumption)) (by first | assumption | exact vRings_pos (by assumption)) (by first | assumption | omega) w5 r6.rng ((r3.ext m4).ext m5) ((r4.ext m4).ext m5) ((r5.ext m4).ext m5) (((((FR.ext m1).ext m2).ext m3).ext m4).ext m5) (((((FL.ext m1).ext m2).ext m3).ext m4).ext m5))) rfl rfl (ltb rfl) ?_
 rintro _ w6 ⟨bR'1, cR'1, PR'1, bL'1, cL'1, PL'1, bS'1, cS'1, rfl, h1, h2, r7, r8, r9, ge1, ge2, ge3, ne1, ne2, ne3, fm1, fn1, fn2, fn3, fn4, fm2, fn5, fn6, fn7, m6⟩
 refine WL.op (op_alloc (cs := [.slice none 0 0, .slice none 0 0, .slice none 0 0, vI 0, vF 0, vF 0, vF 0, vF 0, vF 0, .bool false, vF 0, vF 0, vF 0]) Try.zeroValue33 rfl) rfl rfl (ltb rfl) ?_
 rintro _ w7 ⟨rfl, r10, m7, z3⟩
 refine WL.op0 (op_store (i := 0) (cs := [vS bR'1 0 nR cR'1, vS bL'1 0 nL cL'1, vS bS'1 0 nS cS'1, vI k, vF kc0, vF kc1, vF kc2, vF ks0, vF ks1, .bool op, vF lo, vF re, vF sl]) rfl rfl rfl Try.sizeOf33 rfl r10 rfl (lB rfl) rfl) rfl rfl ?_
 rintro _ w8 ⟨r11, m8, z4⟩
 have r12 : Row w8 w6.heap.size 0 [vS bR'1 0 nR cR'1, vS bL'1 0 nL cL'1, vS bS'1 0 nS cS'1, vI k, vF kc0, vF kc1, vF kc2, vF ks0, vF ks1, .bool op, vF lo, vF re, vF sl] := Row.congr r11 rfl
 refine WL.end (NE.code (CE.seq (CE.region ?_)))
 iterate 2 refine WD (op_move rfl) rfl ?_
 refine WL.call (oc_call (vs := [vP w6.heap.size 0, vI ((m : Nat) : Int), vI ((pl : Nat) : Int)]) (cap := []) rfl rfl rfl Try.call95 (c_l04IndexS nR GR nL GL nS xS cR'1 bR'1 PR'1 w5.heap.size cL'1 bL'1 PL'1 w5.heap.size cS'1 bS'1 k kc0 kc1 kc2 ks0 ks1 op lo re sl w6.heap.size m pl aR aL lDR lDL lnS (by first | assumption | exact rd_small (by assumption) (by assumption) | exact markD_small (by first | assumption | exact rd_small (by assumption) (by assumption)) _) (by first | assumption | exact rd_small (by assumption) (by assumption) | exact markD_small (by first | assumption | exact rd_small (by assumption) (by assumption)) _) h1 h2 (by first | assumption | omega) (by first | assumption | omega) (by first | assumption | omega) (by first | assumption | omega) (by first | assumption | omega) (by first | assumption | omega) (by assumption) (by assumption) (by first | assumption | omega) (by first | assumption | omega) w8 r12.rng ((r7.ext m7).mod m8 (nC (lE (lL r7.lt lR)) nN)).rng ((r8.ext m7).mod m8 (nC (lE (lL r8.lt lR)) nN)).rng ((r9.ext m7).mod m8 (nC (lE (lL r9.lt lR)) nN)).rng ((fm1.ext m7).mod m8 (fun j hj => (nC (lE (lL (OF.lt fm1 (lQ (lQ hj lDR) lDR.symm)) lR)) nN))) ((fm2.ext m7).mod m8 (fun j hj => (nC (lE (lL (OF.lt fm2 (lQ (lQ hj lDL) lDL.symm)) lR)) nN))))) rfl rfl (ltb rfl) ?_
 rintro _ w9 ⟨rfl, m9⟩
 refine WD (op_move rfl) rfl ?_
 iterate 2 refine WD (op_extract rfl rfl) rfl ?_
 iterate 2 refine WD (op_assign rfl) rfl ?_
 refine WL.end (NE.code (CE.seq (CE.region ?_)))
 refine WD (op_move rfl) rfl ?_
 refine WL.op (op_farith (e := (fop .mul .f32 1056964608 a)) (.inr (.inr (.inl rfl))) rfl rfl rfl rfl rfl) rfl rfl (ltb rfl) ?_
 rintro _ w10 ⟨⟨f1, rfl, hf1, lf1⟩, m10⟩
 refine WD (op_assign rfl) rfl ?_
 refine WL.end (NE.code (CE.seq ?_))
 refine CE.draw (fun | 18 => some (fun _ wA uA wB => uA = vF (keptF (fop .add .f32 (((GR.getD m RD.d).xs).getD ((aR + (GR.getD m RD.d).xs.length - 1 - pl) % (GR.getD m RD.d).xs.length) 0) (fop .mul .f32 1056964608 a))) ∧ (keptF (fop .add .f32 (((GR.getD m RD.d).xs).getD ((aR + (GR.getD m RD.d).xs.length - 1 - pl) % (GR.getD m RD.d).xs.length) 0) (fop .mul .f32 1056964608 a)) < wid .f32) ∧ Mod [] wA wB) | _ => none) [0, 1, 2, 3, 4, 5, 6, 7, 8, 9, 10, 11, 12, 13, 14, 15, 16, 17, 18] [19, 20] [] (by kernel_rfl) (by kernel_rfl) ?_
 have md1 : Mod [] w10 w10.drew := (Mod.refl _ _).drew
 generalize w10.drew = w11 at md1 ⊢
 refine DD 0 rfl (by kernel_rfl) rfl (fun wD mD => op_fieldAddr (off' := 0) rfl Try.runUnderlying33 rfl rfl Try.sizeOf25 rfl) ?_
 refine DD 1 rfl (by kernel_rfl) rfl (fun wD mD => op_load1 (i := 0) rfl Try.isAgg25 ((((r12.ext m9).ext m10).ext md1).ext mD).rng rfl rfl) ?_
 refine DD 2 rfl (by kernel_rfl) rfl (fun wD mD => op_move rfl) ?_
 refine DD 3 rfl (by kernel_rfl) rfl (fun wD mD => op_indexSl (off' := 0 + m * 2) rfl rfl rfl Try.runUnderlying25 Try.sizeOf60 (by omega) (by omega) (by omega)) ?_
 refine DD 4 rfl (by kernel_rfl) rfl (fun wD mD => op_fieldAddr (off' := 0 + m * 2) rfl Try.runUnderlying60 rfl rfl Try.sizeOf26 rfl) ?_
 refine DD 5 rfl (by kernel_rfl) rfl (fun wD mD => op_load1 (i := m * 2) rfl Try.isAgg26 ((((((r7.ext m7).mod m8 (nC (lE (lL r7.lt lR)) nN)).ext m9).ext m10).ext md1).ext mD).rng rfl (olc_get0 lDR h1 (show m < nR by omega))) ?_
 refine DD 6 rfl (by kernel_rfl) rfl (fun wD mD => op_move rfl) ?_
 refine DD 7 rfl (by kernel_rfl) rfl (fun wD mD => op_fieldAddr (off' := 0) rfl Try.runUnderlying33 rfl rfl Try.sizeOf25 rfl) ?_
 refine DD 8 rfl (by kernel_rfl) rfl (fun wD mD => op_load1 (i := 0) rfl Try.isAgg25 ((((r12.ext m9).ext m10).ext md1).ext mD).rng rfl rfl) ?_
 refine DD 9 rfl (by kernel_rfl) rfl (fun wD mD => op_move rfl) ?_
 refine DD 10 rfl (by kernel_rfl) rfl (fun wD mD => op_indexSl (off' := 0 + m * 2) rfl rfl rfl Try.runUnderlying25 Try.sizeOf60 (by omega) (by omega) (by omega)) ?_
 refine DD 11 rfl (by kernel_rfl) rfl (fun wD mD => op_fieldAddr (off' := 0 + m * 2) rfl Try.runUnderlying60 rfl rfl Try.sizeOf26 rfl) ?_
 refine DD 12 rfl (by kernel_rfl) rfl (fun wD mD => op_load1 (i := m * 2) rfl Try.isAgg26 ((((((r7.ext m7).mod m8 (nC (lE (lL r7.lt lR)) nN)).ext m9).ext m10).ext md1).ext mD).rng rfl (olc_get0 lDR h1 (show m < nR by omega))) ?_
 refine DD 13 rfl (by kernel_rfl) rfl (fun wD mD => op_move rfl) ?_
 refine DD 14 rfl (by kernel_rfl) rfl (fun wD mD => op_indexSl (off' := 0 + ((aR + (GR.getD m RD.d).xs.length - 1 - pl) % (GR.getD m RD.d).xs.length)) rfl rfl rfl Try.runUnderlying26 Try.sizeOf27 (by omega) (by omega) (by omega)) ?_
 refine DD 15 rfl (by kernel_rfl) rfl (fun wD mD => op_load1 (i := ((aR + (GR.getD m RD.d).xs.length - 1 - pl) % (GR.getD m RD.d).xs.length)) rfl Try.isAgg27 (((((((OF.row fm1 m (lQ (show m < nR by omega) lDR.symm)).ext m7).mod m8 (nC (lE (lL (OF.lt fm1 (lQ (show m < nR by omega) lDR.symm)) lR)) nN)).ext m9).ext m10).ext md1).ext mD).rng rfl (fl_get (by have eL : List.length ((GR.getD m RD.d).xs) = (GR.getD m RD.d).xs.length := rfl; omega))) ?_
 refine DD 16 rfl (by kernel_rfl) rfl (fun wD mD => op_move rfl) ?_
 refine DR.op (i := 17) (FOut .f32 (fop .add .f32 (((GR.getD m RD.d).xs).getD ((aR + (GR.getD m RD.d).xs.length - 1 - pl) % (GR.getD m RD.d).xs.length) 0) (fop .mul .f32 1056964608 a))) rfl rfl (by kernel_rfl) (.free rfl) rfl (ltb rfl) (fun wD mD => op_farith (e := (fop .add .f32 (((GR.getD m RD.d).xs).getD ((aR + (GR.getD m RD.d).xs.length - 1 - pl) % (GR.getD m RD.d).xs.length) 0) (fop .mul .f32 1056964608 a))) (.inl rfl) rfl rfl rfl hf1 rfl) ?_
 rintro _ ⟨f2, rfl, hf2, lf2⟩
 refine DR.call (i := 18) (fun uA => uA = vF (keptF (fop .add .f32 (((GR.getD m RD.d).xs).getD ((aR + (GR.getD m RD.d).xs.length - 1 - pl) % (GR.getD m RD.d).xs.length) 0) (fop .mul .f32 1056964608 a))) ∧ (keptF (fop .add .f32 (((GR.getD m RD.d).xs).getD ((aR + (GR.getD m RD.d).xs.length - 1 - pl) % (GR.getD m RD.d).xs.length) 0) (fop .mul .f32 1056964608 a)) < wid .f32)) rfl rfl (by kernel_rfl) (.free rfl) rfl (ltb rfl) ⟨_, rfl, keptF_wid hf2 lf2⟩ (vs := [.func (.func 96) #[] #[], vF f2]) rfl (fun wD mD => oc_call (vs := [vF f2]) (cap := []) rfl rfl rfl Try.call96 (c_l02Kept f2 (fop .add .f32 (((GR.getD m RD.d).xs).getD ((aR + (GR.getD m RD.d).xs.length - 1 - pl) % (GR.getD m RD.d).xs.length) 0) (fop .mul .f32 1056964608 a)) hf2 lf2 wD)) ?_ ?_
 ·rintro w1 _ w2 m1 ⟨rfl, p0, m2⟩; exact ⟨⟨rfl, p0⟩, m2⟩
 rintro _ ⟨rfl, h3⟩
 refine DR.done rfl ?_
 intro w12 m11
 refine WO.det (op_indexSl (off' := 0 + ((aR + (GR.getD m RD.d).xs.length - 1 - pl) % (GR.getD m RD.d).xs.length)) rfl rfl rfl Try.runUnderlying26 Try.sizeOf27 (by omega) (by omega) (by omega)) rfl (.free rfl) rfl rfl ?_
 refine WO.op0 rfl (.free rfl) rfl (op_store (i := ((aR + (GR.getD m RD.d).xs.length - 1 - pl) % (GR.getD m RD.d).xs.length)) (cs := [vF (keptF (fop .add .f32 (((GR.getD m RD.d).xs).getD ((aR + (GR.getD m RD.d).xs.length - 1 - pl) % (GR.getD m RD.d).xs.length) 0) (fop .mul .f32 1056964608 a)))]) rfl rfl rfl Try.sizeOf27 rfl (((((((OF.row fm1 m (lQ (show m < nR by omega) lDR.symm)).ext m7).mod m8 (nC (lE (lL (OF.lt fm1 (lQ (show m < nR by omega) lDR.symm)) lR)) nN)).ext m9).ext m10).ext md1).ext m11) rfl (by rw [fl_length]; have eL : List.length ((GR.getD m RD.d).xs) = (GR.getD m RD.d).xs.length := rfl; omega) rfl) ?_
 rintro _ w13 ⟨r13, m12, z5⟩
 have r14 : Row w13 ((PR'1.getD m BC.d).b) 0 (fl (((GR.getD m RD.d).xs).set ((aR + (GR.getD m RD.d).xs.length - 1 - pl) % (GR.getD m RD.d).xs.length) (keptF (fop .add .f32 (((GR.getD m RD.d).xs).getD ((aR + (GR.getD m RD.d).xs.length - 1 - pl) % (GR.getD m RD.d).xs.length) 0) (fop .mul .f32 1056964608 a))))) := Row.congr r13 (fl_splice (by have eL : List.length ((GR.getD m RD.d).xs) = (GR.getD m RD.d).xs.length := rfl; omega))
 have fm3 : OF w5.heap.size w13 (GR.set m ⟨(((GR.getD m RD.d).xs).set ((aR + (GR.getD m RD.d).xs.length - 1 - pl) % (GR.getD m RD.d).xs.length) (keptF (fop .add .f32 (((GR.getD m RD.d).xs).getD ((aR + (GR.getD m RD.d).xs.length - 1 - pl) % (GR.getD m RD.d).xs.length) 0) (fop .mul .f32 1056964608 a)))), (GR.getD m RD.d).at_⟩) PR'1 := OF.upd ((((((fm1.ext m7).mod m8 (fun j hj => (nC (lE (lL (OF.lt fm1 (lQ (lQ hj lDR) lDR.symm)) lR)) nN))).ext m9).ext m10).ext md1).ext m11) (lQ (show m < nR by omega) lDR.symm) m12 (fun j hj hji => (nC (OF.ne fm1 j m hj (lQ (show m < nR by omega) lDR.symm) hji) nN)) r14
 have r16 := (((((((r7.ext m7).mod m8 (nC (lE (lL r7.lt lR)) nN)).ext m9).ext m10).ext md1).ext m11).mod m12 (nC (Ne.symm (fn1 m (show m < nR by omega))) nN))
 have r15 : Row w13 bR'1 0 (olc (GR.set m ⟨(((GR.getD m RD.d).xs).set ((aR + (GR.getD m RD.d).xs.length - 1 - pl) % (GR.getD m RD.d).xs.length) (keptF (fop .add .f32 (((GR.getD m RD.d).xs).getD ((aR + (GR.getD m RD.d).xs.length - 1 - pl) % (GR.getD m RD.d).xs.length) 0) (fop .mul .f32 1056964608 a)))), (GR.getD m RD.d).at_⟩) PR'1) := Row.congr r16 (olc_same lDR h1 (show m < nR by omega) ((List.length_set).trans rfl))
 refine WO.end (NE.code (CE.seq ?_))
 refine CE.draw (fun | 18 => some (fun _ wA uA wB => uA = vF (keptF (fop .add .f32 (((GL.getD m RD.d).xs).getD ((aL + pl) % (GR.getD m RD.d).xs.length) 0) (fop .mul .f32 1056964608 a))) ∧ (keptF (fop .add .f32 (((GL.getD m RD.d).xs).getD ((aL + pl) % (GR.getD m RD.d).xs.length) 0) (fop .mul .f32 1056964608 a)) < wid .f32) ∧ Mod [] wA wB) | _ => none) [0, 1, 2, 3, 4, 5, 6, 7, 8, 9, 10, 11, 12, 13, 14, 15, 16, 17, 18] [19, 20] [] (by kernel_rfl) (by kernel_rfl) ?_
 have md2 : Mod [] w13 w13.drew := (Mod.refl _ _).drew
 generalize w13.drew = w14 at md2 ⊢
 refine DD 0 rfl (by kernel_rfl) rfl (fun wD mD => op_fieldAddr (off' := 1) rfl Try.runUnderlying33 rfl rfl Try.sizeOf25 rfl) ?_
 refine DD 1 rfl (by kernel_rfl) rfl (fun wD mD => op_load1 (i := 1) rfl Try.isAgg25 (((((((r12.ext m9).ext m10).ext md1).ext m11).mod m12 (nC (Ne.symm (lE (lL (OF.lt fm1 (lQ (show m < nR by omega) lDR.symm)) lR))) nN)).ext md2).ext mD).rng rfl rfl) ?_
 refine DD 2 rfl (by kernel_rfl) rfl (fun wD mD => op_move rfl) ?_
 refine DD 3 rfl (by kernel_rfl) rfl (fun wD mD => op_indexSl (off' := 0 + m * 2) rfl rfl rfl Try.runUnderlying25 Try.sizeOf60 (by omega) (by omega) (by omega)) ?_
 refine DD 4 rfl (by kernel_rfl) rfl (fun wD mD => op_fieldAddr (off' := 0 + m * 2) rfl Try.runUnderlying60 rfl rfl Try.sizeOf26 rfl) ?_
 refine DD 5 rfl (by kernel_rfl) rfl (fun wD mD => op_load1 (i := m * 2) rfl Try.isAgg26 (((((((((r8.ext m7).mod m8 (nC (lE (lL r8.lt lR)) nN)).ext m9).ext m10).ext md1).ext m11).mod m12 (nC (Ne.symm (fn2 m (show m < nR by omega))) nN)).ext md2).ext mD).rng rfl (olc_get0 lDL h2 (show m < nL by omega))) ?_
 refine DD 6 rfl (by kernel_rfl) rfl (fun wD mD => op_move rfl) ?_
 refine DD 7 rfl (by kernel_rfl) rfl (fun wD mD => op_fieldAddr (off' := 1) rfl Try.runUnderlying33 rfl rfl Try.sizeOf25 rfl) ?_
 refine DD 8 rfl (by kernel_rfl) rfl (fun wD mD => op_load1 (i := 1) rfl Try.isAgg25 (((((((r12.ext m9).ext m10).ext md1).ext m11).mod m12 (nC (Ne.symm (lE (lL (OF.lt fm1 (lQ (show m < nR by omega) lDR.symm)) lR))) nN)).ext md2).ext mD).rng rfl rfl) ?_
 refine DD 9 rfl (by kernel_rfl) rfl (fun wD mD => op_move rfl) ?_
 refine DD 10 rfl (by kernel_rfl) rfl (fun wD mD => op_indexSl (off' := 0 + m * 2) rfl rfl rfl Try.runUnderlying25 Try.sizeOf60 (by omega) (by omega) (by omega)) ?_
 refine DD 11 rfl (by kernel_rfl) rfl (fun wD mD => op_fieldAddr (off' := 0 + m * 2) rfl Try.runUnderlying60 rfl rfl Try.sizeOf26 rfl) ?_
 refine DD 12 rfl (by kernel_rfl) rfl (fun wD mD => op_load1 (i := m * 2) rfl Try.isAgg26 (((((((((r8.ext m7).mod m8 (nC (lE (lL r8.lt lR)) nN)).ext m9).ext m10).ext md1).ext m11).mod m12 (nC (Ne.symm (fn2 m (show m < nR by omega))) nN)).ext md2).ext mD).rng rfl (olc_get0 lDL h2 (show m < nL by omega))) ?_
 refine DD 13 rfl (by kernel_rfl) rfl (fun wD mD => op_move rfl) ?_
 refine DD 14 rfl (by kernel_rfl) rfl (fun wD mD => op_indexSl (off' := 0 + ((aL + pl) % (GR.getD m RD.d).xs.length)) rfl rfl rfl Try.runUnderlying26 Try.sizeOf27 (by omega) (by omega) (by omega)) ?_
 refine DD 15 rfl (by kernel_rfl) rfl (fun wD mD => op_load1 (i := ((aL + pl) % (GR.getD m RD.d).xs.length)) rfl Try.isAgg27 ((((((((((OF.row fm2 m (lQ (show m < nL by omega) lDL.symm)).ext m7).mod m8 (nC (lE (lL (OF.lt fm2 (lQ (show m < nL by omega) lDL.symm)) lR)) nN)).ext m9).ext m10).ext md1).ext m11).mod m12 (nC (Ne.symm (fn4 m m (show m < nR by omega) (show m < nL by omega))) nN)).ext md2).ext mD).rng rfl (fl_get (by have eL : List.length ((GL.getD m RD.d).xs) = (GL.getD m RD.d).xs.length := rfl; omega))) ?_
 refine DD 16 rfl (by kernel_rfl) rfl (fun wD mD => op_move rfl) ?_
 refine DR.op (i := 17) (FOut .f32 (fop .add .f32 (((GL.getD m RD.d).xs).getD ((aL + pl) % (GR.getD m RD.d).xs.length) 0) (fop .mul .f32 1056964608 a))) rfl rfl (by kernel_rfl) (.free rfl) rfl (ltb rfl) (fun wD mD => op_farith (e := (fop .add .f32 (((GL.getD m RD.d).xs).getD ((aL + pl) % (GR.getD m RD.d).xs.length) 0) (fop .mul .f32 1056964608 a))) (.inl rfl) rfl rfl rfl hf1 rfl) ?_
 rintro _ ⟨f3, rfl, hf3, lf3⟩
 refine DR.call (i := 18) (fun uA => uA = vF (keptF (fop .add .f32 (((GL.getD m RD.d).xs).getD ((aL + pl) % (GR.getD m RD.d).xs.length) 0) (fop .mul .f32 1056964608 a))) ∧ (keptF (fop .add .f32 (((GL.getD m RD.d).xs).getD ((aL + pl) % (GR.getD m RD.d).xs.length) 0) (fop .mul .f32 1056964608 a)) < wid .f32)) rfl rfl (by kernel_rfl) (.free rfl) rfl (ltb rfl) ⟨_, rfl, keptF_wid hf3 lf3⟩ (vs := [.func (.func 96) #[] #[], vF f3]) rfl (fun wD mD => oc_call (vs := [vF f3]) (cap := []) rfl rfl rfl Try.call96 (c_l02Kept f3 (fop .add .f32 (((GL.getD m RD.d).xs).getD ((aL + pl) % (GR.getD m RD.d).xs.length) 0) (fop .mul .f32 1056964608 a)) hf3 lf3 wD)) ?_ ?_
 ·rintro w1 _ w2 m1 ⟨rfl, p0, m2⟩; exact ⟨⟨rfl, p0⟩, m2⟩
 rintro _ ⟨rfl, h4⟩
 refine DR.done rfl ?_
 intro w15 m13
 refine WO.det (op_indexSl (off' := 0 + ((aL + pl) % (GR.getD m RD.d).xs.length)) rfl rfl rfl Try.runUnderlying26 Try.sizeOf27 (by omega) (by omega) (by omega)) rfl (.free rfl) rfl rfl ?_
 refine WO.op0 rfl (.free rfl) rfl (op_store (i := ((aL + pl) % (GR.getD m RD.d).xs.length)) (cs := [vF (keptF (fop .add .f32 (((GL.getD m RD.d).xs).getD ((aL + pl) % (GR.getD m RD.d).xs.length) 0) (fop .mul .f32 1056964608 a)))]) rfl rfl rfl Try.sizeOf27 rfl ((((((((((OF.row fm2 m (lQ (show m < nL by omega) lDL.symm)).ext m7).mod m8 (nC (lE (lL (OF.lt fm2 (lQ (show m < nL by omega) lDL.symm)) lR)) nN)).ext m9).ext m10).ext md1).ext m11).mod m12 (nC (Ne.symm (fn4 m m (show m < nR by omega) (show m < nL by omega))) nN)).ext md2).ext m13) rfl (by rw [fl_length]; have eL : List.length ((GL.getD m RD.d).xs) = (GL.getD m RD.d).xs.length := rfl; omega) rfl) ?_
 rintro _ w16 ⟨r17, m14, z6⟩
 have r18 : Row w16 ((PL'1.getD m BC.d).b) 0 (fl (((GL.getD m RD.d).xs).set ((aL + pl) % (GR.getD m RD.d).xs.length) (keptF (fop .add .f32 (((GL.getD m RD.d).xs).getD ((aL + pl) % (GR.getD m RD.d).xs.length) 0) (fop .mul .f32 1056964608 a))))) := Row.congr r17 (fl_splice (by have eL : List.length ((GL.getD m RD.d).xs) = (GL.getD m RD.d).xs.length := rfl; omega))
 have fm4 : OF w5.heap.size w16 (GL.set m ⟨(((GL.getD m RD.d).xs).set ((aL + pl) % (GR.getD m RD.d).xs.length) (keptF (fop .add .f32 (((GL.getD m RD.d).xs).getD ((aL + pl) % (GR.getD m RD.d).xs.length) 0) (fop .mul .f32 1056964608 a)))), (GL.getD m RD.d).at_⟩) PL'1 := OF.upd (((((((((fm2.ext m7).mod m8 (fun j hj => (nC (lE (lL (OF.lt fm2 (lQ (lQ hj lDL) lDL.symm)) lR)) nN))).ext m9).ext m10).ext md1).ext m11).mod m12 (fun j hj => (nC (Ne.symm (fn4 m j (show m < nR by omega) (lQ hj lDL))) nN))).ext md2).ext m13) (lQ (show m < nL by omega) lDL.symm) m14 (fun j hj hji => (nC (OF.ne fm2 j m hj (lQ (show m < nL by omega) lDL.symm) hji) nN)) r18
 have r20 := ((((((((((r8.ext m7).mod m8 (nC (lE (lL r8.lt lR)) nN)).ext m9).ext m10).ext md1).ext m11).mod m12 (nC (Ne.symm (fn2 m (show m < nR by omega))) nN)).ext md2).ext m13).mod m14 (nC (Ne.symm (fn6 m (show m < nL by omega))) nN))
 have r19 : Row w16 bL'1 0 (olc (GL.set m ⟨(((GL.getD m RD.d).xs).set ((aL + pl) % (GR.getD m RD.d).xs.length) (keptF (fop .add .f32 (((GL.getD m RD.d).xs).getD ((aL + pl) % (GR.getD m RD.d).xs.length) 0) (fop .mul .f32 1056964608 a)))), (GL.getD m RD.d).at_⟩) PL'1) := Row.congr r20 (olc_same lDL h2 (show m < nL by omega) ((List.length_set).trans rfl))
 refine WO.end (NE.code (CE.seq (CE.region ?_)))
 have r21 := ((((((((r12.ext m9).ext m10).ext md1).ext m11).mod m12 (nC (Ne.symm (lE (lL (OF.lt fm1 (lQ (show m < nR by omega) lDR.symm)) lR))) nN)).ext md2).ext m13).mod m14 (nC (Ne.symm (lE (lL (OF.lt fm2 (lQ (show m < nL by omega) lDL.symm)) lR))) nN))
 refine WD (op_loadA (i := 0) (cs := [vS bR'1 0 nR cR'1, vS bL'1 0 nL cL'1, vS bS'1 0 nS cS'1, vI k, vF kc0, vF kc1, vF kc2, vF ks0, vF ks1, .bool op, vF lo, vF re, vF sl]) rfl Try.isAgg33 Try.sizeOf33 r21.rng rfl rfl rfl) rfl ?_
 have sz1 := (lT (lT (lT m3.size m4.size) m5.size) m6.size)
 have sz2 := (lT (lT m3.size m4.size) m5.size)
 have r22 := ((((((((((((((r2.ext m3).ext m4).ext m5).ext m6).ext m7).mod m8 (nC (lE (lL (lL r2.lt sz1) lR)) nN)).ext m9).ext m10).ext md1).ext m11).mod m12 (nC (Ne.symm (lG (lL (lL r2.lt sz2) (fm3.ge m (lQ (show m < nR by omega) ((List.length_set).trans lDR).symm))))) nN)).ext md2).ext m13).mod m14 (nC (Ne.symm (lG (lL (lL r2.lt sz2) (fm4.ge m (lQ (show m < nL by omega) ((List.length_set).trans lDL).symm))))) nN))
 refine WL.op0 (op_store (i := 0) (cs := [vS bR'1 0 nR cR'1, vS bL'1 0 nL cL'1, vS bS'1 0 nS cS'1, vI k, vF kc0, vF kc1, vF kc2, vF ks0, vF ks1, .bool op, vF lo, vF re, vF sl]) rfl rfl rfl Try.sizeOf33 rfl r22 rfl (lB rfl) rfl) rfl rfl ?_
 rintro _ w17 ⟨r23, m15, z7⟩
 have r24 : Row w17 w1.heap.size 0 [vS bR'1 0 nR cR'1, vS bL'1 0 nL cL'1, vS bS'1 0 nS cS'1, vI k, vF kc0, vF kc1, vF kc2, vF ks0, vF ks1, .bool op, vF lo, vF re, vF sl] := Row.congr r23 rfl
 refine WD (op_assign rfl) rfl ?_
 refine WL.end (NE.code (CE.ret' ?_))
 refine XE.leaveT Try.results36 (res_agg (cs := [vS bR'1 0 nR cR'1, vS bL'1 0 nL cL'1, vS bS'1 0 nS cS'1, vI k, vF kc0, vF kc1, vF kc2, vF ks0, vF ks1, .bool op, vF lo, vF re, vF sl]) rfl Try.isAgg33 Try.sizeOf33 r24.rng rfl (res_tmp rfl res_nil)) ?_
 have r25 := ((((r15.ext md2).ext m13).mod m14 (nC (Ne.symm (fn5 m (show m < nL by omega))) nN)).mod m15 (nC (lG (lL (lL r2.lt sz2) ge1)) nN))
 have r26 := (((((((((((r9.ext m7).mod m8 (nC (lE (lL r9.lt lR)) nN)).ext m9).ext m10).ext md1).ext m11).mod m12 (nC (Ne.symm (fn3 m (show m < nR by omega))) nN)).ext md2).ext m13).mod m14 (nC (Ne.symm (fn7 m (show m < nL by omega))) nN)).mod m15 (nC (lG (lL (lL r2.lt sz2) ge3)) nN))
 have sz3 := (lT (lT (lT (lT m1.size m2.size) m3.size) m4.size) m5.size)
 refine ⟨bR'1, cR'1, PR'1, bL'1, cL'1, PL'1, bS'1, cS'1, rfl, h1, h2, (Row.congr r25 ?_), (Row.congr (r19.mod m15 (nC (lG (lL (lL r2.lt sz2) ge2)) nN)) ?_), r26, (lT sz3 ge1), (lT sz3 ge2), (lT sz3 ge3), ne1, ne2, ne3, (OF.congr (OF.low ((((fm3.ext md2).ext m13).mod m14 (fun j hj => (nC (fn4 j m (lQ hj ((List.length_set).trans lDR)) (show m < nL by omega)) nN))).mod m15 (fun j hj => (nC (lG (lL (lL r2.lt sz2) (fm3.ge j (lQ (lQ hj ((List.length_set).trans lDR)) ((List.length_set).trans lDR).symm)))) nN))) sz3) (by first | (rw [eZR]; done) | (rw [eZL]; done) | (rw [eZR, fop_mul_comm .f32 a]; done) | (rw [eZL, fop_mul_comm .f32 a]; done) | (rw [eZR]; rfl) | (rw [eZL]; rfl))), (fun j hj => (fn1 j (show j < nR by omega))), (fun j hj => (fn2 j (show j < nR by omega))), (fun j hj => (fn3 j (show j < nR by omega))), (fun j q hj hq => (fn4 j q (show j < nR by omega) (show q < nL by omega))), (OF.congr (OF.low (fm4.mod m15 (fun j hj => (nC (lG (lL (lL r2.lt sz2) (fm4.ge j (lQ (lQ hj ((List.length_set).trans lDL)) ((List.length_set).trans lDL).symm)))) nN))) sz3) (by first | (rw [eZR]; done) | (rw [eZL]; done) | (rw [eZR, fop_mul_comm .f32 a]; done) | (rw [eZL, fop_mul_comm .f32 a]; done) | (rw [eZR]; rfl) | (rw [eZL]; rfl))), (fun j hj => (fn5 j (show j < nL by omega))), (fun j hj => (fn6 j (show j < nL by omega))), (fun j hj => (fn7 j (show j < nL by omega))), ((((((((((((((((((Mod.refl [] w).nt m1).nt m2).nt m3).nt m4).nt m5).nt m6).nt m7).then m8 ((aC (.inr (lT (lT sz3 m6.size) lR)) aN))).nt m9).nt m10).nt md1).nt m11).then m12 ((aC (.inr (lT sz3 (fm3.ge m (lQ (show m < nR by omega) ((List.length_set).trans lDR).symm)))) aN))).nt md2).nt m13).then m14 ((aC (.inr (lT sz3 (fm4.ge m (lQ (show m < nL by omega) ((List.length_set).trans lDL).symm)))) aN))).then m15 ((aC (.inr (lT m1.size lR)) aN)))⟩
 all_goals subst eZR
 all_goals subst eZL
 all_goals first | rfl | (rw [fop_mul_comm .f32 a])

theorem c_sPulseS0 (nR : Nat) (GR : List RD) (nL : Nat) (GL : List RD) (xS : List Nat) (cR : Nat) (bR : Nat) (PR : List BC) (loR : Nat) (cL : Nat) (bL : Nat) (PL : List BC) (loL : Nat) (cS : Nat) (bS : Nat) (k : Int) (kc0 : Nat) (kc1 : Nat) (kc2 : Nat) (ks0 : Nat) (ks1 : Nat) (op : Bool) (lo : Nat) (re : Nat) (sl : Nat) (m : Nat) (pl : Nat) (a : Nat) (aR : Nat) (aL : Nat) (ZR : List RD) (ZL : List RD) (lDR : GR.length = nR) (lDL : GL.length = nL) (lnS : xS.length = 0) (hzR : ∀ i, (GR.getD i RD.d).xs.length ≤ 1048576) (hzL : ∀ i, (GL.getD i RD.d).xs.length ≤ 1048576) (lPR : PR.length = nR) (lPL : PL.length = nL) (mR : nR ≤ 1048576) (mL : nL ≤ 1048576) (h0n : 0 < nR) (h0m : 0 < nL) (hpR : ∀ i, i < nR → 0 < (GR.getD i RD.d).xs.length) (hpL : ∀ i, i < nL → 0 < (GL.getD i RD.d).xs.length) (hs : 1 ≤ nR ∧ nR ≤ 3 ∧ nL = nR ∧ 0 + 1 = nR) (hm : m < nR) (hnn : nL = nR) (hpl : pl < (GR.getD m RD.d).xs.length) (heR : (GR.getD m RD.d).at_ = ((aR : Nat) : Int)) (heL : (GL.getD m RD.d).at_ = ((aL : Nat) : Int)) (hlR : aR < (GR.getD m RD.d).xs.length) (hlL : aL < (GL.getD m RD.d).xs.length) (hll : (GR.getD m RD.d).xs.length = (GL.getD m RD.d).xs.length) (wR : W32 (GR.getD m RD.d).xs) (wL : W32 (GL.getD m RD.d).xs) (hv : vPipe nR nL 0 GR GL xS k kc0 kc1 kc2 ks0 ks1 lo re sl = true) (hf : finF a = true) (la : a < wid .f32) (eZR : ZR = (GR.set m ⟨((GR.getD m RD.d).xs.set ((aR + (GR.getD m RD.d).xs.length - 1 - pl) % (GR.getD m RD.d).xs.length) (keptF (fop .add .f32 ((GR.getD m RD.d).xs.getD ((aR + (GR.getD m RD.d).xs.length - 1 - pl) % (GR.getD m RD.d).xs.length) 0) (fop .mul .f32 1056964608 a)))), (GR.getD m RD.d).at_⟩)) (eZL : ZL = (GL.set m ⟨((GL.getD m RD.d).xs.set ((aL + pl) % (GR.getD m RD.d).xs.length) (keptF (fop .add .f32 ((GL.getD m RD.d).xs.getD ((aL + pl) % (GR.getD m RD.d).xs.length) 0) (fop .mul .f32 1056964608 a)))), (GL.getD m RD.d).at_⟩)) (lZR : ZR.length = nR) (lZL : ZL.length = nL) (w : World) (rR : Rng w bR 0 (olc GR PR)) (rL : Rng w bL 0 (olc GL PL)) (rS : Rng w bS 0 (fl xS))  (FR : OF loR w GR PR) (FL : OF loL w GL PL) : Cl Try.prog 36 #[.agg #[vS bR 0 nR cR, vS bL 0 nL cL, vS bS 0 0 cS, vI k, vF kc0, vF kc1, vF kc2, vF ks0, vF ks1, .bool op, vF lo, vF re, vF sl], vI ((m : Nat) : Int), vI ((pl : Nat) : Int), vF a] w fun v w' => ∃ (bR' : Nat) (cR' : Nat) (PR' : List BC) (bL' : Nat) (cL' : Nat) (PL' : List BC) (bS' : Nat) (cS' : Nat), v = .tuple #[.agg #[vS bR' 0 nR cR', vS bL' 0 nL cL', vS bS' 0 0 cS', vI k, vF kc0, vF kc1, vF kc2, vF ks0, vF ks1, .bool op, vF lo, vF re, vF sl], vI 0] ∧ (PR'.length = nR) ∧ (PL'.length = nL) ∧ Row w' bR' 0 (olc ZR PR') ∧ Row w' bL' 0 (olc ZL PL') ∧ Row w' bS' 0 (fl xS) ∧ w.heap.size ≤ bR' ∧ w.heap.size ≤ bL' ∧ w.heap.size ≤ bS' ∧ bR' ≠ bL' ∧ bR' ≠ bS' ∧ bL' ≠ bS' ∧ OF w.heap.size w' ZR PR' ∧ (∀ i, i < nR → (PR'.getD i BC.d).b ≠ bR') ∧ (∀ i, i < nR → (PR'.getD i BC.d).b ≠ bL') ∧ (∀ i, i < nR → (PR'.getD i BC.d).b ≠ bS') ∧ (∀ i j, i < nR → j < nL → (PR'.getD i BC.d).b ≠ (PL'.getD j BC.d).b) ∧ OF w.heap.size w' ZL PL' ∧ (∀ i, i < nL → (PL'.getD i BC.d).b ≠ bR') ∧ (∀ i, i < nL → (PL'.getD i BC.d).b ≠ bL') ∧ (∀ i, i < nL → (PL'.getD i BC.d).b ≠ bS') ∧ Mod [] w w' := by
 have hzm := hzR m
 have hzl := hzL m
 have hIR : ((aR + (GR.getD m RD.d).xs.length - 1 - pl) % (GR.getD m RD.d).xs.length) < (GR.getD m RD.d).xs.length := Nat.mod_lt _ (by omega)
 have hIL : ((aL + pl) % (GR.getD m RD.d).xs.length) < (GR.getD m RD.d).xs.length := Nat.mod_lt _ (by omega)
 refine Cl.of Try.func36 Try.ntmps36 rfl rfl (ρ := [(0, .agg #[vS bR 0 nR cR, vS bL 0 nL cL, vS bS 0 0 cS, vI k, vF kc0, vF kc1, vF kc2, vF ks0, vF ks1, .bool op, vF lo, vF re, vF sl]), (1, vI ((m : Nat) : Int)), (2, vI ((pl : Nat) : Int)), (3, vF a)]) rfl ?_
 refine CE.seq (CE.region ?_)
 refine WL.op (op_box (cs := [vS bR 0 nR cR, vS bL 0 nL cL, vS bS 0 0 cS, vI k, vF kc0, vF kc1, vF kc2, vF ks0, vF ks1, .bool op, vF lo, vF re, vF sl]) rfl rfl) rfl rfl (ltb rfl) ?_
 rintro _ w1 ⟨rfl, r1, m1, z1⟩
 refine WL.op (op_alloc (cs := [.slice none 0 0, .slice none 0 0, .slice none 0 0, vI 0, vF 0, vF 0, vF 0, vF 0, vF 0, .bool false, vF 0, vF 0, vF 0]) Try.zeroValue33 rfl) rfl rfl (ltb rfl) ?_
 rintro _ w2 ⟨rfl, r2, m2, z2⟩
 refine WD (op_assign rfl) rfl ?_
 refine WL.end (NE.code (CE.seq (CE.seq (CE.region ?_))))
 refine WL.call (oc_call (vs := [vP w.heap.size 0]) (cap := []) rfl rfl rfl Try.call57 (c_l04OkS nR GR nL GL 0 xS cR bR PR loR cL bL PL loL cS bS k kc0 kc1 kc2 ks0 ks1 op lo re sl w.heap.size lDR lDL lnS (by first | assumption | exact rd_small (by assumption) (by assumption) | exact markD_small (by first | assumption | exact rd_small (by assumption) (by assumption)) _) (by first | assumption | exact rd_small (by assumption) (by assumption) | exact markD_small (by first | assumption | exact rd_small (by assumption) (by assumption)) _) lPR lPL (by first | assumption | omega) (by first | assumption | omega) (by first | assumption | omega) (by omega) w2 (r1.ext m2).rng ((rR.ext m1).ext m2) ((rL.ext m1).ext m2) ((rS.ext m1).ext m2) ((FR.ext m1).ext m2) ((FL.ext m1).ext m2))) rfl rfl (ltb rfl) ?_
 rintro _ w3 ⟨rfl, m3⟩
 refine WD (op_not rfl) rfl ?_
 refine WL.end (NE.code ?_)
 refine CE.cond_f rfl (bnot_t hv) ?_
 refine CE.skip' (NE.code (CE.seq (CE.seq (CE.region ?_))))
 iterate 2 refine WD (op_move rfl) rfl ?_
 have r3 := (((rR.ext m1).ext m2).ext m3)
 have r4 := (((rL.ext m1).ext m2).ext m3)
 have r5 := (((rS.ext m1).ext m2).ext m3)
 refine WL.call (oc_call (vs := [vP w.heap.size 0, vI ((m : Nat) : Int), vI ((pl : Nat) : Int)]) (cap := []) rfl rfl rfl Try.call94 (c_l04PlaceS nR GR nL GL 0 xS cR bR PR loR cL bL PL loL cS bS k kc0 kc1 kc2 ks0 ks1 op lo re sl w.heap.size ((m : Nat) : Int) ((pl : Nat) : Int) lDR lDL lnS (by first | assumption | exact rd_small (by assumption) (by assumption) | exact markD_small (by first | assumption | exact rd_small (by assumption) (by assumption)) _) (by first | assumption | exact rd_small (by assumption) (by assumption) | exact markD_small (by first | assumption | exact rd_small (by assumption) (by assumption)) _) lPR lPL (by first | assumption | omega) (by first | assumption | omega) (by first | assumption | omega) w3 ((r1.ext m2).ext m3).rng r3 r4 r5 (((FR.ext m1).ext m2).ext m3) (((FL.ext m1).ext m2).ext m3))) rfl rfl (ltb rfl) ?_
 rintro _ w4 ⟨rfl, m4⟩
 refine WD (op_not rfl) rfl ?_
 refine WD (op_move rfl) rfl ?_
 refine WL.yes rfl rfl rfl (ltb rfl) rfl (bnot_t (by simp only [Int.toNat_natCast, Bool.and_eq_true, vIn_t]; omega)) ?_
 refine WD (op_move rfl) rfl ?_
 refine WL.yes rfl rfl rfl (ltb rfl) rfl (bnot_t (by simp only [Int.toNat_natCast, Bool.and_eq_true, vIn_t]; omega)) ?_
 refine WL.call (oc_call (vs := [vF a]) (cap := []) rfl rfl rfl Try.call58 (c_l01Finite a a rfl w4)) rfl rfl (ltb rfl) ?_
 rintro _ w5 ⟨rfl, m5⟩
 refine WL.yes rfl rfl rfl (ltb rfl) rfl (bnot_t (by simp only [Int.toNat_natCast, Bool.and_eq_true, vIn_t]; omega)) ?_
 refine WD (op_not rfl) rfl ?_
 refine WD (op_pick_f rfl (bnot_t (by simp only [Int.toNat_natCast, Bool.and_eq_true, vIn_t]; omega)) rfl) rfl ?_
 refine WL.end (NE.code ?_)
 refine CE.cond_f rfl (bnot_t hf) ?_
 refine CE.skip' (NE.code (CE.seq (CE.region ?_)))
 have r6 := ((((r1.ext m2).ext m3).ext m4).ext m5)
 refine WL.call (oc_call (vs := [vP w.heap.size 0]) (cap := []) rfl rfl rfl Try.call59 (c_l04CopyS0 nR GR nL GL xS cR bR PR loR cL bL PL loL cS bS k kc0 kc1 kc2 ks0 ks1 op lo re sl w.heap.size lDR lDL lnS (by first | assumption | exact rd_small (by assumption) (by assumption) | exact markD_small (by first | assumption | exact rd_small (by assumption) (by assumption)) _) (by first | assumption | exact rd_small (by assumption) (by assumption) | exact markD_small (by first | assumption | exact rd_small (by assumption) (by assumption)) _) lPR lPL (by first | assumption | omega) (by first | assumption | omega) (by omega) (by omega) (by first | assumption | exact vRings_pos (by assumption)) (by first | assumption | exact vRings_pos (by assumption)) w5 r6.rng ((r3.ext m4).ext m5) ((r4.ext m4).ext m5) ((r5.ext m4).ext m5) (((((FR.ext m1).ext m2).ext m3).ext m4).ext m5) (((((FL.ext m1).ext m2).ext m3).ext m4).ext m5))) rfl rfl (ltb rfl) ?_
 rintro _ w6 ⟨bR'1, cR'1, PR'1, bL'1, cL'1, PL'1, bS'1, cS'1, rfl, h1, h2, r7, r8, r9, ge1, ge2, ge3, ne1, ne2, ne3, fm1, fn1, fn2, fn3, fn4, fm2, fn5, fn6, fn7, m6⟩
 refine WL.op (op_alloc (cs := [.slice none 0 0, .slice none 0 0, .slice none 0 0, vI 0, vF 0, vF 0, vF 0, vF 0, vF 0, .bool false, vF 0, vF 0, vF 0]) Try.zeroValue33 rfl) rfl rfl (ltb rfl) ?_
 rintro _ w7 ⟨rfl, r10, m7, z3⟩
 refine WL.op0 (op_store (i := 0) (cs := [vS bR'1 0 nR cR'1, vS bL'1 0 nL cL'1, vS bS'1 0 0 cS'1, vI k, vF kc0, vF kc1, vF kc2, vF ks0, vF ks1, .bool op, vF lo, vF re, vF sl]) rfl rfl rfl Try.sizeOf33 rfl r10 rfl (lB rfl) rfl) rfl rfl ?_
 rintro _ w8 ⟨r11, m8, z4⟩
 have r12 : Row w8 w6.heap.size 0 [vS bR'1 0 nR cR'1, vS bL'1 0 nL cL'1, vS bS'1 0 0 cS'1, vI k, vF kc0, vF kc1, vF kc2, vF ks0, vF ks1, .bool op, vF lo, vF re, vF sl] := Row.congr r11 rfl
 refine WL.end (NE.code (CE.seq (CE.region ?_)))
 iterate 2 refine WD (op_move rfl) rfl ?_
 refine WL.call (oc_call (vs := [vP w6.heap.size 0, vI ((m : Nat) : Int), vI ((pl : Nat) : Int)]) (cap := []) rfl rfl rfl Try.call95 (c_l04IndexS nR GR nL GL 0 xS cR'1 bR'1 PR'1 w5.heap.size cL'1 bL'1 PL'1 w5.heap.size cS'1 bS'1 k kc0 kc1 kc2 ks0 ks1 op lo re sl w6.heap.size m pl aR aL lDR lDL lnS (by first | assumption | exact rd_small (by assumption) (by assumption) | exact markD_small (by first | assumption | exact rd_small (by assumption) (by assumption)) _) (by first | assumption | exact rd_small (by assumption) (by assumption) | exact markD_small (by first | assumption | exact rd_small (by assumption) (by assumption)) _) h1 h2 (by first | assumption | omega) (by first | assumption | omega) (by first | assumption | omega) (by first | assumption | omega) (by first | assumption | omega) (by first | assumption | omega) (by assumption) (by assumption) (by first | assumption | omega) (by first | assumption | omega) w8 r12.rng ((r7.ext m7).mod m8 (nC (lE (lL r7.lt lR)) nN)).rng ((r8.ext m7).mod m8 (nC (lE (lL r8.lt lR)) nN)).rng ((r9.ext m7).mod m8 (nC (lE (lL r9.lt lR)) nN)).rng ((fm1.ext m7).mod m8 (fun j hj => (nC (lE (lL (OF.lt fm1 (lQ (lQ hj lDR) lDR.symm)) lR)) nN))) ((fm2.ext m7).mod m8 (fun j hj => (nC (lE (lL (OF.lt fm2 (lQ (lQ hj lDL) lDL.symm)) lR)) nN))))) rfl rfl (ltb rfl) ?_
 rintro _ w9 ⟨rfl, m9⟩
 refine WD (op_move rfl) rfl ?_
 iterate 2 refine WD (op_extract rfl rfl) rfl ?_
 iterate 2 refine WD (op_assign rfl) rfl ?_
 refine WL.end (NE.code (CE.seq (CE.region ?_)))
 refine WD (op_move rfl) rfl ?_
 refine WL.op (op_farith (e := (fop .mul .f32 1056964608 a)) (.inr (.inr (.inl rfl))) rfl rfl rfl rfl rfl) rfl rfl (ltb rfl) ?_
 rintro _ w10 ⟨⟨f1, rfl, hf1, lf1⟩, m10⟩
 refine WD (op_assign rfl) rfl ?_
 refine WL.end (NE.code (CE.seq ?_))
 refine CE.draw (fun | 18 => some (fun _ wA uA wB => uA = vF (keptF (fop .add .f32 (((GR.getD m RD.d).xs).getD ((aR + (GR.getD m RD.d).xs.length - 1 - pl) % (GR.getD m RD.d).xs.length) 0) (fop .mul .f32 1056964608 a))) ∧ (keptF (fop .add .f32 (((GR.getD m RD.d).xs).getD ((aR + (GR.getD m RD.d).xs.length - 1 - pl) % (GR.getD m RD.d).xs.length) 0) (fop .mul .f32 1056964608 a)) < wid .f32) ∧ Mod [] wA wB) | _ => none) [0, 1, 2, 3, 4, 5, 6, 7, 8, 9, 10, 11, 12, 13, 14, 15, 16, 17, 18] [19, 20] [] (by kernel_rfl) (by kernel_rfl) ?_
 have md1 : Mod [] w10 w10.drew := (Mod.refl _ _).drew
 generalize w10.drew = w11 at md1 ⊢
 refine DD 0 rfl (by kernel_rfl) rfl (fun wD mD => op_fieldAddr (off' := 0) rfl Try.runUnderlying33 rfl rfl Try.sizeOf25 rfl) ?_
 refine DD 1 rfl (by kernel_rfl) rfl (fun wD mD => op_load1 (i := 0) rfl Try.isAgg25 ((((r12.ext m9).ext m10).ext md1).ext mD).rng rfl rfl) ?_
 refine DD 2 rfl (by kernel_rfl) rfl (fun wD mD => op_move rfl) ?_
 refine DD 3 rfl (by kernel_rfl) rfl (fun wD mD => op_indexSl (off' := 0 + m * 2) rfl rfl rfl Try.runUnderlying25 Try.sizeOf60 (by omega) (by omega) (by omega)) ?_
 refine DD 4 rfl (by kernel_rfl) rfl (fun wD mD => op_fieldAddr (off' := 0 + m * 2) rfl Try.runUnderlying60 rfl rfl Try.sizeOf26 rfl) ?_
 refine DD 5 rfl (by kernel_rfl) rfl (fun wD mD => op_load1 (i := m * 2) rfl Try.isAgg26 ((((((r7.ext m7).mod m8 (nC (lE (lL r7.lt lR)) nN)).ext m9).ext m10).ext md1).ext mD).rng rfl (olc_get0 lDR h1 (show m < nR by omega))) ?_
 refine DD 6 rfl (by kernel_rfl) rfl (fun wD mD => op_move rfl) ?_
 refine DD 7 rfl (by kernel_rfl) rfl (fun wD mD => op_fieldAddr (off' := 0) rfl Try.runUnderlying33 rfl rfl Try.sizeOf25 rfl) ?_
 refine DD 8 rfl (by kernel_rfl) rfl (fun wD mD => op_load1 (i := 0) rfl Try.isAgg25 ((((r12.ext m9).ext m10).ext md1).ext mD).rng rfl rfl) ?_
 refine DD 9 rfl (by kernel_rfl) rfl (fun wD mD => op_move rfl) ?_
 refine DD 10 rfl (by kernel_rfl) rfl (fun wD mD => op_indexSl (off' := 0 + m * 2) rfl rfl rfl Try.runUnderlying25 Try.sizeOf60 (by omega) (by omega) (by omega)) ?_
 refine DD 11 rfl (by kernel_rfl) rfl (fun wD mD => op_fieldAddr (off' := 0 + m * 2) rfl Try.runUnderlying60 rfl rfl Try.sizeOf26 rfl) ?_
 refine DD 12 rfl (by kernel_rfl) rfl (fun wD mD => op_load1 (i := m * 2) rfl Try.isAgg26 ((((((r7.ext m7).mod m8 (nC (lE (lL r7.lt lR)) nN)).ext m9).ext m10).ext md1).ext mD).rng rfl (olc_get0 lDR h1 (show m < nR by omega))) ?_
 refine DD 13 rfl (by kernel_rfl) rfl (fun wD mD => op_move rfl) ?_
 refine DD 14 rfl (by kernel_rfl) rfl (fun wD mD => op_indexSl (off' := 0 + ((aR + (GR.getD m RD.d).xs.length - 1 - pl) % (GR.getD m RD.d).xs.length)) rfl rfl rfl Try.runUnderlying26 Try.sizeOf27 (by omega) (by omega) (by omega)) ?_
 refine DD 15 rfl (by kernel_rfl) rfl (fun wD mD => op_load1 (i := ((aR + (GR.getD m RD.d).xs.length - 1 - pl) % (GR.getD m RD.d).xs.length)) rfl Try.isAgg27 (((((((OF.row fm1 m (lQ (show m < nR by omega) lDR.symm)).ext m7).mod m8 (nC (lE (lL (OF.lt fm1 (lQ (show m < nR by omega) lDR.symm)) lR)) nN)).ext m9).ext m10).ext md1).ext mD).rng rfl (fl_get (by have eL : List.length ((GR.getD m RD.d).xs) = (GR.getD m RD.d).xs.length := rfl; omega))) ?_
 refine DD 16 rfl (by kernel_rfl) rfl (fun wD mD => op_move rfl) ?_
 refine DR.op (i := 17) (FOut .f32 (fop .add .f32 (((GR.getD m RD.d).xs).getD ((aR + (GR.getD m RD.d).xs.length - 1 - pl) % (GR.getD m RD.d).xs.length) 0) (fop .mul .f32 1056964608 a))) rfl rfl (by kernel_rfl) (.free rfl) rfl (ltb rfl) (fun wD mD => op_farith (e := (fop .add .f32 (((GR.getD m RD.d).xs).getD ((aR + (GR.getD m RD.d).xs.length - 1 - pl) % (GR.getD m RD.d).xs.length) 0) (fop .mul .f32 1056964608 a))) (.inl rfl) rfl rfl rfl hf1 rfl) ?_
 rintro _ ⟨f2, rfl, hf2, lf2⟩
 refine DR.call (i := 18) (fun uA => uA = vF (keptF (fop .add .f32 (((GR.getD m RD.d).xs).getD ((aR + (GR.getD m RD.d).xs.length - 1 - pl) % (GR.getD m RD.d).xs.length) 0) (fop .mul .f32 1056964608 a))) ∧ (keptF (fop .add .f32 (((GR.getD m RD.d).xs).getD ((aR + (GR.getD m RD.d).xs.length - 1 - pl) % (GR.getD m RD.d).xs.length) 0) (fop .mul .f32 1056964608 a)) < wid .f32)) rfl rfl (by kernel_rfl) (.free rfl) rfl (ltb rfl) ⟨_, rfl, keptF_wid hf2 lf2⟩ (vs := [.func (.func 96) #[] #[], vF f2]) rfl (fun wD mD => oc_call (vs := [vF f2]) (cap := []) rfl rfl rfl Try.call96 (c_l02Kept f2 (fop .add .f32 (((GR.getD m RD.d).xs).getD ((aR + (GR.getD m RD.d).xs.length - 1 - pl) % (GR.getD m RD.d).xs.length) 0) (fop .mul .f32 1056964608 a)) hf2 lf2 wD)) ?_ ?_
 ·rintro w1 _ w2 m1 ⟨rfl, p0, m2⟩; exact ⟨⟨rfl, p0⟩, m2⟩
 rintro _ ⟨rfl, h3⟩
 refine DR.done rfl ?_
 intro w12 m11
 refine WO.det (op_indexSl (off' := 0 + ((aR + (GR.getD m RD.d).xs.length - 1 - pl) % (GR.getD m RD.d).xs.length)) rfl rfl rfl Try.runUnderlying26 Try.sizeOf27 (by omega) (by omega) (by omega)) rfl (.free rfl) rfl rfl ?_
 refine WO.op0 rfl (.free rfl) rfl (op_store (i := ((aR + (GR.getD m RD.d).xs.length - 1 - pl) % (GR.getD m RD.d).xs.length)) (cs := [vF (keptF (fop .add .f32 (((GR.getD m RD.d).xs).getD ((aR + (GR.getD m RD.d).xs.length - 1 - pl) % (GR.getD m RD.d).xs.length) 0) (fop .mul .f32 1056964608 a)))]) rfl rfl rfl Try.sizeOf27 rfl (((((((OF.row fm1 m (lQ (show m < nR by omega) lDR.symm)).ext m7).mod m8 (nC (lE (lL (OF.lt fm1 (lQ (show m < nR by omega) lDR.symm)) lR)) nN)).ext m9).ext m10).ext md1).ext m11) rfl (by rw [fl_length]; have eL : List.length ((GR.getD m RD.d).xs) = (GR.getD m RD.d).xs.length := rfl; omega) rfl) ?_
 rintro _ w13 ⟨r13, m12, z5⟩
 have r14 : Row w13 ((PR'1.getD m BC.d).b) 0 (fl (((GR.getD m RD.d).xs).set ((aR + (GR.getD m RD.d).xs.length - 1 - pl) % (GR.getD m RD.d).xs.length) (keptF (fop .add .f32 (((GR.getD m RD.d).xs).getD ((aR + (GR.getD m RD.d).xs.length - 1 - pl) % (GR.getD m RD.d).xs.length) 0) (fop .mul .f32 1056964608 a))))) := Row.congr r13 (fl_splice (by have eL : List.length ((GR.getD m RD.d).xs) = (GR.getD m RD.d).xs.length := rfl; omega))
 have fm3 : OF w5.heap.size w13 (GR.set m ⟨(((GR.getD m RD.d).xs).set ((aR + (GR.getD m RD.d).xs.length - 1 - pl) % (GR.getD m RD.d).xs.length) (keptF (fop .add .f32 (((GR.getD m RD.d).xs).getD ((aR + (GR.getD m RD.d).xs.length - 1 - pl) % (GR.getD m RD.d).xs.length) 0) (fop .mul .f32 1056964608 a)))), (GR.getD m RD.d).at_⟩) PR'1 := OF.upd ((((((fm1.ext m7).mod m8 (fun j hj => (nC (lE (lL (OF.lt fm1 (lQ (lQ hj lDR) lDR.symm)) lR)) nN))).ext m9).ext m10).ext md1).ext m11) (lQ (show m < nR by omega) lDR.symm) m12 (fun j hj hji => (nC (OF.ne fm1 j m hj (lQ (show m < nR by omega) lDR.symm) hji) nN)) r14
 have r16 := (((((((r7.ext m7).mod m8 (nC (lE (lL r7.lt lR)) nN)).ext m9).ext m10).ext md1).ext m11).mod m12 (nC (Ne.symm (fn1 m (show m < nR by omega))) nN))
 have r15 : Row w13 bR'1 0 (olc (GR.set m ⟨(((GR.getD m RD.d).xs).set ((aR + (GR.getD m RD.d).xs.length - 1 - pl) % (GR.getD m RD.d).xs.length) (keptF (fop .add .f32 (((GR.getD m RD.d).xs).getD ((aR + (GR.getD m RD.d).xs.length - 1 - pl) % (GR.getD m RD.d).xs.length) 0) (fop .mul .f32 1056964608 a)))), (GR.getD m RD.d).at_⟩) PR'1) := Row.congr r16 (olc_same lDR h1 (show m < nR by omega) ((List.length_set).trans rfl))
 refine WO.end (NE.code (CE.seq ?_))
 refine CE.draw (fun | 18 => some (fun _ wA uA wB => uA = vF (keptF (fop .add .f32 (((GL.getD m RD.d).xs).getD ((aL + pl) % (GR.getD m RD.d).xs.length) 0) (fop .mul .f32 1056964608 a))) ∧ (keptF (fop .add .f32 (((GL.getD m RD.d).xs).getD ((aL + pl) % (GR.getD m RD.d).xs.length) 0) (fop .mul .f32 1056964608 a)) < wid .f32) ∧ Mod [] wA wB) | _ => none) [0, 1, 2, 3, 4, 5, 6, 7, 8, 9, 10, 11, 12, 13, 14, 15, 16, 17, 18] [19, 20] [] (by kernel_rfl) (by kernel_rfl) ?_
 have md2 : Mod [] w13 w13.drew := (Mod.refl _ _).drew
 generalize w13.drew = w14 at md2 ⊢
 refine DD 0 rfl (by kernel_rfl) rfl (fun wD mD => op_fieldAddr (off' := 1) rfl Try.runUnderlying33 rfl rfl Try.sizeOf25 rfl) ?_
 refine DD 1 rfl (by kernel_rfl) rfl (fun wD mD => op_load1 (i := 1) rfl Try.isAgg25 (((((((r12.ext m9).ext m10).ext md1).ext m11).mod m12 (nC (Ne.symm (lE (lL (OF.lt fm1 (lQ (show m < nR by omega) lDR.symm)) lR))) nN)).ext md2).ext mD).rng rfl rfl) ?_
 refine DD 2 rfl (by kernel_rfl) rfl (fun wD mD => op_move rfl) ?_
 refine DD 3 rfl (by kernel_rfl) rfl (fun wD mD => op_indexSl (off' := 0 + m * 2) rfl rfl rfl Try.runUnderlying25 Try.sizeOf60 (by omega) (by omega) (by omega)) ?_
 refine DD 4 rfl (by kernel_rfl) rfl (fun wD mD => op_fieldAddr (off' := 0 + m * 2) rfl Try.runUnderlying60 rfl rfl Try.sizeOf26 rfl) ?_
 refine DD 5 rfl (by kernel_rfl) rfl (fun wD mD => op_load1 (i := m * 2) rfl Try.isAgg26 (((((((((r8.ext m7).mod m8 (nC (lE (lL r8.lt lR)) nN)).ext m9).ext m10).ext md1).ext m11).mod m12 (nC (Ne.symm (fn2 m (show m < nR by omega))) nN)).ext md2).ext mD).rng rfl (olc_get0 lDL h2 (show m < nL by omega))) ?_
 refine DD 6 rfl (by kernel_rfl) rfl (fun wD mD => op_move rfl) ?_
 refine DD 7 rfl (by kernel_rfl) rfl (fun wD mD => op_fieldAddr (off' := 1) rfl Try.runUnderlying33 rfl rfl Try.sizeOf25 rfl) ?_
 refine DD 8 rfl (by kernel_rfl) rfl (fun wD mD => op_load1 (i := 1) rfl Try.isAgg25 (((((((r12.ext m9).ext m10).ext md1).ext m11).mod m12 (nC (Ne.symm (lE (lL (OF.lt fm1 (lQ (show m < nR by omega) lDR.symm)) lR))) nN)).ext md2).ext mD).rng rfl rfl) ?_
 refine DD 9 rfl (by kernel_rfl) rfl (fun wD mD => op_move rfl) ?_
 refine DD 10 rfl (by kernel_rfl) rfl (fun wD mD => op_indexSl (off' := 0 + m * 2) rfl rfl rfl Try.runUnderlying25 Try.sizeOf60 (by omega) (by omega) (by omega)) ?_
 refine DD 11 rfl (by kernel_rfl) rfl (fun wD mD => op_fieldAddr (off' := 0 + m * 2) rfl Try.runUnderlying60 rfl rfl Try.sizeOf26 rfl) ?_
 refine DD 12 rfl (by kernel_rfl) rfl (fun wD mD => op_load1 (i := m * 2) rfl Try.isAgg26 (((((((((r8.ext m7).mod m8 (nC (lE (lL r8.lt lR)) nN)).ext m9).ext m10).ext md1).ext m11).mod m12 (nC (Ne.symm (fn2 m (show m < nR by omega))) nN)).ext md2).ext mD).rng rfl (olc_get0 lDL h2 (show m < nL by omega))) ?_
 refine DD 13 rfl (by kernel_rfl) rfl (fun wD mD => op_move rfl) ?_
 refine DD 14 rfl (by kernel_rfl) rfl (fun wD mD => op_indexSl (off' := 0 + ((aL + pl) % (GR.getD m RD.d).xs.length)) rfl rfl rfl Try.runUnderlying26 Try.sizeOf27 (by omega) (by omega) (by omega)) ?_
 refine DD 15 rfl (by kernel_rfl) rfl (fun wD mD => op_load1 (i := ((aL + pl) % (GR.getD m RD.d).xs.length)) rfl Try.isAgg27 ((((((((((OF.row fm2 m (lQ (show m < nL by omega) lDL.symm)).ext m7).mod m8 (nC (lE (lL (OF.lt fm2 (lQ (show m < nL by omega) lDL.symm)) lR)) nN)).ext m9).ext m10).ext md1).ext m11).mod m12 (nC (Ne.symm (fn4 m m (show m < nR by omega) (show m < nL by omega))) nN)).ext md2).ext mD).rng rfl (fl_get (by have eL : List.length ((GL.getD m RD.d).xs) = (GL.getD m RD.d).xs.length := rfl; omega))) ?_
 refine DD 16 rfl (by kernel_rfl) rfl (fun wD mD => op_move rfl) ?_
 refine DR.op (i := 17) (FOut .f32 (fop .add .f32 (((GL.getD m RD.d).xs).getD ((aL + pl) % (GR.getD m RD.d).xs.length) 0) (fop .mul .f32 1056964608 a))) rfl rfl (by kernel_rfl) (.free rfl) rfl (ltb rfl) (fun wD mD => op_farith (e := (fop .add .f32 (((GL.getD m RD.d).xs).getD ((aL + pl) % (GR.getD m RD.d).xs.length) 0) (fop .mul .f32 1056964608 a))) (.inl rfl) rfl rfl rfl hf1 rfl) ?_
 rintro _ ⟨f3, rfl, hf3, lf3⟩
 refine DR.call (i := 18) (fun uA => uA = vF (keptF (fop .add .f32 (((GL.getD m RD.d).xs).getD ((aL + pl) % (GR.getD m RD.d).xs.length) 0) (fop .mul .f32 1056964608 a))) ∧ (keptF (fop .add .f32 (((GL.getD m RD.d).xs).getD ((aL + pl) % (GR.getD m RD.d).xs.length) 0) (fop .mul .f32 1056964608 a)) < wid .f32)) rfl rfl (by kernel_rfl) (.free rfl) rfl (ltb rfl) ⟨_, rfl, keptF_wid hf3 lf3⟩ (vs := [.func (.func 96) #[] #[], vF f3]) rfl (fun wD mD => oc_call (vs := [vF f3]) (cap := []) rfl rfl rfl Try.call96 (c_l02Kept f3 (fop .add .f32 (((GL.getD m RD.d).xs).getD ((aL + pl) % (GR.getD m RD.d).xs.length) 0) (fop .mul .f32 1056964608 a)) hf3 lf3 wD)) ?_ ?_
 ·rintro w1 _ w2 m1 ⟨rfl, p0, m2⟩; exact ⟨⟨rfl, p0⟩, m2⟩
 rintro _ ⟨rfl, h4⟩
 refine DR.done rfl ?_
 intro w15 m13
 refine WO.det (op_indexSl (off' := 0 + ((aL + pl) % (GR.getD m RD.d).xs.length)) rfl rfl rfl Try.runUnderlying26 Try.sizeOf27 (by omega) (by omega) (by omega)) rfl (.free rfl) rfl rfl ?_
 refine WO.op0 rfl (.free rfl) rfl (op_store (i := ((aL + pl) % (GR.getD m RD.d).xs.length)) (cs := [vF (keptF (fop .add .f32 (((GL.getD m RD.d).xs).getD ((aL + pl) % (GR.getD m RD.d).xs.length) 0) (fop .mul .f32 1056964608 a)))]) rfl rfl rfl Try.sizeOf27 rfl ((((((((((OF.row fm2 m (lQ (show m < nL by omega) lDL.symm)).ext m7).mod m8 (nC (lE (lL (OF.lt fm2 (lQ (show m < nL by omega) lDL.symm)) lR)) nN)).ext m9).ext m10).ext md1).ext m11).mod m12 (nC (Ne.symm (fn4 m m (show m < nR by omega) (show m < nL by omega))) nN)).ext md2).ext m13) rfl (by rw [fl_length]; have eL : List.length ((GL.getD m RD.d).xs) = (GL.getD m RD.d).xs.length := rfl; omega) rfl) ?_
 rintro _ w16 ⟨r17, m14, z6⟩
 have r18 : Row w16 ((PL'1.getD m BC.d).b) 0 (fl (((GL.getD m RD.d).xs).set ((aL + pl) % (GR.getD m RD.d).xs.length) (keptF (fop .add .f32 (((GL.getD m RD.d).xs).getD ((aL + pl) % (GR.getD m RD.d).xs.length) 0) (fop .mul .f32 1056964608 a))))) := Row.congr r17 (fl_splice (by have eL : List.length ((GL.getD m RD.d).xs) = (GL.getD m RD.d).xs.length := rfl; omega))
 have fm4 : OF w5.heap.size w16 (GL.set m ⟨(((GL.getD m RD.d).xs).set ((aL + pl) % (GR.getD m RD.d).xs.length) (keptF (fop .add .f32 (((GL.getD m RD.d).xs).getD ((aL + pl) % (GR.getD m RD.d).xs.length) 0) (fop .mul .f32 1056964608 a)))), (GL.getD m RD.d).at_⟩) PL'1 := OF.upd (((((((((fm2.ext m7).mod m8 (fun j hj => (nC (lE (lL (OF.lt fm2 (lQ (lQ hj lDL) lDL.symm)) lR)) nN))).ext m9).ext m10).ext md1).ext m11).mod m12 (fun j hj => (nC (Ne.symm (fn4 m j (show m < nR by omega) (lQ hj lDL))) nN))).ext md2).ext m13) (lQ (show m < nL by omega) lDL.symm) m14 (fun j hj hji => (nC (OF.ne fm2 j m hj (lQ (show m < nL by omega) lDL.symm) hji) nN)) r18
 have r20 := ((((((((((r8.ext m7).mod m8 (nC (lE (lL r8.lt lR)) nN)).ext m9).ext m10).ext md1).ext m11).mod m12 (nC (Ne.symm (fn2 m (show m < nR by omega))) nN)).ext md2).ext m13).mod m14 (nC (Ne.symm (fn6 m (show m < nL by omega))) nN))
 have r19 : Row w16 bL'1 0 (olc (GL.set m ⟨(((GL.getD m RD.d).xs).set ((aL + pl) % (GR.getD m RD.d).xs.length) (keptF (fop .add .f32 (((GL.getD m RD.d).xs).getD ((aL + pl) % (GR.getD m RD.d).xs.length) 0) (fop .mul .f32 1056964608 a)))), (GL.getD m RD.d).at_⟩) PL'1) := Row.congr r20 (olc_same lDL h2 (show m < nL by omega) ((List.length_set).trans rfl))
 refine WO.end (NE.code (CE.seq (CE.region ?_)))
 have r21 := ((((((((r12.ext m9).ext m10).ext md1).ext m11).mod m12 (nC (Ne.symm (lE (lL (OF.lt fm1 (lQ (show m < nR by omega) lDR.symm)) lR))) nN)).ext md2).ext m13).mod m14 (nC (Ne.symm (lE (lL (OF.lt fm2 (lQ (show m < nL by omega) lDL.symm)) lR))) nN))
 refine WD (op_loadA (i := 0) (cs := [vS bR'1 0 nR cR'1, vS bL'1 0 nL cL'1, vS bS'1 0 0 cS'1, vI k, vF kc0, vF kc1, vF kc2, vF ks0, vF ks1, .bool op, vF lo, vF re, vF sl]) rfl Try.isAgg33 Try.sizeOf33 r21.rng rfl rfl rfl) rfl ?_
 have sz1 := (lT (lT (lT m3.size m4.size) m5.size) m6.size)
 have sz2 := (lT (lT m3.size m4.size) m5.size)
 have r22 := ((((((((((((((r2.ext m3).ext m4).ext m5).ext m6).ext m7).mod m8 (nC (lE (lL (lL r2.lt sz1) lR)) nN)).ext m9).ext m10).ext md1).ext m11).mod m12 (nC (Ne.symm (lG (lL (lL r2.lt sz2) (fm3.ge m (lQ (show m < nR by omega) ((List.length_set).trans lDR).symm))))) nN)).ext md2).ext m13).mod m14 (nC (Ne.symm (lG (lL (lL r2.lt sz2) (fm4.ge m (lQ (show m < nL by omega) ((List.length_set).trans lDL).symm))))) nN))
 refine WL.op0 (op_store (i := 0) (cs := [vS bR'1 0 nR cR'1, vS bL'1 0 nL cL'1, vS bS'1 0 0 cS'1, vI k, vF kc0, vF kc1, vF kc2, vF ks0, vF ks1, .bool op, vF lo, vF re, vF sl]) rfl rfl rfl Try.sizeOf33 rfl r22 rfl (lB rfl) rfl) rfl rfl ?_
 rintro _ w17 ⟨r23, m15, z7⟩
 have r24 : Row w17 w1.heap.size 0 [vS bR'1 0 nR cR'1, vS bL'1 0 nL cL'1, vS bS'1 0 0 cS'1, vI k, vF kc0, vF kc1, vF kc2, vF ks0, vF ks1, .bool op, vF lo, vF re, vF sl] := Row.congr r23 rfl
 refine WD (op_assign rfl) rfl ?_
 refine WL.end (NE.code (CE.ret' ?_))
 refine XE.leaveT Try.results36 (res_agg (cs := [vS bR'1 0 nR cR'1, vS bL'1 0 nL cL'1, vS bS'1 0 0 cS'1, vI k, vF kc0, vF kc1, vF kc2, vF ks0, vF ks1, .bool op, vF lo, vF re, vF sl]) rfl Try.isAgg33 Try.sizeOf33 r24.rng rfl (res_tmp rfl res_nil)) ?_
 have r25 := ((((r15.ext md2).ext m13).mod m14 (nC (Ne.symm (fn5 m (show m < nL by omega))) nN)).mod m15 (nC (lG (lL (lL r2.lt sz2) ge1)) nN))
 have r26 := (((((((((((r9.ext m7).mod m8 (nC (lE (lL r9.lt lR)) nN)).ext m9).ext m10).ext md1).ext m11).mod m12 (nC (Ne.symm (fn3 m (show m < nR by omega))) nN)).ext md2).ext m13).mod m14 (nC (Ne.symm (fn7 m (show m < nL by omega))) nN)).mod m15 (nC (lG (lL (lL r2.lt sz2) ge3)) nN))
 have sz3 := (lT (lT (lT (lT m1.size m2.size) m3.size) m4.size) m5.size)
 refine ⟨bR'1, cR'1, PR'1, bL'1, cL'1, PL'1, bS'1, cS'1, rfl, h1, h2, (Row.congr r25 ?_), (Row.congr (r19.mod m15 (nC (lG (lL (lL r2.lt sz2) ge2)) nN)) ?_), r26, (lT sz3 ge1), (lT sz3 ge2), (lT sz3 ge3), ne1, ne2, ne3, (OF.congr (OF.low ((((fm3.ext md2).ext m13).mod m14 (fun j hj => (nC (fn4 j m (lQ hj ((List.length_set).trans lDR)) (show m < nL by omega)) nN))).mod m15 (fun j hj => (nC (lG (lL (lL r2.lt sz2) (fm3.ge j (lQ (lQ hj ((List.length_set).trans lDR)) ((List.length_set).trans lDR).symm)))) nN))) sz3) (by first | (rw [eZR]; done) | (rw [eZL]; done) | (rw [eZR, fop_mul_comm .f32 a]; done) | (rw [eZL, fop_mul_comm .f32 a]; done) | (rw [eZR]; rfl) | (rw [eZL]; rfl))), (fun j hj => (fn1 j (show j < nR by omega))), (fun j hj => (fn2 j (show j < nR by omega))), (fun j hj => (fn3 j (show j < nR by omega))), (fun j q hj hq => (fn4 j q (show j < nR by omega) (show q < nL by omega))), (OF.congr (OF.low (fm4.mod m15 (fun j hj => (nC (lG (lL (lL r2.lt sz2) (fm4.ge j (lQ (lQ hj ((List.length_set).trans lDL)) ((List.length_set).trans lDL).symm)))) nN))) sz3) (by first | (rw [eZR]; done) | (rw [eZL]; done) | (rw [eZR, fop_mul_comm .f32 a]; done) | (rw [eZL, fop_mul_comm .f32 a]; done) | (rw [eZR]; rfl) | (rw [eZL]; rfl))), (fun j hj => (fn5 j (show j < nL by omega))), (fun j hj => (fn6 j (show j < nL by omega))), (fun j hj => (fn7 j (show j < nL by omega))), ((((((((((((((((((Mod.refl [] w).nt m1).nt m2).nt m3).nt m4).nt m5).nt m6).nt m7).then m8 ((aC (.inr (lT (lT sz3 m6.size) lR)) aN))).nt m9).nt m10).nt md1).nt m11).then m12 ((aC (.inr (lT sz3 (fm3.ge m (lQ (show m < nR by omega) ((List.length_set).trans lDR).symm)))) aN))).nt md2).nt m13).then m14 ((aC (.inr (lT sz3 (fm4.ge m (lQ (show m < nL by omega) ((List.length_set).trans lDL).symm)))) aN))).then m15 ((aC (.inr (lT m1.size lR)) aN)))⟩
 all_goals subst eZR
 all_goals subst eZL
 all_goals first | rfl | (rw [fop_mul_comm .f32 a])

theorem c_iPulseS (nR : Nat) (GR : List RD) (nL : Nat) (GL : List RD) (nS : Nat) (xS : List Nat) (cR : Nat) (bR : Nat) (PR : List BC) (loR : Nat) (cL : Nat) (bL : Nat) (PL : List BC) (loL : Nat) (cS : Nat) (bS : Nat) (k : Int) (kc0 : Nat) (kc1 : Nat) (kc2 : Nat) (ks0 : Nat) (ks1 : Nat) (op : Bool) (lo : Nat) (re : Nat) (sl : Nat) (m : Nat) (pl : Nat) (a : Nat) (aR : Nat) (aL : Nat) (ZR : List RD) (ZL : List RD) (lDR : GR.length = nR) (lDL : GL.length = nL) (lnS : xS.length = nS) (hzR : ∀ i, (GR.getD i RD.d).xs.length ≤ 1048576) (hzL : ∀ i, (GL.getD i RD.d).xs.length ≤ 1048576) (lPR : PR.length = nR) (lPL : PL.length = nL) (mR : nR ≤ 1048576) (mL : nL ≤ 1048576) (mS : nS ≤ 1048576) (h0n : 0 < nR) (h0m : 0 < nL) (hpR : ∀ i, i < nR → 0 < (GR.getD i RD.d).xs.length) (hpL : ∀ i, i < nL → 0 < (GL.getD i RD.d).xs.length) (hs : 1 ≤ nR ∧ nR ≤ 3 ∧ nL = nR ∧ nS + 1 = nR) (h0s : 0 < nS) (hm : m < nR) (hnn : nL = nR) (hpl : pl < (GR.getD m RD.d).xs.length) (heR : (GR.getD m RD.d).at_ = ((aR : Nat) : Int)) (heL : (GL.getD m RD.d).at_ = ((aL : Nat) : Int)) (hlR : aR < (GR.getD m RD.d).xs.length) (hlL : aL < (GL.getD m RD.d).xs.length) (hll : (GR.getD m RD.d).xs.length = (GL.getD m RD.d).xs.length) (wR : W32 (GR.getD m RD.d).xs) (wL : W32 (GL.getD m RD.d).xs) (hv : vPipe nR nL nS GR GL xS k kc0 kc1 kc2 ks0 ks1 lo re sl = true) (hf : finF a = true) (la : a < wid .f32) (eZR : ZR = (GR.set m ⟨((GR.getD m RD.d).xs.set ((aR + (GR.getD m RD.d).xs.length - 1 - pl) % (GR.getD m RD.d).xs.length) (keptF (fop .add .f32 ((GR.getD m RD.d).xs.getD ((aR + (GR.getD m RD.d).xs.length - 1 - pl) % (GR.getD m RD.d).xs.length) 0) (fop .mul .f32 1056964608 a)))), (GR.getD m RD.d).at_⟩)) (eZL : ZL = (GL.set m ⟨((GL.getD m RD.d).xs.set ((aL + pl) % (GR.getD m RD.d).xs.length) (keptF (fop .add .f32 ((GL.getD m RD.d).xs.getD ((aL + pl) % (GR.getD m RD.d).xs.length) 0) (fop .mul .f32 1056964608 a)))), (GL.getD m RD.d).at_⟩)) (lZR : ZR.length = nR) (lZL : ZL.length = nL) (w : World) (rR : Rng w bR 0 (olc GR PR)) (rL : Rng w bL 0 (olc GL PL)) (rS : Rng w bS 0 (fl xS))  (FR : OF loR w GR PR) (FL : OF loL w GL PL) : Cl Try.prog 35 #[.agg #[vS bR 0 nR cR, vS bL 0 nL cL, vS bS 0 nS cS, vI k, vF kc0, vF kc1, vF kc2, vF ks0, vF ks1, .bool op, vF lo, vF re, vF sl], vI ((m : Nat) : Int), vI ((pl : Nat) : Int), vF a] w fun v w' => ∃ (bR' : Nat) (cR' : Nat) (PR' : List BC) (bL' : Nat) (cL' : Nat) (PL' : List BC) (bS' : Nat) (cS' : Nat), v = .tuple #[.agg #[vS bR' 0 nR cR', vS bL' 0 nL cL', vS bS' 0 nS cS', vI k, vF kc0, vF kc1, vF kc2, vF ks0, vF ks1, .bool op, vF lo, vF re, vF sl], vI 0] ∧ (PR'.length = nR) ∧ (PL'.length = nL) ∧ Row w' bR' 0 (olc ZR PR') ∧ Row w' bL' 0 (olc ZL PL') ∧ Row w' bS' 0 (fl xS) ∧ w.heap.size ≤ bR' ∧ w.heap.size ≤ bL' ∧ w.heap.size ≤ bS' ∧ bR' ≠ bL' ∧ bR' ≠ bS' ∧ bL' ≠ bS' ∧ OF w.heap.size w' ZR PR' ∧ (∀ i, i < nR → (PR'.getD i BC.d).b ≠ bR') ∧ (∀ i, i < nR → (PR'.getD i BC.d).b ≠ bL') ∧ (∀ i, i < nR → (PR'.getD i BC.d).b ≠ bS') ∧ (∀ i j, i < nR → j < nL → (PR'.getD i BC.d).b ≠ (PL'.getD j BC.d).b) ∧ OF w.heap.size w' ZL PL' ∧ (∀ i, i < nL → (PL'.getD i BC.d).b ≠ bR') ∧ (∀ i, i < nL → (PL'.getD i BC.d).b ≠ bL') ∧ (∀ i, i < nL → (PL'.getD i BC.d).b ≠ bS') ∧ Mod [] w w' := by
 have hzm := hzR m
 have hzl := hzL m
 have hIR : ((aR + (GR.getD m RD.d).xs.length - 1 - pl) % (GR.getD m RD.d).xs.length) < (GR.getD m RD.d).xs.length := Nat.mod_lt _ (by omega)
 have hIL : ((aL + pl) % (GR.getD m RD.d).xs.length) < (GR.getD m RD.d).xs.length := Nat.mod_lt _ (by omega)
 refine Cl.of Try.func35 Try.ntmps35 rfl rfl (ρ := [(0, .agg #[vS bR 0 nR cR, vS bL 0 nL cL, vS bS 0 nS cS, vI k, vF kc0, vF kc1, vF kc2, vF ks0, vF ks1, .bool op, vF lo, vF re, vF sl]), (1, vI ((m : Nat) : Int)), (2, vI ((pl : Nat) : Int)), (3, vF a)]) rfl ?_
 refine CE.seq (CE.region ?_)
 refine WL.op (op_box (cs := [vS bR 0 nR cR, vS bL 0 nL cL, vS bS 0 nS cS, vI k, vF kc0, vF kc1, vF kc2, vF ks0, vF ks1, .bool op, vF lo, vF re, vF sl]) rfl rfl) rfl rfl (ltb rfl) ?_
 rintro _ w1 ⟨rfl, r1, m1, z1⟩
 refine WL.op (op_alloc (cs := [.slice none 0 0, .slice none 0 0, .slice none 0 0, vI 0, vF 0, vF 0, vF 0, vF 0, vF 0, .bool false, vF 0, vF 0, vF 0]) Try.zeroValue33 rfl) rfl rfl (ltb rfl) ?_
 rintro _ w2 ⟨rfl, r2, m2, z2⟩
 refine WD (op_assign rfl) rfl ?_
 refine WL.end (NE.code (CE.seq (CE.seq (CE.region ?_))))
 refine WD (op_loadA (i := 0) (cs := [vS bR 0 nR cR, vS bL 0 nL cL, vS bS 0 nS cS, vI k, vF kc0, vF kc1, vF kc2, vF ks0, vF ks1, .bool op, vF lo, vF re, vF sl]) rfl Try.isAgg33 Try.sizeOf33 (r1.ext m2).rng rfl rfl rfl) rfl ?_
 refine WL.call (oc_call (vs := [.agg #[vS bR 0 nR cR, vS bL 0 nL cL, vS bS 0 nS cS, vI k, vF kc0, vF kc1, vF kc2, vF ks0, vF ks1, .bool op, vF lo, vF re, vF sl]]) (cap := []) rfl rfl rfl Try.call44 (c_ValidPipeS nR GR nL GL nS xS cR bR PR loR cL bL PL loL cS bS k kc0 kc1 kc2 ks0 ks1 op lo re sl lDR lDL lnS (by first | assumption | exact rd_small (by assumption) (by assumption) | exact markD_small (by first | assumption | exact rd_small (by assumption) (by assumption)) _) (by first | assumption | exact rd_small (by assumption) (by assumption) | exact markD_small (by first | assumption | exact rd_small (by assumption) (by assumption)) _) lPR lPL (by first | assumption | omega) (by first | assumption | omega) (by first | assumption | omega) (by omega) w2 ((rR.ext m1).ext m2) ((rL.ext m1).ext m2) ((rS.ext m1).ext m2) ((FR.ext m1).ext m2) ((FL.ext m1).ext m2))) rfl rfl (ltb rfl) ?_
 rintro _ w3 ⟨rfl, m3⟩
 refine WD (op_not rfl) rfl ?_
 refine WL.end (NE.code ?_)
 refine CE.cond_f rfl (bnot_t hv) ?_
 refine CE.skip' (NE.code (CE.seq (CE.region ?_)))
 refine WD (op_loadA (i := 0) (cs := [vS bR 0 nR cR, vS bL 0 nL cL, vS bS 0 nS cS, vI k, vF kc0, vF kc1, vF kc2, vF ks0, vF ks1, .bool op, vF lo, vF re, vF sl]) rfl Try.isAgg33 Try.sizeOf33 ((r1.ext m2).ext m3).rng rfl rfl rfl) rfl ?_
 iterate 2 refine WD (op_move rfl) rfl ?_
 have r3 := (((rR.ext m1).ext m2).ext m3)
 have r4 := (((rL.ext m1).ext m2).ext m3)
 have r5 := (((rS.ext m1).ext m2).ext m3)
 refine WL.call (oc_call (vs := [.agg #[vS bR 0 nR cR, vS bL 0 nL cL, vS bS 0 nS cS, vI k, vF kc0, vF kc1, vF kc2, vF ks0, vF ks1, .bool op, vF lo, vF re, vF sl], vI ((m : Nat) : Int), vI ((pl : Nat) : Int)]) (cap := []) rfl rfl rfl Try.call91 (c_placesS nR GR nL GL nS xS cR bR PR loR cL bL PL loL cS bS k kc0 kc1 kc2 ks0 ks1 op lo re sl m pl aR aL lDR lDL lnS (by first | assumption | exact rd_small (by assumption) (by assumption) | exact markD_small (by first | assumption | exact rd_small (by assumption) (by assumption)) _) (by first | assumption | exact rd_small (by assumption) (by assumption) | exact markD_small (by first | assumption | exact rd_small (by assumption) (by assumption)) _) lPR lPL (by first | assumption | omega) (by first | assumption | omega) (by first | assumption | omega) (by first | assumption | omega) (by first | assumption | omega) (by first | assumption | omega) (by assumption) (by assumption) (by first | assumption | omega) (by first | assumption | omega) w3 r3 r4 r5 (((FR.ext m1).ext m2).ext m3) (((FL.ext m1).ext m2).ext m3))) rfl rfl (ltb rfl) ?_
 rintro _ w4 ⟨rfl, m4⟩
 refine WD (op_move rfl) rfl ?_
 iterate 3 refine WD (op_extract rfl rfl) rfl ?_
 iterate 3 refine WD (op_assign rfl) rfl ?_
 refine WL.end (NE.code (CE.seq (CE.seq (CE.region ?_))))
 refine WD (op_move rfl) rfl ?_
 refine WD (op_not rfl) rfl ?_
 refine WD (op_move rfl) rfl ?_
 refine WL.yes rfl rfl rfl (ltb rfl) rfl rfl ?_
 refine WD (op_move rfl) rfl ?_
 refine WL.yes rfl rfl rfl (ltb rfl) rfl rfl ?_
 refine WL.call (oc_call (vs := [vF a]) (cap := []) rfl rfl rfl Try.call92 (c_isFinite a a rfl w4)) rfl rfl (ltb rfl) ?_
 rintro _ w5 ⟨rfl, m5⟩
 refine WL.yes rfl rfl rfl (ltb rfl) rfl rfl ?_
 refine WD (op_not rfl) rfl ?_
 refine WD (op_pick_f rfl rfl rfl) rfl ?_
 refine WL.end (NE.code ?_)
 refine CE.cond_f rfl (bnot_t hf) ?_
 refine CE.skip' (NE.code (CE.seq (CE.region ?_)))
 have r6 := ((((r1.ext m2).ext m3).ext m4).ext m5)
 refine WD (op_loadA (i := 0) (cs := [vS bR 0 nR cR, vS bL 0 nL cL, vS bS 0 nS cS, vI k, vF kc0, vF kc1, vF kc2, vF ks0, vF ks1, .bool op, vF lo, vF re, vF sl]) rfl Try.isAgg33 Try.sizeOf33 r6.rng rfl rfl rfl) rfl ?_
 refine WL.call (oc_call (vs := [.agg #[vS bR 0 nR cR, vS bL 0 nL cL, vS bS 0 nS cS, vI k, vF kc0, vF kc1, vF kc2, vF ks0, vF ks1, .bool op, vF lo, vF re, vF sl]]) (cap := []) rfl rfl rfl Try.call63 (c_clonePipeS nR GR nL GL nS xS cR bR PR loR cL bL PL loL cS bS k kc0 kc1 kc2 ks0 ks1 op lo re sl lDR lDL lnS (by first | assumption | exact rd_small (by assumption) (by assumption) | exact markD_small (by first | assumption | exact rd_small (by assumption) (by assumption)) _) (by first | assumption | exact rd_small (by assumption) (by assumption) | exact markD_small (by first | assumption | exact rd_small (by assumption) (by assumption)) _) lPR lPL (by first | assumption | omega) (by first | assumption | omega) (by first | assumption | omega) (by omega) (by omega) (by first | assumption | exact vRings_pos (by assumption)) (by first | assumption | exact vRings_pos (by assumption)) (by first | assumption | omega) w5 ((r3.ext m4).ext m5) ((r4.ext m4).ext m5) ((r5.ext m4).ext m5) (((((FR.ext m1).ext m2).ext m3).ext m4).ext m5) (((((FL.ext m1).ext m2).ext m3).ext m4).ext m5))) rfl rfl (ltb rfl) ?_
 rintro _ w6 ⟨bR'1, cR'1, PR'1, bL'1, cL'1, PL'1, bS'1, cS'1, rfl, h1, h2, r7, r8, r9, ge1, ge2, ge3, ne1, ne2, ne3, fm1, fn1, fn2, fn3, fn4, fm2, fn5, fn6, fn7, m6⟩
 refine WL.op0 (op_store (i := 0) (cs := [vS bR'1 0 nR cR'1, vS bL'1 0 nL cL'1, vS bS'1 0 nS cS'1, vI k, vF kc0, vF kc1, vF kc2, vF ks0, vF ks1, .bool op, vF lo, vF re, vF sl]) rfl rfl rfl Try.sizeOf33 rfl (r6.ext m6) rfl (lB rfl) rfl) rfl rfl ?_
 rintro _ w7 ⟨r10, m7, z3⟩
 have r11 : Row w7 w.heap.size 0 [vS bR'1 0 nR cR'1, vS bL'1 0 nL cL'1, vS bS'1 0 nS cS'1, vI k, vF kc0, vF kc1, vF kc2, vF ks0, vF ks1, .bool op, vF lo, vF re, vF sl] := Row.congr r10 rfl
 refine WL.end (NE.code (CE.seq (CE.region ?_)))
 refine WD (op_move rfl) rfl ?_
 refine WL.op (op_farith (e := (fop .mul .f32 a 1056964608)) (.inr (.inr (.inl rfl))) rfl rfl rfl rfl rfl) rfl rfl (ltb rfl) ?_
 rintro _ w8 ⟨⟨f1, rfl, hf1, lf1⟩, m8⟩
 refine WD (op_assign rfl) rfl ?_
 refine WL.end (NE.code (CE.seq ?_))
 refine CE.draw (fun _ => none) [0, 1, 2, 3, 4, 5, 6, 7, 8, 9, 10, 11, 12] [13] [] (by kernel_rfl) (by kernel_rfl) ?_
 have md1 : Mod [] w8 w8.drew := (Mod.refl _ _).drew
 generalize w8.drew = w9 at md1 ⊢
 refine DD 0 rfl (by kernel_rfl) rfl (fun wD mD => op_fieldAddr (off' := 0) rfl Try.runUnderlying33 rfl rfl Try.sizeOf25 rfl) ?_
 refine DD 1 rfl (by kernel_rfl) rfl (fun wD mD => op_load1 (i := 0) rfl Try.isAgg25 (((r11.ext m8).ext md1).ext mD).rng rfl rfl) ?_
 refine DD 2 rfl (by kernel_rfl) rfl (fun wD mD => op_move rfl) ?_
 refine DD 3 rfl (by kernel_rfl) rfl (fun wD mD => op_indexSl (off' := 0 + m * 2) rfl rfl rfl Try.runUnderlying25 Try.sizeOf60 (by omega) (by omega) (by omega)) ?_
 refine DD 4 rfl (by kernel_rfl) rfl (fun wD mD => op_fieldAddr (off' := 0 + m * 2) rfl Try.runUnderlying60 rfl rfl Try.sizeOf26 rfl) ?_
 refine DD 5 rfl (by kernel_rfl) rfl (fun wD mD => op_load1 (i := m * 2) rfl Try.isAgg26 ((((r7.mod m7 (nC (lG (lL (lL r1.lt (lT (lT (lT m2.size m3.size) m4.size) m5.size)) ge1)) nN)).ext m8).ext md1).ext mD).rng rfl (olc_get0 lDR h1 (show m < nR by omega))) ?_
 refine DD 6 rfl (by kernel_rfl) rfl (fun wD mD => op_fieldAddr (off' := 1) rfl Try.runUnderlying33 rfl rfl Try.sizeOf25 rfl) ?_
 refine DD 7 rfl (by kernel_rfl) rfl (fun wD mD => op_load1 (i := 1) rfl Try.isAgg25 (((r11.ext m8).ext md1).ext mD).rng rfl rfl) ?_
 refine DD 8 rfl (by kernel_rfl) rfl (fun wD mD => op_move rfl) ?_
 refine DD 9 rfl (by kernel_rfl) rfl (fun wD mD => op_indexSl (off' := 0 + m * 2) rfl rfl rfl Try.runUnderlying25 Try.sizeOf60 (by omega) (by omega) (by omega)) ?_
 refine DD 10 rfl (by kernel_rfl) rfl (fun wD mD => op_fieldAddr (off' := 0 + m * 2) rfl Try.runUnderlying60 rfl rfl Try.sizeOf26 rfl) ?_
 refine DD 11 rfl (by kernel_rfl) rfl (fun wD mD => op_load1 (i := m * 2) rfl Try.isAgg26 ((((r8.mod m7 (nC (lG (lL (lL r1.lt (lT (lT (lT m2.size m3.size) m4.size) m5.size)) ge2)) nN)).ext m8).ext md1).ext mD).rng rfl (olc_get0 lDL h2 (show m < nL by omega))) ?_
 refine DD 12 rfl (by kernel_rfl) rfl (fun wD mD => op_assign rfl) ?_
 refine DR.done rfl ?_
 intro w10 m9
 refine WO.det (op_assign rfl) rfl (.free rfl) rfl rfl ?_
 refine WO.end (NE.code (CE.seq ?_))
 refine CE.draw (fun | 10 => some (fun _ wA uA wB => uA = vF (keptF (fop .add .f32 (((GR.getD m RD.d).xs).getD ((aR + (GR.getD m RD.d).xs.length - 1 - pl) % (GR.getD m RD.d).xs.length) 0) (fop .mul .f32 a 1056964608))) ∧ (keptF (fop .add .f32 (((GR.getD m RD.d).xs).getD ((aR + (GR.getD m RD.d).xs.length - 1 - pl) % (GR.getD m RD.d).xs.length) 0) (fop .mul .f32 a 1056964608)) < wid .f32) ∧ Mod [] wA wB) | 17 => some (fun _ wA uA wB => uA = vF (keptF (fop .add .f32 (((GL.getD m RD.d).xs).getD ((aL + pl) % (GR.getD m RD.d).xs.length) 0) (fop .mul .f32 a 1056964608))) ∧ (keptF (fop .add .f32 (((GL.getD m RD.d).xs).getD ((aL + pl) % (GR.getD m RD.d).xs.length) 0) (fop .mul .f32 a 1056964608)) < wid .f32) ∧ Mod [] wA wB) | _ => none) [0, 1, 2, 3, 4, 5, 6, 7, 8, 9, 10, 11, 12, 13, 14, 15, 16, 17, 18, 19] [20, 21] [(PR'1.getD m BC.d).b] (by kernel_rfl) (by kernel_rfl) ?_
 have md2 : Mod [] w10 w10.drew := (Mod.refl _ _).drew
 generalize w10.drew = w11 at md2 ⊢
 refine DD 0 rfl (by kernel_rfl) rfl (fun wD mD => op_move rfl) ?_
 refine DD 1 rfl (by kernel_rfl) rfl (fun wD mD => op_move rfl) ?_
 refine DD 2 rfl (by kernel_rfl) rfl (fun wD mD => op_move rfl) ?_
 refine DD 3 rfl (by kernel_rfl) rfl (fun wD mD => op_move rfl) ?_
 refine DD 4 rfl (by kernel_rfl) rfl (fun wD mD => op_move rfl) ?_
 refine DD 5 rfl (by kernel_rfl) rfl (fun wD mD => op_move rfl) ?_
 refine DD 6 rfl (by kernel_rfl) rfl (fun wD mD => op_indexSl (off' := 0 + ((aR + (GR.getD m RD.d).xs.length - 1 - pl) % (GR.getD m RD.d).xs.length)) rfl rfl rfl Try.runUnderlying26 Try.sizeOf27 (by omega) (by omega) (by omega)) ?_
 refine DD 8 rfl (by kernel_rfl) rfl (fun wD mD => op_move rfl) ?_
 refine DD 11 rfl (by kernel_rfl) rfl (fun wD mD => op_move rfl) ?_
 refine DD 12 rfl (by kernel_rfl) rfl (fun wD mD => op_move rfl) ?_
 refine DD 13 rfl (by kernel_rfl) rfl (fun wD mD => op_indexSl (off' := 0 + ((aL + pl) % (GR.getD m RD.d).xs.length)) rfl rfl rfl Try.runUnderlying26 Try.sizeOf27 (by omega) (by omega) (by omega)) ?_
 refine DD 14 rfl (by kernel_rfl) rfl (fun wD mD => op_load1 (i := ((aL + pl) % (GR.getD m RD.d).xs.length)) rfl Try.isAgg27 (((((((OF.row fm2 m (lQ (show m < nL by omega) lDL.symm)).mod m7 (nC (lG (lL (lL r1.lt (lT (lT (lT m2.size m3.size) m4.size) m5.size)) (fm2.ge m (lQ (show m < nL by omega) lDL.symm)))) nN)).ext m8).ext md1).ext m9).ext md2).mod mD (nC (Ne.symm (fn4 m m (show m < nR by omega) (show m < nL by omega))) nN)).rng rfl (fl_get (by have eL : List.length ((GL.getD m RD.d).xs) = (GL.getD m RD.d).xs.length := rfl; omega))) ?_
 refine DD 15 rfl (by kernel_rfl) rfl (fun wD mD => op_move rfl) ?_
 refine DR.op (i := 16) (FOut .f32 (fop .add .f32 (((GL.getD m RD.d).xs).getD ((aL + pl) % (GR.getD m RD.d).xs.length) 0) (fop .mul .f32 a 1056964608))) rfl rfl (by kernel_rfl) (.free rfl) rfl (ltb rfl) (fun wD mD => op_farith (e := (fop .add .f32 (((GL.getD m RD.d).xs).getD ((aL + pl) % (GR.getD m RD.d).xs.length) 0) (fop .mul .f32 a 1056964608))) (.inl rfl) rfl rfl rfl hf1 rfl) ?_
 rintro _ ⟨f2, rfl, hf2, lf2⟩
 refine DR.cut [7, 9, 10, 17, 18] 5 1 rfl (by kernel_rfl) ?_
 refine DD 7 rfl (by kernel_rfl) rfl (fun wD mD => op_load1 (i := ((aR + (GR.getD m RD.d).xs.length - 1 - pl) % (GR.getD m RD.d).xs.length)) rfl Try.isAgg27 (((((((OF.row fm1 m (lQ (show m < nR by omega) lDR.symm)).mod m7 (nC (lG (lL (lL r1.lt (lT (lT (lT m2.size m3.size) m4.size) m5.size)) (fm1.ge m (lQ (show m < nR by omega) lDR.symm)))) nN)).ext m8).ext md1).ext m9).ext md2).ext mD).rng rfl (fl_get (by have eL : List.length ((GR.getD m RD.d).xs) = (GR.getD m RD.d).xs.length := rfl; omega))) ?_
 refine DR.op (i := 9) (FOut .f32 (fop .add .f32 (((GR.getD m RD.d).xs).getD ((aR + (GR.getD m RD.d).xs.length - 1 - pl) % (GR.getD m RD.d).xs.length) 0) (fop .mul .f32 a 1056964608))) rfl rfl (by kernel_rfl) (.free rfl) rfl (ltb rfl) (fun wD mD => op_farith (e := (fop .add .f32 (((GR.getD m RD.d).xs).getD ((aR + (GR.getD m RD.d).xs.length - 1 - pl) % (GR.getD m RD.d).xs.length) 0) (fop .mul .f32 a 1056964608))) (.inl rfl) rfl rfl rfl hf1 rfl) ?_
 rintro _ ⟨f3, rfl, hf3, lf3⟩
 refine DR.call (i := 10) (fun uA => uA = vF (keptF (fop .add .f32 (((GR.getD m RD.d).xs).getD ((aR + (GR.getD m RD.d).xs.length - 1 - pl) % (GR.getD m RD.d).xs.length) 0) (fop .mul .f32 a 1056964608))) ∧ (keptF (fop .add .f32 (((GR.getD m RD.d).xs).getD ((aR + (GR.getD m RD.d).xs.length - 1 - pl) % (GR.getD m RD.d).xs.length) 0) (fop .mul .f32 a 1056964608)) < wid .f32)) rfl rfl (by kernel_rfl) (.free rfl) rfl (ltb rfl) ⟨_, rfl, keptF_wid hf3 lf3⟩ (vs := [.func (.func 93) #[] #[], vF f3]) rfl (fun wD mD => oc_call (vs := [vF f3]) (cap := []) rfl rfl rfl Try.call93 (c_kept f3 (fop .add .f32 (((GR.getD m RD.d).xs).getD ((aR + (GR.getD m RD.d).xs.length - 1 - pl) % (GR.getD m RD.d).xs.length) 0) (fop .mul .f32 a 1056964608)) hf3 lf3 wD)) ?_ ?_
 ·rintro w1 _ w2 m1 ⟨rfl, p0, m2⟩; exact ⟨⟨rfl, p0⟩, m2⟩
 rintro _ ⟨rfl, h3⟩
 refine DR.call (i := 17) (fun uA => uA = vF (keptF (fop .add .f32 (((GL.getD m RD.d).xs).getD ((aL + pl) % (GR.getD m RD.d).xs.length) 0) (fop .mul .f32 a 1056964608))) ∧ (keptF (fop .add .f32 (((GL.getD m RD.d).xs).getD ((aL + pl) % (GR.getD m RD.d).xs.length) 0) (fop .mul .f32 a 1056964608)) < wid .f32)) rfl rfl (by kernel_rfl) (.free rfl) rfl (ltb rfl) ⟨_, rfl, keptF_wid hf2 lf2⟩ (vs := [.func (.func 93) #[] #[], vF f2]) rfl (fun wD mD => oc_call (vs := [vF f2]) (cap := []) rfl rfl rfl Try.call93 (c_kept f2 (fop .add .f32 (((GL.getD m RD.d).xs).getD ((aL + pl) % (GR.getD m RD.d).xs.length) 0) (fop .mul .f32 a 1056964608)) hf2 lf2 wD)) ?_ ?_
 ·rintro w1 _ w2 m1 ⟨rfl, p0, m2⟩; exact ⟨⟨rfl, p0⟩, m2⟩
 rintro _ ⟨rfl, h4⟩
 refine DD 18 rfl (by kernel_rfl) rfl (fun wD mD => op_indexSl (off' := 0 + ((aR + (GR.getD m RD.d).xs.length - 1 - pl) % (GR.getD m RD.d).xs.length)) rfl rfl rfl Try.runUnderlying26 Try.sizeOf27 (by omega) (by omega) (by omega)) ?_
 refine DR.join (by kernel_rfl) ?_
 intro w12 m10 _
 refine ⟨((Mod.refl [(PR'1.getD m BC.d).b] w11).nt m10), ?_⟩
 refine DR.st1 (i := 19) rfl rfl (by kernel_rfl) (.free rfl) rfl ?_
 intro w13 m11
 refine Op1.mono (op_store (i := ((aR + (GR.getD m RD.d).xs.length - 1 - pl) % (GR.getD m RD.d).xs.length)) (cs := [vF (keptF (fop .add .f32 (((GR.getD m RD.d).xs).getD ((aR + (GR.getD m RD.d).xs.length - 1 - pl) % (GR.getD m RD.d).xs.length) 0) (fop .mul .f32 a 1056964608)))]) rfl rfl rfl Try.sizeOf27 rfl ((((((((OF.row fm1 m (lQ (show m < nR by omega) lDR.symm)).mod m7 (nC (lG (lL (lL r1.lt (lT (lT (lT m2.size m3.size) m4.size) m5.size)) (fm1.ge m (lQ (show m < nR by omega) lDR.symm)))) nN)).ext m8).ext md1).ext m9).ext md2).ext m10).ext m11) rfl (by rw [fl_length]; have eL : List.length ((GR.getD m RD.d).xs) = (GR.getD m RD.d).xs.length := rfl; omega) rfl) ?_
 rintro _ w14 ⟨r12, m12, z4⟩
 have r13 : Row w14 ((PR'1.getD m BC.d).b) 0 (fl (((GR.getD m RD.d).xs).set ((aR + (GR.getD m RD.d).xs.length - 1 - pl) % (GR.getD m RD.d).xs.length) (keptF (fop .add .f32 (((GR.getD m RD.d).xs).getD ((aR + (GR.getD m RD.d).xs.length - 1 - pl) % (GR.getD m RD.d).xs.length) 0) (fop .mul .f32 a 1056964608))))) := Row.congr r12 (fl_splice (by have eL : List.length ((GR.getD m RD.d).xs) = (GR.getD m RD.d).xs.length := rfl; omega))
 have fm3 : OF w5.heap.size w14 (GR.set m ⟨(((GR.getD m RD.d).xs).set ((aR + (GR.getD m RD.d).xs.length - 1 - pl) % (GR.getD m RD.d).xs.length) (keptF (fop .add .f32 (((GR.getD m RD.d).xs).getD ((aR + (GR.getD m RD.d).xs.length - 1 - pl) % (GR.getD m RD.d).xs.length) 0) (fop .mul .f32 a 1056964608)))), (GR.getD m RD.d).at_⟩) PR'1 := OF.upd (((((((fm1.mod m7 (fun j hj => (nC (lG (lL (lL r1.lt (lT (lT (lT m2.size m3.size) m4.size) m5.size)) (fm1.ge j (lQ (lQ hj lDR) lDR.symm)))) nN))).ext m8).ext md1).ext m9).ext md2).ext m10).ext m11) (lQ (show m < nR by omega) lDR.symm) m12 (fun j hj hji => (nC (OF.ne fm1 j m hj (lQ (show m < nR by omega) lDR.symm) hji) nN)) r13
 have sz1 := (lT (lT (lT m2.size m3.size) m4.size) m5.size)
 have r15 := ((((((((r7.mod m7 (nC (lG (lL (lL r1.lt sz1) ge1)) nN)).ext m8).ext md1).ext m9).ext md2).ext m10).ext m11).mod m12 (nC (Ne.symm (fn1 m (show m < nR by omega))) nN))
 have r14 : Row w14 bR'1 0 (olc (GR.set m ⟨(((GR.getD m RD.d).xs).set ((aR + (GR.getD m RD.d).xs.length - 1 - pl) % (GR.getD m RD.d).xs.length) (keptF (fop .add .f32 (((GR.getD m RD.d).xs).getD ((aR + (GR.getD m RD.d).xs.length - 1 - pl) % (GR.getD m RD.d).xs.length) 0) (fop .mul .f32 a 1056964608)))), (GR.getD m RD.d).at_⟩) PR'1) := Row.congr r15 (olc_same lDR h1 (show m < nR by omega) ((List.length_set).trans rfl))
 refine ⟨((((Mod.refl [(PR'1.getD m BC.d).b] w11).nt m10).nt m11).then m12 ((aC (.inl (by simp)) aN))), ?_⟩
 refine DR.done rfl ?_
 intro w15 m13
 refine WO.det (op_indexSl (off' := 0 + ((aL + pl) % (GR.getD m RD.d).xs.length)) rfl rfl rfl Try.runUnderlying26 Try.sizeOf27 (by omega) (by omega) (by omega)) rfl (.free rfl) rfl rfl ?_
 refine WO.op0 rfl (.free rfl) rfl (op_store (i := ((aL + pl) % (GR.getD m RD.d).xs.length)) (cs := [vF (keptF (fop .add .f32 (((GL.getD m RD.d).xs).getD ((aL + pl) % (GR.getD m RD.d).xs.length) 0) (fop .mul .f32 a 1056964608)))]) rfl rfl rfl Try.sizeOf27 rfl ((((((((((OF.row fm2 m (lQ (show m < nL by omega) lDL.symm)).mod m7 (nC (lG (lL (lL r1.lt sz1) (fm2.ge m (lQ (show m < nL by omega) lDL.symm)))) nN)).ext m8).ext md1).ext m9).ext md2).ext m10).ext m11).mod m12 (nC (Ne.symm (fn4 m m (show m < nR by omega) (show m < nL by omega))) nN)).ext m13) rfl (by rw [fl_length]; have eL : List.length ((GL.getD m RD.d).xs) = (GL.getD m RD.d).xs.length := rfl; omega) rfl) ?_
 rintro _ w16 ⟨r16, m14, z5⟩
 have r17 : Row w16 ((PL'1.getD m BC.d).b) 0 (fl (((GL.getD m RD.d).xs).set ((aL + pl) % (GR.getD m RD.d).xs.length) (keptF (fop .add .f32 (((GL.getD m RD.d).xs).getD ((aL + pl) % (GR.getD m RD.d).xs.length) 0) (fop .mul .f32 a 1056964608))))) := Row.congr r16 (fl_splice (by have eL : List.length ((GL.getD m RD.d).xs) = (GL.getD m RD.d).xs.length := rfl; omega))
 have fm4 : OF w5.heap.size w16 (GL.set m ⟨(((GL.getD m RD.d).xs).set ((aL + pl) % (GR.getD m RD.d).xs.length) (keptF (fop .add .f32 (((GL.getD m RD.d).xs).getD ((aL + pl) % (GR.getD m RD.d).xs.length) 0) (fop .mul .f32 a 1056964608)))), (GL.getD m RD.d).at_⟩) PL'1 := OF.upd (((((((((fm2.mod m7 (fun j hj => (nC (lG (lL (lL r1.lt sz1) (fm2.ge j (lQ (lQ hj lDL) lDL.symm)))) nN))).ext m8).ext md1).ext m9).ext md2).ext m10).ext m11).mod m12 (fun j hj => (nC (Ne.symm (fn4 m j (show m < nR by omega) (lQ hj lDL))) nN))).ext m13) (lQ (show m < nL by omega) lDL.symm) m14 (fun j hj hji => (nC (OF.ne fm2 j m hj (lQ (show m < nL by omega) lDL.symm) hji) nN)) r17
 have r19 := ((((((((((r8.mod m7 (nC (lG (lL (lL r1.lt sz1) ge2)) nN)).ext m8).ext md1).ext m9).ext md2).ext m10).ext m11).mod m12 (nC (Ne.symm (fn2 m (show m < nR by omega))) nN)).ext m13).mod m14 (nC (Ne.symm (fn6 m (show m < nL by omega))) nN))
 have r18 : Row w16 bL'1 0 (olc (GL.set m ⟨(((GL.getD m RD.d).xs).set ((aL + pl) % (GR.getD m RD.d).xs.length) (keptF (fop .add .f32 (((GL.getD m RD.d).xs).getD ((aL + pl) % (GR.getD m RD.d).xs.length) 0) (fop .mul .f32 a 1056964608)))), (GL.getD m RD.d).at_⟩) PL'1) := Row.congr r19 (olc_same lDL h2 (show m < nL by omega) ((List.length_set).trans rfl))
 refine WO.end (NE.code (CE.seq (CE.region ?_)))
 have r20 := (((((((((r11.ext m8).ext md1).ext m9).ext md2).ext m10).ext m11).mod m12 (nC (Ne.symm (lG (lL (lL r1.lt sz1) (fm3.ge m (lQ (show m < nR by omega) ((List.length_set).trans lDR).symm))))) nN)).ext m13).mod m14 (nC (Ne.symm (lG (lL (lL r1.lt sz1) (fm4.ge m (lQ (show m < nL by omega) ((List.length_set).trans lDL).symm))))) nN))
 refine WD (op_loadA (i := 0) (cs := [vS bR'1 0 nR cR'1, vS bL'1 0 nL cL'1, vS bS'1 0 nS cS'1, vI k, vF kc0, vF kc1, vF kc2, vF ks0, vF ks1, .bool op, vF lo, vF re, vF sl]) rfl Try.isAgg33 Try.sizeOf33 r20.rng rfl rfl rfl) rfl ?_
 have sz2 := (lT (lT m3.size m4.size) m5.size)
 have r21 := ((((((((((((((r2.ext m3).ext m4).ext m5).ext m6).mod m7 (nC (lG (lL r1.lt lR)) nN)).ext m8).ext md1).ext m9).ext md2).ext m10).ext m11).mod m12 (nC (Ne.symm (lG (lL (lL r2.lt sz2) (fm3.ge m (lQ (show m < nR by omega) ((List.length_set).trans lDR).symm))))) nN)).ext m13).mod m14 (nC (Ne.symm (lG (lL (lL r2.lt sz2) (fm4.ge m (lQ (show m < nL by omega) ((List.length_set).trans lDL).symm))))) nN))
 refine WL.op0 (op_store (i := 0) (cs := [vS bR'1 0 nR cR'1, vS bL'1 0 nL cL'1, vS bS'1 0 nS cS'1, vI k, vF kc0, vF kc1, vF kc2, vF ks0, vF ks1, .bool op, vF lo, vF re, vF sl]) rfl rfl rfl Try.sizeOf33 rfl r21 rfl (lB rfl) rfl) rfl rfl ?_
 rintro _ w17 ⟨r22, m15, z6⟩
 have r23 : Row w17 w1.heap.size 0 [vS bR'1 0 nR cR'1, vS bL'1 0 nL cL'1, vS bS'1 0 nS cS'1, vI k, vF kc0, vF kc1, vF kc2, vF ks0, vF ks1, .bool op, vF lo, vF re, vF sl] := Row.congr r22 rfl
 refine WD (op_assign rfl) rfl ?_
 refine WL.end (NE.code (CE.ret' ?_))
 refine XE.leaveT Try.results35 (res_agg (cs := [vS bR'1 0 nR cR'1, vS bL'1 0 nL cL'1, vS bS'1 0 nS cS'1, vI k, vF kc0, vF kc1, vF kc2, vF ks0, vF ks1, .bool op, vF lo, vF re, vF sl]) rfl Try.isAgg33 Try.sizeOf33 r23.rng rfl (res_tmp rfl res_nil)) ?_
 have r24 := (((r14.ext m13).mod m14 (nC (Ne.symm (fn5 m (show m < nL by omega))) nN)).mod m15 (nC (lG (lL (lL r2.lt sz2) ge1)) nN))
 have r25 := (((((((((((r9.mod m7 (nC (lG (lL (lL r1.lt sz1) ge3)) nN)).ext m8).ext md1).ext m9).ext md2).ext m10).ext m11).mod m12 (nC (Ne.symm (fn3 m (show m < nR by omega))) nN)).ext m13).mod m14 (nC (Ne.symm (fn7 m (show m < nL by omega))) nN)).mod m15 (nC (lG (lL (lL r2.lt sz2) ge3)) nN))
 have sz3 := (lT (lT (lT (lT m1.size m2.size) m3.size) m4.size) m5.size)
 refine ⟨bR'1, cR'1, PR'1, bL'1, cL'1, PL'1, bS'1, cS'1, rfl, h1, h2, (Row.congr r24 ?_), (Row.congr (r18.mod m15 (nC (lG (lL (lL r2.lt sz2) ge2)) nN)) ?_), r25, (lT sz3 ge1), (lT sz3 ge2), (lT sz3 ge3), ne1, ne2, ne3, (OF.congr (OF.low (((fm3.ext m13).mod m14 (fun j hj => (nC (fn4 j m (lQ hj ((List.length_set).trans lDR)) (show m < nL by omega)) nN))).mod m15 (fun j hj => (nC (lG (lL (lL r2.lt sz2) (fm3.ge j (lQ (lQ hj ((List.length_set).trans lDR)) ((List.length_set).trans lDR).symm)))) nN))) sz3) (by first | (rw [eZR]; done) | (rw [eZL]; done) | (rw [eZR, fop_mul_comm .f32 a]; done) | (rw [eZL, fop_mul_comm .f32 a]; done) | (rw [eZR]; rfl) | (rw [eZL]; rfl))), (fun j hj => (fn1 j (show j < nR by omega))), (fun j hj => (fn2 j (show j < nR by omega))), (fun j hj => (fn3 j (show j < nR by omega))), (fun j q hj hq => (fn4 j q (show j < nR by omega) (show q < nL by omega))), (OF.congr (OF.low (fm4.mod m15 (fun j hj => (nC (lG (lL (lL r2.lt sz2) (fm4.ge j (lQ (lQ hj ((List.length_set).trans lDL)) ((List.length_set).trans lDL).symm)))) nN))) sz3) (by first | (rw [eZR]; done) | (rw [eZL]; done) | (rw [eZR, fop_mul_comm .f32 a]; done) | (rw [eZL, fop_mul_comm .f32 a]; done) | (rw [eZR]; rfl) | (rw [eZL]; rfl))), (fun j hj => (fn5 j (show j < nL by omega))), (fun j hj => (fn6 j (show j < nL by omega))), (fun j hj => (fn7 j (show j < nL by omega))), ((((((((((((((((((Mod.refl [] w).nt m1).nt m2).nt m3).nt m4).nt m5).nt m6).then m7 ((aC (.inr lR) aN))).nt m8).nt md1).nt m9).nt md2).nt m10).nt m11).then m12 ((aC (.inr (lT sz3 (fm3.ge m (lQ (show m < nR by omega) ((List.length_set).trans lDR).symm)))) aN))).nt m13).then m14 ((aC (.inr (lT sz3 (fm4.ge m (lQ (show m < nL by omega) ((List.length_set).trans lDL).symm)))) aN))).then m15 ((aC (.inr (lT m1.size lR)) aN)))⟩
 all_goals subst eZR
 all_goals subst eZL
 all_goals first | rfl | (rw [fop_mul_comm .f32 a])

theorem c_iPulseS0 (nR : Nat) (GR : List RD) (nL : Nat) (GL : List RD) (xS : List Nat) (cR : Nat) (bR : Nat) (PR : List BC) (loR : Nat) (cL : Nat) (bL : Nat) (PL : List BC) (loL : Nat) (cS : Nat) (bS : Nat) (k : Int) (kc0 : Nat) (kc1 : Nat) (kc2 : Nat) (ks0 : Nat) (ks1 : Nat) (op : Bool) (lo : Nat) (re : Nat) (sl : Nat) (m : Nat) (pl : Nat) (a : Nat) (aR : Nat) (aL : Nat) (ZR : List RD) (ZL : List RD) (lDR : GR.length = nR) (lDL : GL.length = nL) (lnS : xS.length = 0) (hzR : ∀ i, (GR.getD i RD.d).xs.length ≤ 1048576) (hzL : ∀ i, (GL.getD i RD.d).xs.length ≤ 1048576) (lPR : PR.length = nR) (lPL : PL.length = nL) (mR : nR ≤ 1048576) (mL : nL ≤ 1048576) (h0n : 0 < nR) (h0m : 0 < nL) (hpR : ∀ i, i < nR → 0 < (GR.getD i RD.d).xs.length) (hpL : ∀ i, i < nL → 0 < (GL.getD i RD.d).xs.length) (hs : 1 ≤ nR ∧ nR ≤ 3 ∧ nL = nR ∧ 0 + 1 = nR) (hm : m < nR) (hnn : nL = nR) (hpl : pl < (GR.getD m RD.d).xs.length) (heR : (GR.getD m RD.d).at_ = ((aR : Nat) : Int)) (heL : (GL.getD m RD.d).at_ = ((aL : Nat) : Int)) (hlR : aR < (GR.getD m RD.d).xs.length) (hlL : aL < (GL.getD m RD.d).xs.length) (hll : (GR.getD m RD.d).xs.length = (GL.getD m RD.d).xs.length) (wR : W32 (GR.getD m RD.d).xs) (wL : W32 (GL.getD m RD.d).xs) (hv : vPipe nR nL 0 GR GL xS k kc0 kc1 kc2 ks0 ks1 lo re sl = true) (hf : finF a = true) (la : a < wid .f32) (eZR : ZR = (GR.set m ⟨((GR.getD m RD.d).xs.set ((aR + (GR.getD m RD.d).xs.length - 1 - pl) % (GR.getD m RD.d).xs.length) (keptF (fop .add .f32 ((GR.getD m RD.d).xs.getD ((aR + (GR.getD m RD.d).xs.length - 1 - pl) % (GR.getD m RD.d).xs.length) 0) (fop .mul .f32 1056964608 a)))), (GR.getD m RD.d).at_⟩)) (eZL : ZL = (GL.set m ⟨((GL.getD m RD.d).xs.set ((aL + pl) % (GR.getD m RD.d).xs.length) (keptF (fop .add .f32 ((GL.getD m RD.d).xs.getD ((aL + pl) % (GR.getD m RD.d).xs.length) 0) (fop .mul .f32 1056964608 a)))), (GL.getD m RD.d).at_⟩)) (lZR : ZR.length = nR) (lZL : ZL.length = nL) (w : World) (rR : Rng w bR 0 (olc GR PR)) (rL : Rng w bL 0 (olc GL PL)) (rS : Rng w bS 0 (fl xS))  (FR : OF loR w GR PR) (FL : OF loL w GL PL) : Cl Try.prog 35 #[.agg #[vS bR 0 nR cR, vS bL 0 nL cL, vS bS 0 0 cS, vI k, vF kc0, vF kc1, vF kc2, vF ks0, vF ks1, .bool op, vF lo, vF re, vF sl], vI ((m : Nat) : Int), vI ((pl : Nat) : Int), vF a] w fun v w' => ∃ (bR' : Nat) (cR' : Nat) (PR' : List BC) (bL' : Nat) (cL' : Nat) (PL' : List BC) (bS' : Nat) (cS' : Nat), v = .tuple #[.agg #[vS bR' 0 nR cR', vS bL' 0 nL cL', vS bS' 0 0 cS', vI k, vF kc0, vF kc1, vF kc2, vF ks0, vF ks1, .bool op, vF lo, vF re, vF sl], vI 0] ∧ (PR'.length = nR) ∧ (PL'.length = nL) ∧ Row w' bR' 0 (olc ZR PR') ∧ Row w' bL' 0 (olc ZL PL') ∧ Row w' bS' 0 (fl xS) ∧ w.heap.size ≤ bR' ∧ w.heap.size ≤ bL' ∧ w.heap.size ≤ bS' ∧ bR' ≠ bL' ∧ bR' ≠ bS' ∧ bL' ≠ bS' ∧ OF w.heap.size w' ZR PR' ∧ (∀ i, i < nR → (PR'.getD i BC.d).b ≠ bR') ∧ (∀ i, i < nR → (PR'.getD i BC.d).b ≠ bL') ∧ (∀ i, i < nR → (PR'.getD i BC.d).b ≠ bS') ∧ (∀ i j, i < nR → j < nL → (PR'.getD i BC.d).b ≠ (PL'.getD j BC.d).b) ∧ OF w.heap.size w' ZL PL' ∧ (∀ i, i < nL → (PL'.getD i BC.d).b ≠ bR') ∧ (∀ i, i < nL → (PL'.getD i BC.d).b ≠ bL') ∧ (∀ i, i < nL → (PL'.getD i BC.d).b ≠ bS') ∧ Mod [] w w' := by
 have hzm := hzR m
 have hzl := hzL m
 have hIR : ((aR + (GR.getD m RD.d).xs.length - 1 - pl) % (GR.getD m RD.d).xs.length) < (GR.getD m RD.d).xs.length := Nat.mod_lt _ (by omega)
 have hIL : ((aL + pl) % (GR.getD m RD.d).xs.length) < (GR.getD m RD.d).xs.length := Nat.mod_lt _ (by omega)
 refine Cl.of Try.func35 Try.ntmps35 rfl rfl (ρ := [(0, .agg #[vS bR 0 nR cR, vS bL 0 nL cL, vS bS 0 0 cS, vI k, vF kc0, vF kc1, vF kc2, vF ks0, vF ks1, .bool op, vF lo, vF re, vF sl]), (1, vI ((m : Nat) : Int)), (2, vI ((pl : Nat) : Int)), (3, vF a)]) rfl ?_
 refine CE.seq (CE.region ?_)
 refine WL.op (op_box (cs := [vS bR 0 nR cR, vS bL 0 nL cL, vS bS 0 0 cS, vI k, vF kc0, vF kc1, vF kc2, vF ks0, vF ks1, .bool op, vF lo, vF re, vF sl]) rfl rfl) rfl rfl (ltb rfl) ?_
 rintro _ w1 ⟨rfl, r1, m1, z1⟩
 refine WL.op (op_alloc (cs := [.slice none 0 0, .slice none 0 0, .slice none 0 0, vI 0, vF 0, vF 0, vF 0, vF 0, vF 0, .bool false, vF 0, vF 0, vF 0]) Try.zeroValue33 rfl) rfl rfl (ltb rfl) ?_
 rintro _ w2 ⟨rfl, r2, m2, z2⟩
 refine WD (op_assign rfl) rfl ?_
 refine WL.end (NE.code (CE.seq (CE.seq (CE.region ?_))))
 refine WD (op_loadA (i := 0) (cs := [vS bR 0 nR cR, vS bL 0 nL cL, vS bS 0 0 cS, vI k, vF kc0, vF kc1, vF kc2, vF ks0, vF ks1, .bool op, vF lo, vF re, vF sl]) rfl Try.isAgg33 Try.sizeOf33 (r1.ext m2).rng rfl rfl rfl) rfl ?_
 refine WL.call (oc_call (vs := [.agg #[vS bR 0 nR cR, vS bL 0 nL cL, vS bS 0 0 cS, vI k, vF kc0, vF kc1, vF kc2, vF ks0, vF ks1, .bool op, vF lo, vF re, vF sl]]) (cap := []) rfl rfl rfl Try.call44 (c_ValidPipeS nR GR nL GL 0 xS cR bR PR loR cL bL PL loL cS bS k kc0 kc1 kc2 ks0 ks1 op lo re sl lDR lDL lnS (by first | assumption | exact rd_small (by assumption) (by assumption) | exact markD_small (by first | assumption | exact rd_small (by assumption) (by assumption)) _) (by first | assumption | exact rd_small (by assumption) (by assumption) | exact markD_small (by first | assumption | exact rd_small (by assumption) (by assumption)) _) lPR lPL (by first | assumption | omega) (by first | assumption | omega) (by first | assumption | omega) (by omega) w2 ((rR.ext m1).ext m2) ((rL.ext m1).ext m2) ((rS.ext m1).ext m2) ((FR.ext m1).ext m2) ((FL.ext m1).ext m2))) rfl rfl (ltb rfl) ?_
 rintro _ w3 ⟨rfl, m3⟩
 refine WD (op_not rfl) rfl ?_
 refine WL.end (NE.code ?_)
 refine CE.cond_f rfl (bnot_t hv) ?_
 refine CE.skip' (NE.code (CE.seq (CE.region ?_)))
 refine WD (op_loadA (i := 0) (cs := [vS bR 0 nR cR, vS bL 0 nL cL, vS bS 0 0 cS, vI k, vF kc0, vF kc1, vF kc2, vF ks0, vF ks1, .bool op, vF lo, vF re, vF sl]) rfl Try.isAgg33 Try.sizeOf33 ((r1.ext m2).ext m3).rng rfl rfl rfl) rfl ?_
 iterate 2 refine WD (op_move rfl) rfl ?_
 have r3 := (((rR.ext m1).ext m2).ext m3)
 have r4 := (((rL.ext m1).ext m2).ext m3)
 have r5 := (((rS.ext m1).ext m2).ext m3)
 refine WL.call (oc_call (vs := [.agg #[vS bR 0 nR cR, vS bL 0 nL cL, vS bS 0 0 cS, vI k, vF kc0, vF kc1, vF kc2, vF ks0, vF ks1, .bool op, vF lo, vF re, vF sl], vI ((m : Nat) : Int), vI ((pl : Nat) : Int)]) (cap := []) rfl rfl rfl Try.call91 (c_placesS nR GR nL GL 0 xS cR bR PR loR cL bL PL loL cS bS k kc0 kc1 kc2 ks0 ks1 op lo re sl m pl aR aL lDR lDL lnS (by first | assumption | exact rd_small (by assumption) (by assumption) | exact markD_small (by first | assumption | exact rd_small (by assumption) (by assumption)) _) (by first | assumption | exact rd_small (by assumption) (by assumption) | exact markD_small (by first | assumption | exact rd_small (by assumption) (by assumption)) _) lPR lPL (by first | assumption | omega) (by first | assumption | omega) (by first | assumption | omega) (by first | assumption | omega) (by first | assumption | omega) (by first | assumption | omega) (by assumption) (by assumption) (by first | assumption | omega) (by first | assumption | omega) w3 r3 r4 r5 (((FR.ext m1).ext m2).ext m3) (((FL.ext m1).ext m2).ext m3))) rfl rfl (ltb rfl) ?_
 rintro _ w4 ⟨rfl, m4⟩
 refine WD (op_move rfl) rfl ?_
 iterate 3 refine WD (op_extract rfl rfl) rfl ?_
 iterate 3 refine WD (op_assign rfl) rfl ?_
 refine WL.end (NE.code (CE.seq (CE.seq (CE.region ?_))))
 refine WD (op_move rfl) rfl ?_
 refine WD (op_not rfl) rfl ?_
 refine WD (op_move rfl) rfl ?_
 refine WL.yes rfl rfl rfl (ltb rfl) rfl rfl ?_
 refine WD (op_move rfl) rfl ?_
 refine WL.yes rfl rfl rfl (ltb rfl) rfl rfl ?_
 refine WL.call (oc_call (vs := [vF a]) (cap := []) rfl rfl rfl Try.call92 (c_isFinite a a rfl w4)) rfl rfl (ltb rfl) ?_
 rintro _ w5 ⟨rfl, m5⟩
 refine WL.yes rfl rfl rfl (ltb rfl) rfl rfl ?_
 refine WD (op_not rfl) rfl ?_
 refine WD (op_pick_f rfl rfl rfl) rfl ?_
 refine WL.end (NE.code ?_)
 refine CE.cond_f rfl (bnot_t hf) ?_
 refine CE.skip' (NE.code (CE.seq (CE.region ?_)))
 have r6 := ((((r1.ext m2).ext m3).ext m4).ext m5)
 refine WD (op_loadA (i := 0) (cs := [vS bR 0 nR cR, vS bL 0 nL cL, vS bS 0 0 cS, vI k, vF kc0, vF kc1, vF kc2, vF ks0, vF ks1, .bool op, vF lo, vF re, vF sl]) rfl Try.isAgg33 Try.sizeOf33 r6.rng rfl rfl rfl) rfl ?_
 refine WL.call (oc_call (vs := [.agg #[vS bR 0 nR cR, vS bL 0 nL cL, vS bS 0 0 cS, vI k, vF kc0, vF kc1, vF kc2, vF ks0, vF ks1, .bool op, vF lo, vF re, vF sl]]) (cap := []) rfl rfl rfl Try.call63 (c_clonePipeS0 nR GR nL GL xS cR bR PR loR cL bL PL loL cS bS k kc0 kc1 kc2 ks0 ks1 op lo re sl lDR lDL lnS (by first | assumption | exact rd_small (by assumption) (by assumption) | exact markD_small (by first | assumption | exact rd_small (by assumption) (by assumption)) _) (by first | assumption | exact rd_small (by assumption) (by assumption) | exact markD_small (by first | assumption | exact rd_small (by assumption) (by assumption)) _) lPR lPL (by first | assumption | omega) (by first | assumption | omega) (by omega) (by omega) (by first | assumption | exact vRings_pos (by assumption)) (by first | assumption | exact vRings_pos (by assumption)) w5 ((r3.ext m4).ext m5) ((r4.ext m4).ext m5) ((r5.ext m4).ext m5) (((((FR.ext m1).ext m2).ext m3).ext m4).ext m5) (((((FL.ext m1).ext m2).ext m3).ext m4).ext m5))) rfl rfl (ltb rfl) ?_
 rintro _ w6 ⟨bR'1, cR'1, PR'1, bL'1, cL'1, PL'1, bS'1, cS'1, rfl, h1, h2, r7, r8, r9, ge1, ge2, ge3, ne1, ne2, ne3, fm1, fn1, fn2, fn3, fn4, fm2, fn5, fn6, fn7, m6⟩
 refine WL.op0 (op_store (i := 0) (cs := [vS bR'1 0 nR cR'1, vS bL'1 0 nL cL'1, vS bS'1 0 0 cS'1, vI k, vF kc0, vF kc1, vF kc2, vF ks0, vF ks1, .bool op, vF lo, vF re, vF sl]) rfl rfl rfl Try.sizeOf33 rfl (r6.ext m6) rfl (lB rfl) rfl) rfl rfl ?_
 rintro _ w7 ⟨r10, m7, z3⟩
 have r11 : Row w7 w.heap.size 0 [vS bR'1 0 nR cR'1, vS bL'1 0 nL cL'1, vS bS'1 0 0 cS'1, vI k, vF kc0, vF kc1, vF kc2, vF ks0, vF ks1, .bool op, vF lo, vF re, vF sl] := Row.congr r10 rfl
 refine WL.end (NE.code (CE.seq (CE.region ?_)))
 refine WD (op_move rfl) rfl ?_
 refine WL.op (op_farith (e := (fop .mul .f32 a 1056964608)) (.inr (.inr (.inl rfl))) rfl rfl rfl rfl rfl) rfl rfl (ltb rfl) ?_
 rintro _ w8 ⟨⟨f1, rfl, hf1, lf1⟩, m8⟩
 refine WD (op_assign rfl) rfl ?_
 refine WL.end (NE.code (CE.seq ?_))
 refine CE.draw (fun _ => none) [0, 1, 2, 3, 4, 5, 6, 7, 8, 9, 10, 11, 12] [13] [] (by kernel_rfl) (by kernel_rfl) ?_
 have md1 : Mod [] w8 w8.drew := (Mod.refl _ _).drew
 generalize w8.drew = w9 at md1 ⊢
 refine DD 0 rfl (by kernel_rfl) rfl (fun wD mD => op_fieldAddr (off' := 0) rfl Try.runUnderlying33 rfl rfl Try.sizeOf25 rfl) ?_
 refine DD 1 rfl (by kernel_rfl) rfl (fun wD mD => op_load1 (i := 0) rfl Try.isAgg25 (((r11.ext m8).ext md1).ext mD).rng rfl rfl) ?_
 refine DD 2 rfl (by kernel_rfl) rfl (fun wD mD => op_move rfl) ?_
 refine DD 3 rfl (by kernel_rfl) rfl (fun wD mD => op_indexSl (off' := 0 + m * 2) rfl rfl rfl Try.runUnderlying25 Try.sizeOf60 (by omega) (by omega) (by omega)) ?_
 refine DD 4 rfl (by kernel_rfl) rfl (fun wD mD => op_fieldAddr (off' := 0 + m * 2) rfl Try.runUnderlying60 rfl rfl Try.sizeOf26 rfl) ?_
 refine DD 5 rfl (by kernel_rfl) rfl (fun wD mD => op_load1 (i := m * 2) rfl Try.isAgg26 ((((r7.mod m7 (nC (lG (lL (lL r1.lt (lT (lT (lT m2.size m3.size) m4.size) m5.size)) ge1)) nN)).ext m8).ext md1).ext mD).rng rfl (olc_get0 lDR h1 (show m < nR by omega))) ?_
 refine DD 6 rfl (by kernel_rfl) rfl (fun wD mD => op_fieldAddr (off' := 1) rfl Try.runUnderlying33 rfl rfl Try.sizeOf25 rfl) ?_
 refine DD 7 rfl (by kernel_rfl) rfl (fun wD mD => op_load1 (i := 1) rfl Try.isAgg25 (((r11.ext m8).ext md1).ext mD).rng rfl rfl) ?_
 refine DD 8 rfl (by kernel_rfl) rfl (fun wD mD => op_move rfl) ?_
 refine DD 9 rfl (by kernel_rfl) rfl (fun wD mD => op_indexSl (off' := 0 + m * 2) rfl rfl rfl Try.runUnderlying25 Try.sizeOf60 (by omega) (by omega) (by omega)) ?_
 refine DD 10 rfl (by kernel_rfl) rfl (fun wD mD => op_fieldAddr (off' := 0 + m * 2) rfl Try.runUnderlying60 rfl rfl Try.sizeOf26 rfl) ?_
 refine DD 11 rfl (by kernel_rfl) rfl (fun wD mD => op_load1 (i := m * 2) rfl Try.isAgg26 ((((r8.mod m7 (nC (lG (lL (lL r1.lt (lT (lT (lT m2.size m3.size) m4.size) m5.size)) ge2)) nN)).ext m8).ext md1).ext mD).rng rfl (olc_get0 lDL h2 (show m < nL by omega))) ?_
 refine DD 12 rfl (by kernel_rfl) rfl (fun wD mD => op_assign rfl) ?_
 refine DR.done rfl ?_
 intro w10 m9
 refine WO.det (op_assign rfl) rfl (.free rfl) rfl rfl ?_
 refine WO.end (NE.code (CE.seq ?_))
 refine CE.draw (fun | 10 => some (fun _ wA uA wB => uA = vF (keptF (fop .add .f32 (((GR.getD m RD.d).xs).getD ((aR + (GR.getD m RD.d).xs.length - 1 - pl) % (GR.getD m RD.d).xs.length) 0) (fop .mul .f32 a 1056964608))) ∧ (keptF (fop .add .f32 (((GR.getD m RD.d).xs).getD ((aR + (GR.getD m RD.d).xs.length - 1 - pl) % (GR.getD m RD.d).xs.length) 0) (fop .mul .f32 a 1056964608)) < wid .f32) ∧ Mod [] wA wB) | 17 => some (fun _ wA uA wB => uA = vF (keptF (fop .add .f32 (((GL.getD m RD.d).xs).getD ((aL + pl) % (GR.getD m RD.d).xs.length) 0) (fop .mul .f32 a 1056964608))) ∧ (keptF (fop .add .f32 (((GL.getD m RD.d).xs).getD ((aL + pl) % (GR.getD m RD.d).xs.length) 0) (fop .mul .f32 a 1056964608)) < wid .f32) ∧ Mod [] wA wB) | _ => none) [0, 1, 2, 3, 4, 5, 6, 7, 8, 9, 10, 11, 12, 13, 14, 15, 16, 17, 18, 19] [20, 21] [(PR'1.getD m BC.d).b] (by kernel_rfl) (by kernel_rfl) ?_
 have md2 : Mod [] w10 w10.drew := (Mod.refl _ _).drew
 generalize w10.drew = w11 at md2 ⊢
 refine DD 0 rfl (by kernel_rfl) rfl (fun wD mD => op_move rfl) ?_
 refine DD 1 rfl (by kernel_rfl) rfl (fun wD mD => op_move rfl) ?_
 refine DD 2 rfl (by kernel_rfl) rfl (fun wD mD => op_move rfl) ?_
 refine DD 3 rfl (by kernel_rfl) rfl (fun wD mD => op_move rfl) ?_
 refine DD 4 rfl (by kernel_rfl) rfl (fun wD mD => op_move rfl) ?_
 refine DD 5 rfl (by kernel_rfl) rfl (fun wD mD => op_move rfl) ?_
 refine DD 6 rfl (by kernel_rfl) rfl (fun wD mD => op_indexSl (off' := 0 + ((aR + (GR.getD m RD.d).xs.length - 1 - pl) % (GR.getD m RD.d).xs.length)) rfl rfl rfl Try.runUnderlying26 Try.sizeOf27 (by omega) (by omega) (by omega)) ?_
 refine DD 8 rfl (by kernel_rfl) rfl (fun wD mD => op_move rfl) ?_
 refine DD 11 rfl (by kernel_rfl) rfl (fun wD mD => op_move rfl) ?_
 refine DD 12 rfl (by kernel_rfl) rfl (fun wD mD => op_move rfl) ?_
 refine DD 13 rfl (by kernel_rfl) rfl (fun wD mD => op_indexSl (off' := 0 + ((aL + pl) % (GR.getD m RD.d).xs.length)) rfl rfl rfl Try.runUnderlying26 Try.sizeOf27 (by omega) (by omega) (by omega)) ?_
 refine DD 14 rfl (by kernel_rfl) rfl (fun wD mD => op_load1 (i := ((aL + pl) % (GR.getD m RD.d).xs.length)) rfl Try.isAgg27 (((((((OF.row fm2 m (lQ (show m < nL by omega) lDL.symm)).mod m7 (nC (lG (lL (lL r1.lt (lT (lT (lT m2.size m3.size) m4.size) m5.size)) (fm2.ge m (lQ (show m < nL by omega) lDL.symm)))) nN)).ext m8).ext md1).ext m9).ext md2).mod mD (nC (Ne.symm (fn4 m m (show m < nR by omega) (show m < nL by omega))) nN)).rng rfl (fl_get (by have eL : List.length ((GL.getD m RD.d).xs) = (GL.getD m RD.d).xs.length := rfl; omega))) ?_
 refine DD 15 rfl (by kernel_rfl) rfl (fun wD mD => op_move rfl) ?_
 refine DR.op (i := 16) (FOut .f32 (fop .add .f32 (((GL.getD m RD.d).xs).getD ((aL + pl) % (GR.getD m RD.d).xs.length) 0) (fop .mul .f32 a 1056964608))) rfl rfl (by kernel_rfl) (.free rfl) rfl (ltb rfl) (fun wD mD => op_farith (e := (fop .add .f32 (((GL.getD m RD.d).xs).getD ((aL + pl) % (GR.getD m RD.d).xs.length) 0) (fop .mul .f32 a 1056964608))) (.inl rfl) rfl rfl rfl hf1 rfl) ?_
 rintro _ ⟨f2, rfl, hf2, lf2⟩
 refine DR.cut [7, 9, 10, 17, 18] 5 1 rfl (by kernel_rfl) ?_
 refine DD 7 rfl (by kernel_rfl) rfl (fun wD mD => op_load1 (i := ((aR + (GR.getD m RD.d).xs.length - 1 - pl) % (GR.getD m RD.d).xs.length)) rfl Try.isAgg27 (((((((OF.row fm1 m (lQ (show m < nR by omega) lDR.symm)).mod m7 (nC (lG (lL (lL r1.lt (lT (lT (lT m2.size m3.size) m4.size) m5.size)) (fm1.ge m (lQ (show m < nR by omega) lDR.symm)))) nN)).ext m8).ext md1).ext m9).ext md2).ext mD).rng rfl (fl_get (by have eL : List.length ((GR.getD m RD.d).xs) = (GR.getD m RD.d).xs.length := rfl; omega))) ?_
 refine DR.op (i := 9) (FOut .f32 (fop .add .f32 (((GR.getD m RD.d).xs).getD ((aR + (GR.getD m RD.d).xs.length - 1 - pl) % (GR.getD m RD.d).xs.length) 0) (fop .mul .f32 a 1056964608))) rfl rfl (by kernel_rfl) (.free rfl) rfl (ltb rfl) (fun wD mD => op_farith (e := (fop .add .f32 (((GR.getD m RD.d).xs).getD ((aR + (GR.getD m RD.d).xs.length - 1 - pl) % (GR.getD m RD.d).xs.length) 0) (fop .mul .f32 a 1056964608))) (.inl rfl) rfl rfl rfl hf1 rfl) ?_
 rintro _ ⟨f3, rfl, hf3, lf3⟩
 refine DR.call (i := 10) (fun uA => uA = vF (keptF (fop .add .f32 (((GR.getD m RD.d).xs).getD ((aR + (GR.getD m RD.d).xs.length - 1 - pl) % (GR.getD m RD.d).xs.length) 0) (fop .mul .f32 a 1056964608))) ∧ (keptF (fop .add .f32 (((GR.getD m RD.d).xs).getD ((aR + (GR.getD m RD.d).xs.length - 1 - pl) % (GR.getD m RD.d).xs.length) 0) (fop .mul .f32 a 1056964608)) < wid .f32)) rfl rfl (by kernel_rfl) (.free rfl) rfl (ltb rfl) ⟨_, rfl, keptF_wid hf3 lf3⟩ (vs := [.func (.func 93) #[] #[], vF f3]) rfl (fun wD mD => oc_call (vs := [vF f3]) (cap := []) rfl rfl rfl Try.call93 (c_kept f3 (fop .add .f32 (((GR.getD m RD.d).xs).getD ((aR + (GR.getD m RD.d).xs.length - 1 - pl) % (GR.getD m RD.d).xs.length) 0) (fop .mul .f32 a 1056964608)) hf3 lf3 wD)) ?_ ?_
 ·rintro w1 _ w2 m1 ⟨rfl, p0, m2⟩; exact ⟨⟨rfl, p0⟩, m2⟩
 rintro _ ⟨rfl, h3⟩
 refine DR.call (i := 17) (fun uA => uA = vF (keptF (fop .add .f32 (((GL.getD m RD.d).xs).getD ((aL + pl) % (GR.getD m RD.d).xs.length) 0) (fop .mul .f32 a 1056964608))) ∧ (keptF (fop .add .f32 (((GL.getD m RD.d).xs).getD ((aL + pl) % (GR.getD m RD.d).xs.length) 0) (fop .mul .f32 a 1056964608)) < wid .f32)) rfl rfl (by kernel_rfl) (.free rfl) rfl (ltb rfl) ⟨_, rfl, keptF_wid hf2 lf2⟩ (vs := [.func (.func 93) #[] #[], vF f2]) rfl (fun wD mD => oc_call (vs := [vF f2]) (cap := []) rfl rfl rfl Try.call93 (c_kept f2 (fop .add .f32 (((GL.getD m RD.d).xs).getD ((aL + pl) % (GR.getD m RD.d).xs.length) 0) (fop .mul .f32 a 1056964608)) hf2 lf2 wD)) ?_ ?_
 ·rintro w1 _ w2 m1 ⟨rfl, p0, m2⟩; exact ⟨⟨rfl, p0⟩, m2⟩
 rintro _ ⟨rfl, h4⟩
 refine DD 18 rfl (by kernel_rfl) rfl (fun wD mD => op_indexSl (off' := 0 + ((aR + (GR.getD m RD.d).xs.length - 1 - pl) % (GR.getD m RD.d).xs.length)) rfl rfl rfl Try.runUnderlying26 Try.sizeOf27 (by omega) (by omega) (by omega)) ?_
 refine DR.join (by kernel_rfl) ?_
 intro w12 m10 _
 refine ⟨((Mod.refl [(PR'1.getD m BC.d).b] w11).nt m10), ?_⟩
 refine DR.st1 (i := 19) rfl rfl (by kernel_rfl) (.free rfl) rfl ?_
 intro w13 m11
 refine Op1.mono (op_store (i := ((aR + (GR.getD m RD.d).xs.length - 1 - pl) % (GR.getD m RD.d).xs.length)) (cs := [vF (keptF (fop .add .f32 (((GR.getD m RD.d).xs).getD ((aR + (GR.getD m RD.d).xs.length - 1 - pl) % (GR.getD m RD.d).xs.length) 0) (fop .mul .f32 a 1056964608)))]) rfl rfl rfl Try.sizeOf27 rfl ((((((((OF.row fm1 m (lQ (show m < nR by omega) lDR.symm)).mod m7 (nC (lG (lL (lL r1.lt (lT (lT (lT m2.size m3.size) m4.size) m5.size)) (fm1.ge m (lQ (show m < nR by omega) lDR.symm)))) nN)).ext m8).ext md1).ext m9).ext md2).ext m10).ext m11) rfl (by rw [fl_length]; have eL : List.length ((GR.getD m RD.d).xs) = (GR.getD m RD.d).xs.length := rfl; omega) rfl) ?_
 rintro _ w14 ⟨r12, m12, z4⟩
 have r13 : Row w14 ((PR'1.getD m BC.d).b) 0 (fl (((GR.getD m RD.d).xs).set ((aR + (GR.getD m RD.d).xs.length - 1 - pl) % (GR.getD m RD.d).xs.length) (keptF (fop .add .f32 (((GR.getD m RD.d).xs).getD ((aR + (GR.getD m RD.d).xs.length - 1 - pl) % (GR.getD m RD.d).xs.length) 0) (fop .mul .f32 a 1056964608))))) := Row.congr r12 (fl_splice (by have eL : List.length ((GR.getD m RD.d).xs) = (GR.getD m RD.d).xs.length := rfl; omega))
 have fm3 : OF w5.heap.size w14 (GR.set m ⟨(((GR.getD m RD.d).xs).set ((aR + (GR.getD m RD.d).xs.length - 1 - pl) % (GR.getD m RD.d).xs.length) (keptF (fop .add .f32 (((GR.getD m RD.d).xs).getD ((aR + (GR.getD m RD.d).xs.length - 1 - pl) % (GR.getD m RD.d).xs.length) 0) (fop .mul .f32 a 1056964608)))), (GR.getD m RD.d).at_⟩) PR'1 := OF.upd (((((((fm1.mod m7 (fun j hj => (nC (lG (lL (lL r1.lt (lT (lT (lT m2.size m3.size) m4.size) m5.size)) (fm1.ge j (lQ (lQ hj lDR) lDR.symm)))) nN))).ext m8).ext md1).ext m9).ext md2).ext m10).ext m11) (lQ (show m < nR by omega) lDR.symm) m12 (fun j hj hji => (nC (OF.ne fm1 j m hj (lQ (show m < nR by omega) lDR.symm) hji) nN)) r13
 have sz1 := (lT (lT (lT m2.size m3.size) m4.size) m5.size)
 have r15 := ((((((((r7.mod m7 (nC (lG (lL (lL r1.lt sz1) ge1)) nN)).ext m8).ext md1).ext m9).ext md2).ext m10).ext m11).mod m12 (nC (Ne.symm (fn1 m (show m < nR by omega))) nN))
 have r14 : Row w14 bR'1 0 (olc (GR.set m ⟨(((GR.getD m RD.d).xs).set ((aR + (GR.getD m RD.d).xs.length - 1 - pl) % (GR.getD m RD.d).xs.length) (keptF (fop .add .f32 (((GR.getD m RD.d).xs).getD ((aR + (GR.getD m RD.d).xs.length - 1 - pl) % (GR.getD m RD.d).xs.length) 0) (fop .mul .f32 a 1056964608)))), (GR.getD m RD.d).at_⟩) PR'1) := Row.congr r15 (olc_same lDR h1 (show m < nR by omega) ((List.length_set).trans rfl))
 refine ⟨((((Mod.refl [(PR'1.getD m BC.d).b] w11).nt m10).nt m11).then m12 ((aC (.inl (by simp)) aN))), ?_⟩
 refine DR.done rfl ?_
 intro w15 m13
 refine WO.det (op_indexSl (off' := 0 + ((aL + pl) % (GR.getD m RD.d).xs.length)) rfl rfl rfl Try.runUnderlying26 Try.sizeOf27 (by omega) (by omega) (by omega)) rfl (.free rfl) rfl rfl ?_
 refine WO.op0 rfl (.free rfl) rfl (op_store (i := ((aL + pl) % (GR.getD m RD.d).xs.length)) (cs := [vF (keptF (fop .add .f32 (((GL.getD m RD.d).xs).getD ((aL + pl) % (GR.getD m RD.d).xs.length) 0) (fop .mul .f32 a 1056964608)))]) rfl rfl rfl Try.sizeOf27 rfl ((((((((((OF.row fm2 m (lQ (show m < nL by omega) lDL.symm)).mod m7 (nC (lG (lL (lL r1.lt sz1) (fm2.ge m (lQ (show m < nL by omega) lDL.symm)))) nN)).ext m8).ext md1).ext m9).ext md2).ext m10).ext m11).mod m12 (nC (Ne.symm (fn4 m m (show m < nR by omega) (show m < nL by omega))) nN)).ext m13) rfl (by rw [fl_length]; have eL : List.length ((GL.getD m RD.d).xs) = (GL.getD m RD.d).xs.length := rfl; omega) rfl) ?_
 rintro _ w16 ⟨r16, m14, z5⟩
 have r17 : Row w16 ((PL'1.getD m BC.d).b) 0 (fl (((GL.getD m RD.d).xs).set ((aL + pl) % (GR.getD m RD.d).xs.length) (keptF (fop .add .f32 (((GL.getD m RD.d).xs).getD ((aL + pl) % (GR.getD m RD.d).xs.length) 0) (fop .mul .f32 a 1056964608))))) := Row.congr r16 (fl_splice (by have eL : List.length ((GL.getD m RD.d).xs) = (GL.getD m RD.d).xs.length := rfl; omega))
 have fm4 : OF w5.heap.size w16 (GL.set m ⟨(((GL.getD m RD.d).xs).set ((aL + pl) % (GR.getD m RD.d).xs.length) (keptF (fop .add .f32 (((GL.getD m RD.d).xs).getD ((aL + pl) % (GR.getD m RD.d).xs.length) 0) (fop .mul .f32 a 1056964608)))), (GL.getD m RD.d).at_⟩) PL'1 := OF.upd (((((((((fm2.mod m7 (fun j hj => (nC (lG (lL (lL r1.lt sz1) (fm2.ge j (lQ (lQ hj lDL) lDL.symm)))) nN))).ext m8).ext md1).ext m9).ext md2).ext m10).ext m11).mod m12 (fun j hj => (nC (Ne.symm (fn4 m j (show m < nR by omega) (lQ hj lDL))) nN))).ext m13) (lQ (show m < nL by omega) lDL.symm) m14 (fun j hj hji => (nC (OF.ne fm2 j m hj (lQ (show m < nL by omega) lDL.symm) hji) nN)) r17
 have r19 := ((((((((((r8.mod m7 (nC (lG (lL (lL r1.lt sz1) ge2)) nN)).ext m8).ext md1).ext m9).ext md2).ext m10).ext m11).mod m12 (nC (Ne.symm (fn2 m (show m < nR by omega))) nN)).ext m13).mod m14 (nC (Ne.symm (fn6 m (show m < nL by omega))) nN))
 have r18 : Row w16 bL'1 0 (olc (GL.set m ⟨(((GL.getD m RD.d).xs).set ((aL + pl) % (GR.getD m RD.d).xs.length) (keptF (fop .add .f32 (((GL.getD m RD.d).xs).getD ((aL + pl) % (GR.getD m RD.d).xs.length) 0) (fop .mul .f32 a 1056964608)))), (GL.getD m RD.d).at_⟩) PL'1) := Row.congr r19 (olc_same lDL h2 (show m < nL by omega) ((List.length_set).trans rfl))
 refine WO.end (NE.code (CE.seq (CE.region ?_)))
 have r20 := (((((((((r11.ext m8).ext md1).ext m9).ext md2).ext m10).ext m11).mod m12 (nC (Ne.symm (lG (lL (lL r1.lt sz1) (fm3.ge m (lQ (show m < nR by omega) ((List.length_set).trans lDR).symm))))) nN)).ext m13).mod m14 (nC (Ne.symm (lG (lL (lL r1.lt sz1) (fm4.ge m (lQ (show m < nL by omega) ((List.length_set).trans lDL).symm))))) nN))
 refine WD (op_loadA (i := 0) (cs := [vS bR'1 0 nR cR'1, vS bL'1 0 nL cL'1, vS bS'1 0 0 cS'1, vI k, vF kc0, vF kc1, vF kc2, vF ks0, vF ks1, .bool op, vF lo, vF re, vF sl]) rfl Try.isAgg33 Try.sizeOf33 r20.rng rfl rfl rfl) rfl ?_
 have sz2 := (lT (lT m3.size m4.size) m5.size)
 have r21 := ((((((((((((((r2.ext m3).ext m4).ext m5).ext m6).mod m7 (nC (lG (lL r1.lt lR)) nN)).ext m8).ext md1).ext m9).ext md2).ext m10).ext m11).mod m12 (nC (Ne.symm (lG (lL (lL r2.lt sz2) (fm3.ge m (lQ (show m < nR by omega) ((List.length_set).trans lDR).symm))))) nN)).ext m13).mod m14 (nC (Ne.symm (lG (lL (lL r2.lt sz2) (fm4.ge m (lQ (show m < nL by omega) ((List.length_set).trans lDL).symm))))) nN))
 refine WL.op0 (op_store (i := 0) (cs := [vS bR'1 0 nR cR'1, vS bL'1 0 nL cL'1, vS bS'1 0 0 cS'1, vI k, vF kc0, vF kc1, vF kc2, vF ks0, vF ks1, .bool op, vF lo, vF re, vF sl]) rfl rfl rfl Try.sizeOf33 rfl r21 rfl (lB rfl) rfl) rfl rfl ?_
 rintro _ w17 ⟨r22, m15, z6⟩
 have r23 : Row w17 w1.heap.size 0 [vS bR'1 0 nR cR'1, vS bL'1 0 nL cL'1, vS bS'1 0 0 cS'1, vI k, vF kc0, vF kc1, vF kc2, vF ks0, vF ks1, .bool op, vF lo, vF re, vF sl] := Row.congr r22 rfl
 refine WD (op_assign rfl) rfl ?_
 refine WL.end (NE.code (CE.ret' ?_))
 refine XE.leaveT Try.results35 (res_agg (cs := [vS bR'1 0 nR cR'1, vS bL'1 0 nL cL'1, vS bS'1 0 0 cS'1, vI k, vF kc0, vF kc1, vF kc2, vF ks0, vF ks1, .bool op, vF lo, vF re, vF sl]) rfl Try.isAgg33 Try.sizeOf33 r23.rng rfl (res_tmp rfl res_nil)) ?_
 have r24 := (((r14.ext m13).mod m14 (nC (Ne.symm (fn5 m (show m < nL by omega))) nN)).mod m15 (nC (lG (lL (lL r2.lt sz2) ge1)) nN))
 have r25 := (((((((((((r9.mod m7 (nC (lG (lL (lL r1.lt sz1) ge3)) nN)).ext m8).ext md1).ext m9).ext md2).ext m10).ext m11).mod m12 (nC (Ne.symm (fn3 m (show m < nR by omega))) nN)).ext m13).mod m14 (nC (Ne.symm (fn7 m (show m < nL by omega))) nN)).mod m15 (nC (lG (lL (lL r2.lt sz2) ge3)) nN))
 have sz3 := (lT (lT (lT (lT m1.size m2.size) m3.size) m4.size) m5.size)
 refine ⟨bR'1, cR'1, PR'1, bL'1, cL'1, PL'1, bS'1, cS'1, rfl, h1, h2, (Row.congr r24 ?_), (Row.congr (r18.mod m15 (nC (lG (lL (lL r2.lt sz2) ge2)) nN)) ?_), r25, (lT sz3 ge1), (lT sz3 ge2), (lT sz3 ge3), ne1, ne2, ne3, (OF.congr (OF.low (((fm3.ext m13).mod m14 (fun j hj => (nC (fn4 j m (lQ hj ((List.length_set).trans lDR)) (show m < nL by omega)) nN))).mod m15 (fun j hj => (nC (lG (lL (lL r2.lt sz2) (fm3.ge j (lQ (lQ hj ((List.length_set).trans lDR)) ((List.length_set).trans lDR).symm)))) nN))) sz3) (by first | (rw [eZR]; done) | (rw [eZL]; done) | (rw [eZR, fop_mul_comm .f32 a]; done) | (rw [eZL, fop_mul_comm .f32 a]; done) | (rw [eZR]; rfl) | (rw [eZL]; rfl))), (fun j hj => (fn1 j (show j < nR by omega))), (fun j hj => (fn2 j (show j < nR by omega))), (fun j hj => (fn3 j (show j < nR by omega))), (fun j q hj hq => (fn4 j q (show j < nR by omega) (show q < nL by omega))), (OF.congr (OF.low (fm4.mod m15 (fun j hj => (nC (lG (lL (lL r2.lt sz2) (fm4.ge j (lQ (lQ hj ((List.length_set).trans lDL)) ((List.length_set).trans lDL).symm)))) nN))) sz3) (by first | (rw [eZR]; done) | (rw [eZL]; done) | (rw [eZR, fop_mul_comm .f32 a]; done) | (rw [eZL, fop_mul_comm .f32 a]; done) | (rw [eZR]; rfl) | (rw [eZL]; rfl))), (fun j hj => (fn5 j (show j < nL by omega))), (fun j hj => (fn6 j (show j < nL by omega))), (fun j hj => (fn7 j (show j < nL by omega))), ((((((((((((((((((Mod.refl [] w).nt m1).nt m2).nt m3).nt m4).nt m5).nt m6).then m7 ((aC (.inr lR) aN))).nt m8).nt md1).nt m9).nt md2).nt m10).nt m11).then m12 ((aC (.inr (lT sz3 (fm3.ge m (lQ (show m < nR by omega) ((List.length_set).trans lDR).symm)))) aN))).nt m13).then m14 ((aC (.inr (lT sz3 (fm4.ge m (lQ (show m < nL by omega) ((List.length_set).trans lDL).symm)))) aN))).then m15 ((aC (.inr (lT m1.size lR)) aN)))⟩
 all_goals subst eZR
 all_goals subst eZL
 all_goals first | rfl | (rw [fop_mul_comm .f32 a])

end Go.Proofs.Ytnahhdnkbbdceaa
