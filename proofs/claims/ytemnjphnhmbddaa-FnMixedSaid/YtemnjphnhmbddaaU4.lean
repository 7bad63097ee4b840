/- A step of a room. -/
import Derived.Test.YtemnjphnhmbddaaU3
import Derived.Test.YtemnjphnhmbddaaE38
set_option linter.unusedVariables false
set_option linter.unusedSimpArgs false
namespace Go.Proofs.Ytemnjphnhmbddaa

theorem dry_cn {y a o0 o1 o2 o3 k : Nat} (h : cn .f32 y = cn .f32 (fop .add .f32 (fop .mul .f32 1065353216 a) (fop .mul .f32 0 (fop .add .f32 (fop .add .f32 o0 o1) (fop .add .f32 o2 o3))))) (ha : PlQ a) (h0 : Bw o0 k) (h1 : Bw o1 k) (h2 : Bw o2 k) (h3 : Bw o3 k) (hk : k ≤ 90) : y = a := by
  rw [dry_out ha ((h0.add h1 (by omega)).add (h2.add h3 (by omega)) (by omega)) (by omega)] at h
  exact Bw.of_cn h ha.bw.2 ha.bw.1 (by omega)

set_option maxRecDepth 100000 in
set_option maxHeartbeats 2000000 in
theorem c_rstep (nE : Nat) (cE : Nat) (bE : Nat) (xE : List Nat) (iE : Nat) (nC0 : Nat) (cC0 : Nat) (bC0 : Nat) (xC0 : List Nat) (iC0 : Nat) (nC1 : Nat) (cC1 : Nat) (bC1 : Nat) (xC1 : List Nat) (iC1 : Nat) (nL0 : Nat) (cL0 : Nat) (bL0 : Nat) (xL0 : List Nat) (iL0 : Nat) (nL1 : Nat) (cL1 : Nat) (bL1 : Nat) (xL1 : List Nat) (iL1 : Nat) (nL2 : Nat) (cL2 : Nat) (bL2 : Nat) (xL2 : List Nat) (iL2 : Nat) (nL3 : Nat) (cL3 : Nat) (bL3 : Nat) (xL3 : List Nat) (iL3 : Nat) (s0 : Nat) (s1 : Nat) (s2 : Nat) (s3 : Nat) (g0 : Nat) (g1 : Nat) (g2 : Nat) (g3 : Nat) (p : Nat) (kb : Nat) (a : Nat) (lnE : xE.length = nE) (lnC0 : xC0.length = nC0) (lnC1 : xC1.length = nC1) (lnL0 : xL0.length = nL0) (lnL1 : xL1.length = nL1) (lnL2 : xL2.length = nL2) (lnL3 : xL3.length = nL3) (hiE : iE < nE) (hiC0 : iC0 < nC0) (hiC1 : iC1 < nC1) (hiL0 : iL0 < nL0) (hiL1 : iL1 < nL1) (hiL2 : iL2 < nL2) (hiL3 : iL3 < nL3) (hnE : nE ≤ 1024) (hnC0 : nC0 ≤ 1024) (hnC1 : nC1 ≤ 1024) (hnL0 : nL0 ≤ 1024) (hnL1 : nL1 ≤ 1024) (hnL2 : nL2 ≤ 1024) (hnL3 : nL3 ≤ 1024) (hLE : LBw xE 1) (hLC0 : LBw xC0 3) (hLC1 : LBw xC1 5) (hLL0 : LBw xL0 (kb + 1)) (hLL1 : LBw xL1 (kb + 1)) (hLL2 : LBw xL2 (kb + 1)) (hLL3 : LBw xL3 (kb + 1)) (hs0 : Bw s0 (kb + 1)) (hs1 : Bw s1 (kb + 1)) (hs2 : Bw s2 (kb + 1)) (hs3 : Bw s3 (kb + 1)) (hg0 : Bw g0 0) (hg1 : Bw g1 0) (hg2 : Bw g2 0) (hg3 : Bw g3 0) (hb : kb ≤ 78) (h5 : 5 ≤ kb) (la : a < wid .f32) (ha : PlQ a) (w : World) (q : Row w p 0 [vS bE 0 nE cE, vI ((iE : Nat) : Int), .slice none 0 0, vS bC0 0 nC0 cC0, vI ((iC0 : Nat) : Int), vF 1056964608, vS bC1 0 nC1 cC1, vI ((iC1 : Nat) : Int), vF 1056964608, vS bL0 0 nL0 cL0, vI ((iL0 : Nat) : Int), vS bL1 0 nL1 cL1, vI ((iL1 : Nat) : Int), vS bL2 0 nL2 cL2, vI ((iL2 : Nat) : Int), vS bL3 0 nL3 cL3, vI ((iL3 : Nat) : Int), vI 1, vF 1056964608, vF 1056964608, vF 0, vF s0, vF 0, vI 1, vF 1056964608, vF 1056964608, vF 0, vF s1, vF 0, vI 1, vF 1056964608, vF 1056964608, vF 0, vF s2, vF 0, vI 1, vF 1056964608, vF 1056964608, vF 0, vF s3, vF 0, vF g0, vF g1, vF g2, vF g3, vF 1065353216, vF 0]) (rE : Row w bE 0 (fl xE)) (rC0 : Row w bC0 0 (fl xC0)) (rC1 : Row w bC1 0 (fl xC1)) (rL0 : Row w bL0 0 (fl xL0)) (rL1 : Row w bL1 0 (fl xL1)) (rL2 : Row w bL2 0 (fl xL2)) (rL3 : Row w bL3 0 (fl xL3)) (npE : p ≠ bE) (npC0 : p ≠ bC0) (npC1 : p ≠ bC1) (npL0 : p ≠ bL0) (npL1 : p ≠ bL1) (npL2 : p ≠ bL2) (npL3 : p ≠ bL3) (nEC0 : bE ≠ bC0) (nEC1 : bE ≠ bC1) (nEL0 : bE ≠ bL0) (nEL1 : bE ≠ bL1) (nEL2 : bE ≠ bL2) (nEL3 : bE ≠ bL3) (nC0C1 : bC0 ≠ bC1) (nC0L0 : bC0 ≠ bL0) (nC0L1 : bC0 ≠ bL1) (nC0L2 : bC0 ≠ bL2) (nC0L3 : bC0 ≠ bL3) (nC1L0 : bC1 ≠ bL0) (nC1L1 : bC1 ≠ bL1) (nC1L2 : bC1 ≠ bL2) (nC1L3 : bC1 ≠ bL3) (nL0L1 : bL0 ≠ bL1) (nL0L2 : bL0 ≠ bL2) (nL0L3 : bL0 ≠ bL3) (nL1L2 : bL1 ≠ bL2) (nL1L3 : bL1 ≠ bL3) (nL2L3 : bL2 ≠ bL3) : Cl Try.prog 28 #[vP p 0, vF a] w fun v w' => ∃ (xE' : List Nat) (xC0' : List Nat) (xC1' : List Nat) (xL0' : List Nat) (xL1' : List Nat) (xL2' : List Nat) (xL3' : List Nat) (s0' : Nat) (s1' : Nat) (s2' : Nat) (s3' : Nat), v = vF a ∧ (xE'.length = nE) ∧ (xC0'.length = nC0) ∧ (xC1'.length = nC1) ∧ (xL0'.length = nL0) ∧ (xL1'.length = nL1) ∧ (xL2'.length = nL2) ∧ (xL3'.length = nL3) ∧ (LBw xE' 1) ∧ (LBw xC0' 3) ∧ (LBw xC1' 5) ∧ (LBw xL0' (kb + 3)) ∧ (LBw xL1' (kb + 3)) ∧ (LBw xL2' (kb + 3)) ∧ (LBw xL3' (kb + 3)) ∧ (Bw s0' (kb + 3)) ∧ (Bw s1' (kb + 3)) ∧ (Bw s2' (kb + 3)) ∧ (Bw s3' (kb + 3)) ∧ Row w' p 0 [vS bE 0 nE cE, vI (((iE + 1) % nE : Nat) : Int), .slice none 0 0, vS bC0 0 nC0 cC0, vI (((iC0 + 1) % nC0 : Nat) : Int), vF 1056964608, vS bC1 0 nC1 cC1, vI (((iC1 + 1) % nC1 : Nat) : Int), vF 1056964608, vS bL0 0 nL0 cL0, vI (((iL0 + 1) % nL0 : Nat) : Int), vS bL1 0 nL1 cL1, vI (((iL1 + 1) % nL1 : Nat) : Int), vS bL2 0 nL2 cL2, vI (((iL2 + 1) % nL2 : Nat) : Int), vS bL3 0 nL3 cL3, vI (((iL3 + 1) % nL3 : Nat) : Int), vI 1, vF 1056964608, vF 1056964608, vF 0, vF s0', vF 0, vI 1, vF 1056964608, vF 1056964608, vF 0, vF s1', vF 0, vI 1, vF 1056964608, vF 1056964608, vF 0, vF s2', vF 0, vI 1, vF 1056964608, vF 1056964608, vF 0, vF s3', vF 0, vF g0, vF g1, vF g2, vF g3, vF 1065353216, vF 0] ∧ Row w' bE 0 (fl xE') ∧ Row w' bC0 0 (fl xC0') ∧ Row w' bC1 0 (fl xC1') ∧ Row w' bL0 0 (fl xL0') ∧ Row w' bL1 0 (fl xL1') ∧ Row w' bL2 0 (fl xL2') ∧ Row w' bL3 0 (fl xL3') ∧ Mod [p, bE, bC0, bC1, bL0, bL1, bL2, bL3] w w' := by
  refine Cl.of Try.func28 Try.ntmps28 rfl rfl (ρ := [(0, vP p 0), (1, vF a)]) rfl ?_
  refine CE.seq ?_
  refine CE.region ?_
  refine WL.det (op_assign rfl) rfl rfl rfl ?_
  refine WL.end ?_
  refine NE.code ?_
  refine CE.seq ?_
  refine CE.region ?_
  refine WL.det (op_move rfl) rfl rfl rfl ?_
  refine WL.call (oc_call (vs := [vP p 0]) (cap := []) rfl rfl rfl Try.call44 (c_early nE cE bE iE nC0 cC0 bC0 iC0 nC1 cC1 bC1 iC1 nL0 cL0 bL0 iL0 nL1 cL1 bL1 iL1 nL2 cL2 bL2 iL2 nL3 cL3 bL3 iL3 s0 s1 s2 s3 g0 g1 g2 g3 p w q.rng)) rfl rfl (ltb rfl) ?_
  rintro _ w1 ⟨rfl, m1⟩
  refine WL.det (op_assign rfl) rfl rfl rfl ?_
  refine WL.end ?_
  refine NE.code ?_
  refine CE.seq ?_
  refine CE.draw (fun | 4 => some (fun _ wA uA wB => uA = vF (keptF a) ∧ (keptF a < wid .f32) ∧ Mod [] wA wB) | _ => none) [0, 1, 2, 3, 4] [5] [] (by kernel_rfl) (by kernel_rfl) ?_
  have md1 : Mod [] w1 w1.drew := (Mod.refl _ _).drew
  generalize w1.drew = w2 at md1 ⊢
  refine DR.det (i := 0) rfl rfl (by kernel_rfl) (.free rfl) rfl rfl (fun wD mD => op_move rfl) ?_
  refine DR.det (i := 1) rfl rfl (by kernel_rfl) (.free rfl) rfl rfl (fun wD mD => op_nilCheck rfl) ?_
  refine DR.det (i := 2) rfl rfl (by kernel_rfl) (.free rfl) rfl rfl (fun wD mD => op_fieldAddr (off' := 0) rfl Try.runUnderlying43 rfl rfl Try.sizeOf31 rfl) ?_
  refine DR.det (i := 3) rfl rfl (by kernel_rfl) (.free rfl) rfl rfl (fun wD mD => op_move rfl) ?_
  refine DR.call (i := 4) (fun uA => uA = vF (keptF a) ∧ (keptF a < wid .f32)) rfl rfl (by kernel_rfl) (.free rfl) rfl (ltb rfl) ⟨_, rfl, keptF_wid rfl la⟩ (vs := [.func (.func 46) #[] #[], vF a]) rfl (fun wD mD => oc_call (vs := [vF a]) (cap := []) rfl rfl rfl Try.call46 (c_kept a a rfl la wD)) ?_ ?_
  · rintro w1 _ w2 m1 ⟨rfl, p0, m2⟩; exact ⟨⟨rfl, p0⟩, m2⟩
  rintro _ ⟨rfl, h1⟩
  refine DR.done rfl ?_
  intro w3 m2
  have r1 := (((q.ext m1).ext md1).ext m2)
  have r2 := (((rE.ext m1).ext md1).ext m2)
  refine WO.call rfl (.free rfl) rfl (ltb rfl) (oc_call (vs := [vP p 0, vF (keptF a)]) (cap := []) rfl rfl rfl Try.call45 (c_push nE cE bE xE iE p 0 [vS bE 0 nE cE, vI ((iE : Nat) : Int), .slice none 0 0, vS bC0 0 nC0 cC0, vI ((iC0 : Nat) : Int), vF 1056964608, vS bC1 0 nC1 cC1, vI ((iC1 : Nat) : Int), vF 1056964608, vS bL0 0 nL0 cL0, vI ((iL0 : Nat) : Int), vS bL1 0 nL1 cL1, vI ((iL1 : Nat) : Int), vS bL2 0 nL2 cL2, vI ((iL2 : Nat) : Int), vS bL3 0 nL3 cL3, vI ((iL3 : Nat) : Int), vI 1, vF 1056964608, vF 1056964608, vF 0, vF s0, vF 0, vI 1, vF 1056964608, vF 1056964608, vF 0, vF s1, vF 0, vI 1, vF 1056964608, vF 1056964608, vF 0, vF s2, vF 0, vI 1, vF 1056964608, vF 1056964608, vF 0, vF s3, vF 0, vF g0, vF g1, vF g2, vF g3, vF 1065353216, vF 0] (keptF a) lnE (by omega) (by omega) (lB rfl) w3 (Row.congr r1 rfl) r2 npE)) ?_
  rintro _ w4 ⟨rfl, r3, r4, m3⟩
  have r5 : Row w4 p 0 [vS bE 0 nE cE, vI (((iE + 1) % nE : Nat) : Int), .slice none 0 0, vS bC0 0 nC0 cC0, vI ((iC0 : Nat) : Int), vF 1056964608, vS bC1 0 nC1 cC1, vI ((iC1 : Nat) : Int), vF 1056964608, vS bL0 0 nL0 cL0, vI ((iL0 : Nat) : Int), vS bL1 0 nL1 cL1, vI ((iL1 : Nat) : Int), vS bL2 0 nL2 cL2, vI ((iL2 : Nat) : Int), vS bL3 0 nL3 cL3, vI ((iL3 : Nat) : Int), vI 1, vF 1056964608, vF 1056964608, vF 0, vF s0, vF 0, vI 1, vF 1056964608, vF 1056964608, vF 0, vF s1, vF 0, vI 1, vF 1056964608, vF 1056964608, vF 0, vF s2, vF 0, vI 1, vF 1056964608, vF 1056964608, vF 0, vF s3, vF 0, vF g0, vF g1, vF g2, vF g3, vF 1065353216, vF 0] := r3
  refine WO.end ?_
  refine NE.code ?_
  refine CE.seq ?_
  refine CE.draw (fun | 11 => some (fun _ wA uA wB => ∃ (y : Nat) (xs' : List Nat), uA = vF y ∧ (xs'.length = nC0) ∧ (LBw xs' 3) ∧ (Bw y 4) ∧ Row wB p 0 (splice [vS bE 0 nE cE, vI (((iE + 1) % nE : Nat) : Int), .slice none 0 0, vS bC0 0 nC0 cC0, vI ((iC0 : Nat) : Int), vF 1056964608, vS bC1 0 nC1 cC1, vI ((iC1 : Nat) : Int), vF 1056964608, vS bL0 0 nL0 cL0, vI ((iL0 : Nat) : Int), vS bL1 0 nL1 cL1, vI ((iL1 : Nat) : Int), vS bL2 0 nL2 cL2, vI ((iL2 : Nat) : Int), vS bL3 0 nL3 cL3, vI ((iL3 : Nat) : Int), vI 1, vF 1056964608, vF 1056964608, vF 0, vF s0, vF 0, vI 1, vF 1056964608, vF 1056964608, vF 0, vF s1, vF 0, vI 1, vF 1056964608, vF 1056964608, vF 0, vF s2, vF 0, vI 1, vF 1056964608, vF 1056964608, vF 0, vF s3, vF 0, vF g0, vF g1, vF g2, vF g3, vF 1065353216, vF 0] 3 [vS bC0 0 nC0 cC0, vI (((iC0 + 1) % nC0 : Nat) : Int), vF 1056964608]) ∧ Row wB bC0 0 (fl xs') ∧ Mod [p, bC0] wA wB) | _ => none) [0, 1, 2, 3, 4, 5, 6, 7, 8, 9, 10, 11] [12, 13] [p, bC0] (by kernel_rfl) (by kernel_rfl) ?_
  have md2 : Mod [] w4 w4.drew := (Mod.refl _ _).drew
  generalize w4.drew = w5 at md2 ⊢
  refine DR.det (i := 0) rfl rfl (by kernel_rfl) (.free rfl) rfl rfl (fun wD mD => op_move rfl) ?_
  refine DR.det (i := 1) rfl rfl (by kernel_rfl) (.free rfl) rfl rfl (fun wD mD => op_nilCheck rfl) ?_
  refine DR.det (i := 2) rfl rfl (by kernel_rfl) (.free rfl) rfl rfl (fun wD mD => op_fieldAddr (off' := 3) rfl Try.runUnderlying43 rfl rfl Try.sizeOf35 rfl) ?_
  refine DR.det (i := 3) rfl rfl (by kernel_rfl) (.free rfl) rfl rfl (fun wD mD => op_indexArr (off' := 6) rfl rfl Try.runUnderlying35 Try.sizeOf34 (by decide) (by decide) rfl) ?_
  refine DR.det (i := 4) rfl rfl (by kernel_rfl) (.free rfl) rfl rfl (fun wD mD => op_move rfl) ?_
  refine DR.det (i := 5) rfl rfl (by kernel_rfl) (.free rfl) rfl rfl (fun wD mD => op_nilCheck rfl) ?_
  refine DR.det (i := 6) rfl rfl (by kernel_rfl) (.free rfl) rfl rfl (fun wD mD => op_fieldAddr (off' := 3) rfl Try.runUnderlying43 rfl rfl Try.sizeOf35 rfl) ?_
  refine DR.det (i := 7) rfl rfl (by kernel_rfl) (.free rfl) rfl rfl (fun wD mD => op_indexArr (off' := 3) rfl rfl Try.runUnderlying35 Try.sizeOf34 (by decide) (by decide) rfl) ?_
  refine DR.det (i := 8) rfl rfl (by kernel_rfl) (.free rfl) rfl rfl (fun wD mD => op_move rfl) ?_
  refine DR.det (i := 9) rfl rfl (by kernel_rfl) (.free rfl) rfl rfl (fun wD mD => op_move rfl) ?_
  refine DR.op (i := 10) (FOut .f32 (fop .add .f32 a 0)) rfl rfl (by kernel_rfl) (.free rfl) rfl (ltb rfl) (fun wD mD => op_farith (e := (fop .add .f32 a 0)) (.inl rfl) rfl rfl rfl rfl rfl) ?_
  rintro _ ⟨f1, rfl, hf1, lf1⟩
  refine DR.one (i := 11) rfl rfl (by kernel_rfl) (.free rfl) rfl (ltb rfl) (vs := [.func (.func 47) #[] #[], vP p 3, vF f1]) rfl ?_
  intro w6 m4
  refine ⟨oc_call (vs := [vP p 3, vF f1]) (cap := []) rfl rfl rfl Try.call47 (c_comb0 nC0 cC0 bC0 xC0 iC0 p [vS bE 0 nE cE, vI (((iE + 1) % nE : Nat) : Int), .slice none 0 0, vS bC0 0 nC0 cC0, vI ((iC0 : Nat) : Int), vF 1056964608, vS bC1 0 nC1 cC1, vI ((iC1 : Nat) : Int), vF 1056964608, vS bL0 0 nL0 cL0, vI ((iL0 : Nat) : Int), vS bL1 0 nL1 cL1, vI ((iL1 : Nat) : Int), vS bL2 0 nL2 cL2, vI ((iL2 : Nat) : Int), vS bL3 0 nL3 cL3, vI ((iL3 : Nat) : Int), vI 1, vF 1056964608, vF 1056964608, vF 0, vF s0, vF 0, vI 1, vF 1056964608, vF 1056964608, vF 0, vF s1, vF 0, vI 1, vF 1056964608, vF 1056964608, vF 0, vF s2, vF 0, vI 1, vF 1056964608, vF 1056964608, vF 0, vF s3, vF 0, vF g0, vF g1, vF g2, vF g3, vF 1065353216, vF 0] f1 lnC0 (by omega) (by omega) (lB rfl) (by assumption) (by first | assumption | exact Bw.addc (by assumption) (Bw.mono (PlQ.bw (by assumption)) (by omega)) Bw.zero (by omega)) w6 (Row.congr ((r5.ext md2).ext m4) rfl) ((((((rC0.ext m1).ext md1).ext m2).mod m3 (nC (Ne.symm npC0) (nC (Ne.symm nEC0) nN))).ext md2).ext m4) npC0), ?_⟩
  rintro _ w7 ⟨y1, xs'1, rfl, h2, h3, h4, r6, r7, m5⟩
  have r8 : Row w7 p 0 [vS bE 0 nE cE, vI (((iE + 1) % nE : Nat) : Int), .slice none 0 0, vS bC0 0 nC0 cC0, vI (((iC0 + 1) % nC0 : Nat) : Int), vF 1056964608, vS bC1 0 nC1 cC1, vI ((iC1 : Nat) : Int), vF 1056964608, vS bL0 0 nL0 cL0, vI ((iL0 : Nat) : Int), vS bL1 0 nL1 cL1, vI ((iL1 : Nat) : Int), vS bL2 0 nL2 cL2, vI ((iL2 : Nat) : Int), vS bL3 0 nL3 cL3, vI ((iL3 : Nat) : Int), vI 1, vF 1056964608, vF 1056964608, vF 0, vF s0, vF 0, vI 1, vF 1056964608, vF 1056964608, vF 0, vF s1, vF 0, vI 1, vF 1056964608, vF 1056964608, vF 0, vF s2, vF 0, vI 1, vF 1056964608, vF 1056964608, vF 0, vF s3, vF 0, vF g0, vF g1, vF g2, vF g3, vF 1065353216, vF 0] := r6
  refine ⟨(((Mod.refl [p, bC0] w5).nt m4).then m5 ((aC (.inl (by simp)) (aC (.inl (by simp)) aN)))), ?_⟩
  refine DR.done rfl ?_
  intro w8 m6
  have r9 := ((((((((rC1.ext m1).ext md1).ext m2).mod m3 (nC (Ne.symm npC1) (nC (Ne.symm nEC1) nN))).ext md2).ext m4).mod m5 (nC (Ne.symm npC1) (nC (Ne.symm nC0C1) nN))).ext m6)
  refine WO.call rfl (.free rfl) rfl (ltb rfl) (oc_call (vs := [vP p 6, vF y1]) (cap := []) rfl rfl rfl Try.call47 (c_comb1 nC1 cC1 bC1 xC1 iC1 p [vS bE 0 nE cE, vI (((iE + 1) % nE : Nat) : Int), .slice none 0 0, vS bC0 0 nC0 cC0, vI (((iC0 + 1) % nC0 : Nat) : Int), vF 1056964608, vS bC1 0 nC1 cC1, vI ((iC1 : Nat) : Int), vF 1056964608, vS bL0 0 nL0 cL0, vI ((iL0 : Nat) : Int), vS bL1 0 nL1 cL1, vI ((iL1 : Nat) : Int), vS bL2 0 nL2 cL2, vI ((iL2 : Nat) : Int), vS bL3 0 nL3 cL3, vI ((iL3 : Nat) : Int), vI 1, vF 1056964608, vF 1056964608, vF 0, vF s0, vF 0, vI 1, vF 1056964608, vF 1056964608, vF 0, vF s1, vF 0, vI 1, vF 1056964608, vF 1056964608, vF 0, vF s2, vF 0, vI 1, vF 1056964608, vF 1056964608, vF 0, vF s3, vF 0, vF g0, vF g1, vF g2, vF g3, vF 1065353216, vF 0] y1 lnC1 (by omega) (by omega) (lB rfl) (by assumption) (by first | assumption | exact Bw.addc (by assumption) (Bw.mono (PlQ.bw (by assumption)) (by omega)) Bw.zero (by omega)) w8 (Row.congr (r8.ext m6) rfl) r9 npC1)) ?_
  rintro _ w9 ⟨y2, xs'2, rfl, h5, h6, h7, r10, r11, m7⟩
  have r12 : Row w9 p 0 [vS bE 0 nE cE, vI (((iE + 1) % nE : Nat) : Int), .slice none 0 0, vS bC0 0 nC0 cC0, vI (((iC0 + 1) % nC0 : Nat) : Int), vF 1056964608, vS bC1 0 nC1 cC1, vI (((iC1 + 1) % nC1 : Nat) : Int), vF 1056964608, vS bL0 0 nL0 cL0, vI ((iL0 : Nat) : Int), vS bL1 0 nL1 cL1, vI ((iL1 : Nat) : Int), vS bL2 0 nL2 cL2, vI ((iL2 : Nat) : Int), vS bL3 0 nL3 cL3, vI ((iL3 : Nat) : Int), vI 1, vF 1056964608, vF 1056964608, vF 0, vF s0, vF 0, vI 1, vF 1056964608, vF 1056964608, vF 0, vF s1, vF 0, vI 1, vF 1056964608, vF 1056964608, vF 0, vF s2, vF 0, vI 1, vF 1056964608, vF 1056964608, vF 0, vF s3, vF 0, vF g0, vF g1, vF g2, vF g3, vF 1065353216, vF 0] := r10
  refine WO.det (op_assign rfl) rfl (.free rfl) rfl rfl ?_
  refine WO.end ?_
  refine NE.code ?_
  refine CE.seq ?_
  refine CE.region ?_
  refine WL.op (op_alloc (cs := [vF 0, vF 0, vF 0, vF 0]) Try.zeroValue25 rfl) rfl rfl (ltb rfl) ?_
  rintro _ w10 ⟨rfl, r13, m8, z1⟩
  refine WL.op (op_alloc (cs := [vF 0, vF 0, vF 0, vF 0]) Try.zeroValue25 rfl) rfl rfl (ltb rfl) ?_
  rintro _ w11 ⟨rfl, r14, m9, z2⟩
  refine WL.end ?_
  refine NE.code ?_
  iterate 2 refine CE.seq ?_
  refine CE.region ?_
  refine WL.det (op_move rfl) rfl rfl rfl ?_
  refine WL.end ?_
  refine NE.code ?_
  refine CE.block ?_
  refine CE.rounds 5 ?_
  refine RN.one ?_
  refine CE.seq ?_
  refine CE.region ?_
  refine WL.det (op_lti rfl rfl) rfl rfl rfl ?_
  refine WL.end ?_
  refine NE.code ?_
  refine CE.seq ?_
  refine CE.cond_t rfl rfl ?_
  refine CE.skip' ?_
  refine NE.code ?_
  refine CE.seq ?_
  refine CE.block ?_
  refine CE.seq ?_
  refine CE.region ?_
  refine WL.det (op_move rfl) rfl rfl rfl ?_
  refine WL.det (op_assign rfl) rfl rfl rfl ?_
  refine WL.end ?_
  refine NE.code ?_
  refine CE.seq ?_
  refine CE.region ?_
  iterate 3 refine WL.det (op_move rfl) rfl rfl rfl ?_
  refine WL.det (op_nilCheck rfl) rfl rfl rfl ?_
  refine WL.det (op_fieldAddr (off' := 9) rfl Try.runUnderlying43 rfl rfl Try.sizeOf36 rfl) rfl rfl rfl ?_
  refine WL.det (op_indexArr (off' := 9) rfl rfl Try.runUnderlying36 Try.sizeOf31 (by decide) (by decide) rfl) rfl rfl rfl ?_
  refine WL.det (op_loadA (i := 9) (cs := [vS bL0 0 nL0 cL0, vI ((iL0 : Nat) : Int)]) rfl Try.isAgg31 Try.sizeOf31 ((r12.ext m8).ext m9).rng rfl rfl rfl) rfl rfl rfl ?_
  have r15 := (((((((((((rL0.ext m1).ext md1).ext m2).mod m3 (nC (Ne.symm npL0) (nC (Ne.symm nEL0) nN))).ext md2).ext m4).mod m5 (nC (Ne.symm npL0) (nC (Ne.symm nC0L0) nN))).ext m6).mod m7 (nC (Ne.symm npL0) (nC (Ne.symm nC1L0) nN))).ext m8).ext m9)
  refine WL.call (oc_call (vs := [.agg #[vS bL0 0 nL0 cL0, vI ((iL0 : Nat) : Int)]]) (cap := []) rfl rfl rfl Try.call48 (c_oldest nL0 cL0 bL0 xL0 iL0 lnL0 (by omega) (by omega) w11 r15.rng)) rfl rfl (ltb rfl) ?_
  rintro _ w12 ⟨rfl, m10⟩
  refine WL.det (op_indexArr (off' := 0) rfl rfl Try.runUnderlying25 Try.sizeOf24 (by decide) (by decide) rfl) rfl rfl rfl ?_
  refine WL.op0 (op_store (i := 0) (cs := [vF (xL0.getD iL0 0)]) rfl rfl rfl Try.sizeOf24 rfl ((r13.ext m9).ext m10) rfl (lB rfl) rfl) rfl rfl ?_
  rintro _ w13 ⟨r16, m11, z3⟩
  have r17 : Row w13 w9.heap.size 0 [vF (xL0.getD iL0 0), vF 0, vF 0, vF 0] := Row.congr r16 rfl
  refine WL.end ?_
  refine NE.code ?_
  refine CE.draw (fun | 16 => some (fun _ wA uA wB => ∃ (y : Nat) (t0 : Nat), uA = vF y ∧ (Bw y (kb + 1)) ∧ (Bw t0 (kb + 1)) ∧ Row wB p 0 (splice [vS bE 0 nE cE, vI (((iE + 1) % nE : Nat) : Int), .slice none 0 0, vS bC0 0 nC0 cC0, vI (((iC0 + 1) % nC0 : Nat) : Int), vF 1056964608, vS bC1 0 nC1 cC1, vI (((iC1 + 1) % nC1 : Nat) : Int), vF 1056964608, vS bL0 0 nL0 cL0, vI ((iL0 : Nat) : Int), vS bL1 0 nL1 cL1, vI ((iL1 : Nat) : Int), vS bL2 0 nL2 cL2, vI ((iL2 : Nat) : Int), vS bL3 0 nL3 cL3, vI ((iL3 : Nat) : Int), vI 1, vF 1056964608, vF 1056964608, vF 0, vF s0, vF 0, vI 1, vF 1056964608, vF 1056964608, vF 0, vF s1, vF 0, vI 1, vF 1056964608, vF 1056964608, vF 0, vF s2, vF 0, vI 1, vF 1056964608, vF 1056964608, vF 0, vF s3, vF 0, vF g0, vF g1, vF g2, vF g3, vF 1065353216, vF 0] 17 [vI 1, vF 1056964608, vF 1056964608, vF 0, vF t0, vF 0]) ∧ Mod [p] wA wB) | _ => none) [0, 1, 2, 3, 4, 5, 6, 7, 8, 9, 10, 11, 12, 13, 14, 15, 16] [17, 18] [p] (by kernel_rfl) (by kernel_rfl) ?_
  have md3 : Mod [] w13 w13.drew := (Mod.refl _ _).drew
  generalize w13.drew = w14 at md3 ⊢
  refine DR.det (i := 0) rfl rfl (by kernel_rfl) (.free rfl) rfl rfl (fun wD mD => op_move rfl) ?_
  refine DR.det (i := 1) rfl rfl (by kernel_rfl) (.free rfl) rfl rfl (fun wD mD => op_move rfl) ?_
  refine DR.det (i := 2) rfl rfl (by kernel_rfl) (.free rfl) rfl rfl (fun wD mD => op_move rfl) ?_
  refine DR.det (i := 3) rfl rfl (by kernel_rfl) (.free rfl) rfl rfl (fun wD mD => op_nilCheck rfl) ?_
  refine DR.det (i := 4) rfl rfl (by kernel_rfl) (.free rfl) rfl rfl (fun wD mD => op_fieldAddr (off' := 17) rfl Try.runUnderlying43 rfl rfl Try.sizeOf41 rfl) ?_
  refine DR.det (i := 5) rfl rfl (by kernel_rfl) (.free rfl) rfl rfl (fun wD mD => op_indexArr (off' := 17) rfl rfl Try.runUnderlying41 Try.sizeOf40 (by decide) (by decide) rfl) ?_
  refine DR.det (i := 6) rfl rfl (by kernel_rfl) (.free rfl) rfl rfl (fun wD mD => op_move rfl) ?_
  refine DR.det (i := 7) rfl rfl (by kernel_rfl) (.free rfl) rfl rfl (fun wD mD => op_move rfl) ?_
  refine DR.det (i := 8) rfl rfl (by kernel_rfl) (.free rfl) rfl rfl (fun wD mD => op_nilCheck rfl) ?_
  refine DR.det (i := 9) rfl rfl (by kernel_rfl) (.free rfl) rfl rfl (fun wD mD => op_fieldAddr (off' := 41) rfl Try.runUnderlying43 rfl rfl Try.sizeOf25 rfl) ?_
  refine DR.det (i := 10) rfl rfl (by kernel_rfl) (.free rfl) rfl rfl (fun wD mD => op_indexArr (off' := 41) rfl rfl Try.runUnderlying25 Try.sizeOf24 (by decide) (by decide) rfl) ?_
  refine DR.det (i := 12) rfl rfl (by kernel_rfl) (.free rfl) rfl rfl (fun wD mD => op_move rfl) ?_
  refine DR.det (i := 13) rfl rfl (by kernel_rfl) (.free rfl) rfl rfl (fun wD mD => op_indexArr (off' := 0) rfl rfl Try.runUnderlying25 Try.sizeOf24 (by decide) (by decide) rfl) ?_
  refine DR.det (i := 14) rfl rfl (by kernel_rfl) (.free rfl) rfl rfl (fun wD mD => op_load1 (i := 0) rfl Try.isAgg24 ((r17.ext md3).mod mD (nC (lG (lL (lL q.lt (lT (lT (lT (lT (lT (lT (lT (lT m1.size md1.size) m2.size) m3.size) md2.size) m4.size) m5.size) m6.size) m7.size)) lR)) nN)).rng rfl rfl) ?_
  refine DR.cut [11, 15] 2 1 rfl (by kernel_rfl) ?_
  refine DR.det (i := 11) rfl rfl (by kernel_rfl) (.free rfl) rfl rfl (fun wD mD => op_load1 (i := 41) rfl Try.isAgg24 ((((((r12.ext m8).ext m9).ext m10).mod m11 (nC (lE (lL (lL q.lt (lT (lT (lT (lT (lT (lT (lT (lT m1.size md1.size) m2.size) m3.size) md2.size) m4.size) m5.size) m6.size) m7.size)) lR)) nN)).ext md3).ext mD).rng rfl rfl) ?_
  refine DR.op (i := 15) (FOut .f32 (fop .mul .f32 g0 (xL0.getD iL0 0))) rfl rfl (by kernel_rfl) (.free rfl) rfl (ltb rfl) (fun wD mD => op_farith (e := (fop .mul .f32 g0 (xL0.getD iL0 0))) (.inr (.inr (.inl rfl))) rfl rfl rfl rfl rfl) ?_
  rintro _ ⟨f2, rfl, hf2, lf2⟩
  refine DR.join (by kernel_rfl) ?_
  intro w15 m12 _
  refine ⟨((Mod.refl [p] w14).nt m12), ?_⟩
  refine DR.rebase ?_
  refine DR.one (i := 16) rfl rfl (by kernel_rfl) (.free rfl) rfl (ltb rfl) (vs := [.func (.func 49) #[] #[], vP p 17, vF f2]) rfl ?_
  intro w16 m13
  refine ⟨oc_call (vs := [vP p 17, vF f2]) (cap := []) rfl rfl rfl Try.call49 (c_pole s0 p 17 [vS bE 0 nE cE, vI (((iE + 1) % nE : Nat) : Int), .slice none 0 0, vS bC0 0 nC0 cC0, vI (((iC0 + 1) % nC0 : Nat) : Int), vF 1056964608, vS bC1 0 nC1 cC1, vI (((iC1 + 1) % nC1 : Nat) : Int), vF 1056964608, vS bL0 0 nL0 cL0, vI ((iL0 : Nat) : Int), vS bL1 0 nL1 cL1, vI ((iL1 : Nat) : Int), vS bL2 0 nL2 cL2, vI ((iL2 : Nat) : Int), vS bL3 0 nL3 cL3, vI ((iL3 : Nat) : Int), vI 1, vF 1056964608, vF 1056964608, vF 0, vF s0, vF 0, vI 1, vF 1056964608, vF 1056964608, vF 0, vF s1, vF 0, vI 1, vF 1056964608, vF 1056964608, vF 0, vF s2, vF 0, vI 1, vF 1056964608, vF 1056964608, vF 0, vF s3, vF 0, vF g0, vF g1, vF g2, vF g3, vF 1065353216, vF 0] f2 kb (lB rfl) (by assumption) (by first | assumption | exact Bw.gainc (by assumption) (by assumption) (LBw.get (by assumption) _) (by omega)) (by omega) w16 (Row.congr (((((((r12.ext m8).ext m9).ext m10).mod m11 (nC (lE (lL (lL q.lt (lT (lT (lT (lT (lT (lT (lT (lT m1.size md1.size) m2.size) m3.size) md2.size) m4.size) m5.size) m6.size) m7.size)) lR)) nN)).ext md3).ext m12).ext m13) rfl)), ?_⟩
  rintro _ w17 ⟨y3, t1, rfl, h8, h9, r18, m14⟩
  have r19 : Row w17 p 0 [vS bE 0 nE cE, vI (((iE + 1) % nE : Nat) : Int), .slice none 0 0, vS bC0 0 nC0 cC0, vI (((iC0 + 1) % nC0 : Nat) : Int), vF 1056964608, vS bC1 0 nC1 cC1, vI (((iC1 + 1) % nC1 : Nat) : Int), vF 1056964608, vS bL0 0 nL0 cL0, vI ((iL0 : Nat) : Int), vS bL1 0 nL1 cL1, vI ((iL1 : Nat) : Int), vS bL2 0 nL2 cL2, vI ((iL2 : Nat) : Int), vS bL3 0 nL3 cL3, vI ((iL3 : Nat) : Int), vI 1, vF 1056964608, vF 1056964608, vF 0, vF t1, vF 0, vI 1, vF 1056964608, vF 1056964608, vF 0, vF s1, vF 0, vI 1, vF 1056964608, vF 1056964608, vF 0, vF s2, vF 0, vI 1, vF 1056964608, vF 1056964608, vF 0, vF s3, vF 0, vF g0, vF g1, vF g2, vF g3, vF 1065353216, vF 0] := r18
  refine ⟨(((Mod.refl [p] w15).nt m13).then m14 ((aC (.inl (by simp)) aN))), ?_⟩
  refine DR.done rfl ?_
  intro w18 m15
  refine WO.det (op_indexArr (off' := 0) rfl rfl Try.runUnderlying25 Try.sizeOf24 (by decide) (by decide) rfl) rfl (.free rfl) rfl rfl ?_
  have sz1 := (lT (lT (lT (lT (lT (lT (lT (lT (lT m1.size md1.size) m2.size) m3.size) md2.size) m4.size) m5.size) m6.size) m7.size) m8.size)
  have r20 := (((((((r14.ext m10).mod m11 (nC (lG (lL r13.lt lR)) nN)).ext md3).ext m12).ext m13).mod m14 (nC (lG (lL (lL q.lt sz1) lR)) nN)).ext m15)
  refine WO.op0 rfl (.free rfl) rfl (op_store (i := 0) (cs := [vF y3]) rfl rfl rfl Try.sizeOf24 rfl r20 rfl (lB rfl) rfl) ?_
  rintro _ w19 ⟨r21, m16, z4⟩
  have r22 : Row w19 w10.heap.size 0 [vF y3, vF 0, vF 0, vF 0] := Row.congr r21 rfl
  refine WO.end ?_
  refine NE.blk ?_
  refine NE.code ?_
  refine CE.region ?_
  refine WL.det (op_add (r := 1) rfl rfl (by decide)) rfl rfl rfl ?_
  refine WL.det (op_move rfl) rfl rfl rfl ?_
  refine WL.end ?_
  refine NE.round ?_
  refine RN.one ?_
  refine CE.seq ?_
  refine CE.region ?_
  refine WL.det (op_lti rfl rfl) rfl rfl rfl ?_
  refine WL.end ?_
  refine NE.code ?_
  refine CE.seq ?_
  refine CE.cond_t rfl rfl ?_
  refine CE.skip' ?_
  refine NE.code ?_
  refine CE.seq ?_
  refine CE.block ?_
  refine CE.seq ?_
  refine CE.region ?_
  refine WL.det (op_move rfl) rfl rfl rfl ?_
  refine WL.det (op_assign rfl) rfl rfl rfl ?_
  refine WL.end ?_
  refine NE.code ?_
  refine CE.seq ?_
  refine CE.region ?_
  iterate 3 refine WL.det (op_move rfl) rfl rfl rfl ?_
  refine WL.det (op_nilCheck rfl) rfl rfl rfl ?_
  refine WL.det (op_fieldAddr (off' := 9) rfl Try.runUnderlying43 rfl rfl Try.sizeOf36 rfl) rfl rfl rfl ?_
  refine WL.det (op_indexArr (off' := 11) rfl rfl Try.runUnderlying36 Try.sizeOf31 (by decide) (by decide) rfl) rfl rfl rfl ?_
  refine WL.det (op_loadA (i := 11) (cs := [vS bL1 0 nL1 cL1, vI ((iL1 : Nat) : Int)]) rfl Try.isAgg31 Try.sizeOf31 ((r19.ext m15).mod m16 (nC (lE (lL (lL q.lt sz1) lR)) nN)).rng rfl rfl rfl) rfl rfl rfl ?_
  have sz2 := (lT (lT (lT (lT (lT (lT (lT (lT m1.size md1.size) m2.size) m3.size) md2.size) m4.size) m5.size) m6.size) m7.size)
  have r23 := (((((((((((((((((((rL1.ext m1).ext md1).ext m2).mod m3 (nC (Ne.symm npL1) (nC (Ne.symm nEL1) nN))).ext md2).ext m4).mod m5 (nC (Ne.symm npL1) (nC (Ne.symm nC0L1) nN))).ext m6).mod m7 (nC (Ne.symm npL1) (nC (Ne.symm nC1L1) nN))).ext m8).ext m9).ext m10).mod m11 (nC (lE (lL (lL rL1.lt sz2) lR)) nN)).ext md3).ext m12).ext m13).mod m14 (nC (Ne.symm npL1) nN)).ext m15).mod m16 (nC (lE (lL (lL rL1.lt sz1) lR)) nN))
  refine WL.call (oc_call (vs := [.agg #[vS bL1 0 nL1 cL1, vI ((iL1 : Nat) : Int)]]) (cap := []) rfl rfl rfl Try.call48 (c_oldest nL1 cL1 bL1 xL1 iL1 lnL1 (by omega) (by omega) w19 r23.rng)) rfl rfl (ltb rfl) ?_
  rintro _ w20 ⟨rfl, m17⟩
  refine WL.det (op_indexArr (off' := 1) rfl rfl Try.runUnderlying25 Try.sizeOf24 (by decide) (by decide) rfl) rfl rfl rfl ?_
  have r24 := (((((((r17.ext md3).ext m12).ext m13).mod m14 (nC (lG (lL (lL q.lt sz2) lR)) nN)).ext m15).mod m16 (nC (lE (lL r13.lt lR)) nN)).ext m17)
  refine WL.op0 (op_store (i := 1) (cs := [vF (xL1.getD iL1 0)]) rfl rfl rfl Try.sizeOf24 rfl r24 rfl (lB rfl) rfl) rfl rfl ?_
  rintro _ w21 ⟨r25, m18, z5⟩
  have r26 : Row w21 w9.heap.size 0 [vF (xL0.getD iL0 0), vF (xL1.getD iL1 0), vF 0, vF 0] := Row.congr r25 rfl
  refine WL.end ?_
  refine NE.code ?_
  refine CE.draw (fun | 16 => some (fun _ wA uA wB => ∃ (y : Nat) (t0 : Nat), uA = vF y ∧ (Bw y (kb + 1)) ∧ (Bw t0 (kb + 1)) ∧ Row wB p 0 (splice [vS bE 0 nE cE, vI (((iE + 1) % nE : Nat) : Int), .slice none 0 0, vS bC0 0 nC0 cC0, vI (((iC0 + 1) % nC0 : Nat) : Int), vF 1056964608, vS bC1 0 nC1 cC1, vI (((iC1 + 1) % nC1 : Nat) : Int), vF 1056964608, vS bL0 0 nL0 cL0, vI ((iL0 : Nat) : Int), vS bL1 0 nL1 cL1, vI ((iL1 : Nat) : Int), vS bL2 0 nL2 cL2, vI ((iL2 : Nat) : Int), vS bL3 0 nL3 cL3, vI ((iL3 : Nat) : Int), vI 1, vF 1056964608, vF 1056964608, vF 0, vF t1, vF 0, vI 1, vF 1056964608, vF 1056964608, vF 0, vF s1, vF 0, vI 1, vF 1056964608, vF 1056964608, vF 0, vF s2, vF 0, vI 1, vF 1056964608, vF 1056964608, vF 0, vF s3, vF 0, vF g0, vF g1, vF g2, vF g3, vF 1065353216, vF 0] 23 [vI 1, vF 1056964608, vF 1056964608, vF 0, vF t0, vF 0]) ∧ Mod [p] wA wB) | _ => none) [0, 1, 2, 3, 4, 5, 6, 7, 8, 9, 10, 11, 12, 13, 14, 15, 16] [17, 18] [p] (by kernel_rfl) (by kernel_rfl) ?_
  have md4 : Mod [] w21 w21.drew := (Mod.refl _ _).drew
  generalize w21.drew = w22 at md4 ⊢
  refine DR.det (i := 0) rfl rfl (by kernel_rfl) (.free rfl) rfl rfl (fun wD mD => op_move rfl) ?_
  refine DR.det (i := 1) rfl rfl (by kernel_rfl) (.free rfl) rfl rfl (fun wD mD => op_move rfl) ?_
  refine DR.det (i := 2) rfl rfl (by kernel_rfl) (.free rfl) rfl rfl (fun wD mD => op_move rfl) ?_
  refine DR.det (i := 3) rfl rfl (by kernel_rfl) (.free rfl) rfl rfl (fun wD mD => op_nilCheck rfl) ?_
  refine DR.det (i := 4) rfl rfl (by kernel_rfl) (.free rfl) rfl rfl (fun wD mD => op_fieldAddr (off' := 17) rfl Try.runUnderlying43 rfl rfl Try.sizeOf41 rfl) ?_
  refine DR.det (i := 5) rfl rfl (by kernel_rfl) (.free rfl) rfl rfl (fun wD mD => op_indexArr (off' := 23) rfl rfl Try.runUnderlying41 Try.sizeOf40 (by decide) (by decide) rfl) ?_
  refine DR.det (i := 6) rfl rfl (by kernel_rfl) (.free rfl) rfl rfl (fun wD mD => op_move rfl) ?_
  refine DR.det (i := 7) rfl rfl (by kernel_rfl) (.free rfl) rfl rfl (fun wD mD => op_move rfl) ?_
  refine DR.det (i := 8) rfl rfl (by kernel_rfl) (.free rfl) rfl rfl (fun wD mD => op_nilCheck rfl) ?_
  refine DR.det (i := 9) rfl rfl (by kernel_rfl) (.free rfl) rfl rfl (fun wD mD => op_fieldAddr (off' := 41) rfl Try.runUnderlying43 rfl rfl Try.sizeOf25 rfl) ?_
  refine DR.det (i := 10) rfl rfl (by kernel_rfl) (.free rfl) rfl rfl (fun wD mD => op_indexArr (off' := 42) rfl rfl Try.runUnderlying25 Try.sizeOf24 (by decide) (by decide) rfl) ?_
  refine DR.det (i := 12) rfl rfl (by kernel_rfl) (.free rfl) rfl rfl (fun wD mD => op_move rfl) ?_
  refine DR.det (i := 13) rfl rfl (by kernel_rfl) (.free rfl) rfl rfl (fun wD mD => op_indexArr (off' := 1) rfl rfl Try.runUnderlying25 Try.sizeOf24 (by decide) (by decide) rfl) ?_
  refine DR.det (i := 14) rfl rfl (by kernel_rfl) (.free rfl) rfl rfl (fun wD mD => op_load1 (i := 1) rfl Try.isAgg24 ((r26.ext md4).mod mD (nC (lG (lL (lL q.lt sz2) lR)) nN)).rng rfl rfl) ?_
  refine DR.cut [11, 15] 2 1 rfl (by kernel_rfl) ?_
  refine DR.det (i := 11) rfl rfl (by kernel_rfl) (.free rfl) rfl rfl (fun wD mD => op_load1 (i := 42) rfl Try.isAgg24 ((((((r19.ext m15).mod m16 (nC (lE (lL (lL q.lt sz1) lR)) nN)).ext m17).mod m18 (nC (lE (lL (lL q.lt sz2) lR)) nN)).ext md4).ext mD).rng rfl rfl) ?_
  refine DR.op (i := 15) (FOut .f32 (fop .mul .f32 g1 (xL1.getD iL1 0))) rfl rfl (by kernel_rfl) (.free rfl) rfl (ltb rfl) (fun wD mD => op_farith (e := (fop .mul .f32 g1 (xL1.getD iL1 0))) (.inr (.inr (.inl rfl))) rfl rfl rfl rfl rfl) ?_
  rintro _ ⟨f3, rfl, hf3, lf3⟩
  refine DR.join (by kernel_rfl) ?_
  intro w23 m19 _
  refine ⟨((Mod.refl [p] w22).nt m19), ?_⟩
  refine DR.rebase ?_
  refine DR.one (i := 16) rfl rfl (by kernel_rfl) (.free rfl) rfl (ltb rfl) (vs := [.func (.func 49) #[] #[], vP p 23, vF f3]) rfl ?_
  intro w24 m20
  refine ⟨oc_call (vs := [vP p 23, vF f3]) (cap := []) rfl rfl rfl Try.call49 (c_pole s1 p 23 [vS bE 0 nE cE, vI (((iE + 1) % nE : Nat) : Int), .slice none 0 0, vS bC0 0 nC0 cC0, vI (((iC0 + 1) % nC0 : Nat) : Int), vF 1056964608, vS bC1 0 nC1 cC1, vI (((iC1 + 1) % nC1 : Nat) : Int), vF 1056964608, vS bL0 0 nL0 cL0, vI ((iL0 : Nat) : Int), vS bL1 0 nL1 cL1, vI ((iL1 : Nat) : Int), vS bL2 0 nL2 cL2, vI ((iL2 : Nat) : Int), vS bL3 0 nL3 cL3, vI ((iL3 : Nat) : Int), vI 1, vF 1056964608, vF 1056964608, vF 0, vF t1, vF 0, vI 1, vF 1056964608, vF 1056964608, vF 0, vF s1, vF 0, vI 1, vF 1056964608, vF 1056964608, vF 0, vF s2, vF 0, vI 1, vF 1056964608, vF 1056964608, vF 0, vF s3, vF 0, vF g0, vF g1, vF g2, vF g3, vF 1065353216, vF 0] f3 kb (lB rfl) (by assumption) (by first | assumption | exact Bw.gainc (by assumption) (by assumption) (LBw.get (by assumption) _) (by omega)) (by omega) w24 (Row.congr (((((((r19.ext m15).mod m16 (nC (lE (lL (lL q.lt sz1) lR)) nN)).ext m17).mod m18 (nC (lE (lL (lL q.lt sz2) lR)) nN)).ext md4).ext m19).ext m20) rfl)), ?_⟩
  rintro _ w25 ⟨y4, t2, rfl, h10, h11, r27, m21⟩
  have r28 : Row w25 p 0 [vS bE 0 nE cE, vI (((iE + 1) % nE : Nat) : Int), .slice none 0 0, vS bC0 0 nC0 cC0, vI (((iC0 + 1) % nC0 : Nat) : Int), vF 1056964608, vS bC1 0 nC1 cC1, vI (((iC1 + 1) % nC1 : Nat) : Int), vF 1056964608, vS bL0 0 nL0 cL0, vI ((iL0 : Nat) : Int), vS bL1 0 nL1 cL1, vI ((iL1 : Nat) : Int), vS bL2 0 nL2 cL2, vI ((iL2 : Nat) : Int), vS bL3 0 nL3 cL3, vI ((iL3 : Nat) : Int), vI 1, vF 1056964608, vF 1056964608, vF 0, vF t1, vF 0, vI 1, vF 1056964608, vF 1056964608, vF 0, vF t2, vF 0, vI 1, vF 1056964608, vF 1056964608, vF 0, vF s2, vF 0, vI 1, vF 1056964608, vF 1056964608, vF 0, vF s3, vF 0, vF g0, vF g1, vF g2, vF g3, vF 1065353216, vF 0] := r27
  refine ⟨(((Mod.refl [p] w23).nt m20).then m21 ((aC (.inl (by simp)) aN))), ?_⟩
  refine DR.done rfl ?_
  intro w26 m22
  refine WO.det (op_indexArr (off' := 1) rfl rfl Try.runUnderlying25 Try.sizeOf24 (by decide) (by decide) rfl) rfl (.free rfl) rfl rfl ?_
  have r29 := (((((((r22.ext m17).mod m18 (nC (lG (lL r13.lt lR)) nN)).ext md4).ext m19).ext m20).mod m21 (nC (lG (lL (lL q.lt sz1) lR)) nN)).ext m22)
  refine WO.op0 rfl (.free rfl) rfl (op_store (i := 1) (cs := [vF y4]) rfl rfl rfl Try.sizeOf24 rfl r29 rfl (lB rfl) rfl) ?_
  rintro _ w27 ⟨r30, m23, z6⟩
  have r31 : Row w27 w10.heap.size 0 [vF y3, vF y4, vF 0, vF 0] := Row.congr r30 rfl
  refine WO.end ?_
  refine NE.blk ?_
  refine NE.code ?_
  refine CE.region ?_
  refine WL.det (op_add (r := 2) rfl rfl (by decide)) rfl rfl rfl ?_
  refine WL.det (op_move rfl) rfl rfl rfl ?_
  refine WL.end ?_
  refine NE.round ?_
  refine RN.one ?_
  refine CE.seq ?_
  refine CE.region ?_
  refine WL.det (op_lti rfl rfl) rfl rfl rfl ?_
  refine WL.end ?_
  refine NE.code ?_
  refine CE.seq ?_
  refine CE.cond_t rfl rfl ?_
  refine CE.skip' ?_
  refine NE.code ?_
  refine CE.seq ?_
  refine CE.block ?_
  refine CE.seq ?_
  refine CE.region ?_
  refine WL.det (op_move rfl) rfl rfl rfl ?_
  refine WL.det (op_assign rfl) rfl rfl rfl ?_
  refine WL.end ?_
  refine NE.code ?_
  refine CE.seq ?_
  refine CE.region ?_
  iterate 3 refine WL.det (op_move rfl) rfl rfl rfl ?_
  refine WL.det (op_nilCheck rfl) rfl rfl rfl ?_
  refine WL.det (op_fieldAddr (off' := 9) rfl Try.runUnderlying43 rfl rfl Try.sizeOf36 rfl) rfl rfl rfl ?_
  refine WL.det (op_indexArr (off' := 13) rfl rfl Try.runUnderlying36 Try.sizeOf31 (by decide) (by decide) rfl) rfl rfl rfl ?_
  refine WL.det (op_loadA (i := 13) (cs := [vS bL2 0 nL2 cL2, vI ((iL2 : Nat) : Int)]) rfl Try.isAgg31 Try.sizeOf31 ((r28.ext m22).mod m23 (nC (lE (lL (lL q.lt sz1) lR)) nN)).rng rfl rfl rfl) rfl rfl rfl ?_
  have r32 := (((((((((((((((((((((((((((rL2.ext m1).ext md1).ext m2).mod m3 (nC (Ne.symm npL2) (nC (Ne.symm nEL2) nN))).ext md2).ext m4).mod m5 (nC (Ne.symm npL2) (nC (Ne.symm nC0L2) nN))).ext m6).mod m7 (nC (Ne.symm npL2) (nC (Ne.symm nC1L2) nN))).ext m8).ext m9).ext m10).mod m11 (nC (lE (lL (lL rL2.lt sz2) lR)) nN)).ext md3).ext m12).ext m13).mod m14 (nC (Ne.symm npL2) nN)).ext m15).mod m16 (nC (lE (lL (lL rL2.lt sz1) lR)) nN)).ext m17).mod m18 (nC (lE (lL (lL rL2.lt sz2) lR)) nN)).ext md4).ext m19).ext m20).mod m21 (nC (Ne.symm npL2) nN)).ext m22).mod m23 (nC (lE (lL (lL rL2.lt sz1) lR)) nN))
  refine WL.call (oc_call (vs := [.agg #[vS bL2 0 nL2 cL2, vI ((iL2 : Nat) : Int)]]) (cap := []) rfl rfl rfl Try.call48 (c_oldest nL2 cL2 bL2 xL2 iL2 lnL2 (by omega) (by omega) w27 r32.rng)) rfl rfl (ltb rfl) ?_
  rintro _ w28 ⟨rfl, m24⟩
  refine WL.det (op_indexArr (off' := 2) rfl rfl Try.runUnderlying25 Try.sizeOf24 (by decide) (by decide) rfl) rfl rfl rfl ?_
  have r33 := (((((((r26.ext md4).ext m19).ext m20).mod m21 (nC (lG (lL (lL q.lt sz2) lR)) nN)).ext m22).mod m23 (nC (lE (lL r13.lt lR)) nN)).ext m24)
  refine WL.op0 (op_store (i := 2) (cs := [vF (xL2.getD iL2 0)]) rfl rfl rfl Try.sizeOf24 rfl r33 rfl (lB rfl) rfl) rfl rfl ?_
  rintro _ w29 ⟨r34, m25, z7⟩
  have r35 : Row w29 w9.heap.size 0 [vF (xL0.getD iL0 0), vF (xL1.getD iL1 0), vF (xL2.getD iL2 0), vF 0] := Row.congr r34 rfl
  refine WL.end ?_
  refine NE.code ?_
  refine CE.draw (fun | 16 => some (fun _ wA uA wB => ∃ (y : Nat) (t0 : Nat), uA = vF y ∧ (Bw y (kb + 1)) ∧ (Bw t0 (kb + 1)) ∧ Row wB p 0 (splice [vS bE 0 nE cE, vI (((iE + 1) % nE : Nat) : Int), .slice none 0 0, vS bC0 0 nC0 cC0, vI (((iC0 + 1) % nC0 : Nat) : Int), vF 1056964608, vS bC1 0 nC1 cC1, vI (((iC1 + 1) % nC1 : Nat) : Int), vF 1056964608, vS bL0 0 nL0 cL0, vI ((iL0 : Nat) : Int), vS bL1 0 nL1 cL1, vI ((iL1 : Nat) : Int), vS bL2 0 nL2 cL2, vI ((iL2 : Nat) : Int), vS bL3 0 nL3 cL3, vI ((iL3 : Nat) : Int), vI 1, vF 1056964608, vF 1056964608, vF 0, vF t1, vF 0, vI 1, vF 1056964608, vF 1056964608, vF 0, vF t2, vF 0, vI 1, vF 1056964608, vF 1056964608, vF 0, vF s2, vF 0, vI 1, vF 1056964608, vF 1056964608, vF 0, vF s3, vF 0, vF g0, vF g1, vF g2, vF g3, vF 1065353216, vF 0] 29 [vI 1, vF 1056964608, vF 1056964608, vF 0, vF t0, vF 0]) ∧ Mod [p] wA wB) | _ => none) [0, 1, 2, 3, 4, 5, 6, 7, 8, 9, 10, 11, 12, 13, 14, 15, 16] [17, 18] [p] (by kernel_rfl) (by kernel_rfl) ?_
  have md5 : Mod [] w29 w29.drew := (Mod.refl _ _).drew
  generalize w29.drew = w30 at md5 ⊢
  refine DR.det (i := 0) rfl rfl (by kernel_rfl) (.free rfl) rfl rfl (fun wD mD => op_move rfl) ?_
  refine DR.det (i := 1) rfl rfl (by kernel_rfl) (.free rfl) rfl rfl (fun wD mD => op_move rfl) ?_
  refine DR.det (i := 2) rfl rfl (by kernel_rfl) (.free rfl) rfl rfl (fun wD mD => op_move rfl) ?_
  refine DR.det (i := 3) rfl rfl (by kernel_rfl) (.free rfl) rfl rfl (fun wD mD => op_nilCheck rfl) ?_
  refine DR.det (i := 4) rfl rfl (by kernel_rfl) (.free rfl) rfl rfl (fun wD mD => op_fieldAddr (off' := 17) rfl Try.runUnderlying43 rfl rfl Try.sizeOf41 rfl) ?_
  refine DR.det (i := 5) rfl rfl (by kernel_rfl) (.free rfl) rfl rfl (fun wD mD => op_indexArr (off' := 29) rfl rfl Try.runUnderlying41 Try.sizeOf40 (by decide) (by decide) rfl) ?_
  refine DR.det (i := 6) rfl rfl (by kernel_rfl) (.free rfl) rfl rfl (fun wD mD => op_move rfl) ?_
  refine DR.det (i := 7) rfl rfl (by kernel_rfl) (.free rfl) rfl rfl (fun wD mD => op_move rfl) ?_
  refine DR.det (i := 8) rfl rfl (by kernel_rfl) (.free rfl) rfl rfl (fun wD mD => op_nilCheck rfl) ?_
  refine DR.det (i := 9) rfl rfl (by kernel_rfl) (.free rfl) rfl rfl (fun wD mD => op_fieldAddr (off' := 41) rfl Try.runUnderlying43 rfl rfl Try.sizeOf25 rfl) ?_
  refine DR.det (i := 10) rfl rfl (by kernel_rfl) (.free rfl) rfl rfl (fun wD mD => op_indexArr (off' := 43) rfl rfl Try.runUnderlying25 Try.sizeOf24 (by decide) (by decide) rfl) ?_
  refine DR.det (i := 12) rfl rfl (by kernel_rfl) (.free rfl) rfl rfl (fun wD mD => op_move rfl) ?_
  refine DR.det (i := 13) rfl rfl (by kernel_rfl) (.free rfl) rfl rfl (fun wD mD => op_indexArr (off' := 2) rfl rfl Try.runUnderlying25 Try.sizeOf24 (by decide) (by decide) rfl) ?_
  refine DR.det (i := 14) rfl rfl (by kernel_rfl) (.free rfl) rfl rfl (fun wD mD => op_load1 (i := 2) rfl Try.isAgg24 ((r35.ext md5).mod mD (nC (lG (lL (lL q.lt sz2) lR)) nN)).rng rfl rfl) ?_
  refine DR.cut [11, 15] 2 1 rfl (by kernel_rfl) ?_
  refine DR.det (i := 11) rfl rfl (by kernel_rfl) (.free rfl) rfl rfl (fun wD mD => op_load1 (i := 43) rfl Try.isAgg24 ((((((r28.ext m22).mod m23 (nC (lE (lL (lL q.lt sz1) lR)) nN)).ext m24).mod m25 (nC (lE (lL (lL q.lt sz2) lR)) nN)).ext md5).ext mD).rng rfl rfl) ?_
  refine DR.op (i := 15) (FOut .f32 (fop .mul .f32 g2 (xL2.getD iL2 0))) rfl rfl (by kernel_rfl) (.free rfl) rfl (ltb rfl) (fun wD mD => op_farith (e := (fop .mul .f32 g2 (xL2.getD iL2 0))) (.inr (.inr (.inl rfl))) rfl rfl rfl rfl rfl) ?_
  rintro _ ⟨f4, rfl, hf4, lf4⟩
  refine DR.join (by kernel_rfl) ?_
  intro w31 m26 _
  refine ⟨((Mod.refl [p] w30).nt m26), ?_⟩
  refine DR.rebase ?_
  refine DR.one (i := 16) rfl rfl (by kernel_rfl) (.free rfl) rfl (ltb rfl) (vs := [.func (.func 49) #[] #[], vP p 29, vF f4]) rfl ?_
  intro w32 m27
  refine ⟨oc_call (vs := [vP p 29, vF f4]) (cap := []) rfl rfl rfl Try.call49 (c_pole s2 p 29 [vS bE 0 nE cE, vI (((iE + 1) % nE : Nat) : Int), .slice none 0 0, vS bC0 0 nC0 cC0, vI (((iC0 + 1) % nC0 : Nat) : Int), vF 1056964608, vS bC1 0 nC1 cC1, vI (((iC1 + 1) % nC1 : Nat) : Int), vF 1056964608, vS bL0 0 nL0 cL0, vI ((iL0 : Nat) : Int), vS bL1 0 nL1 cL1, vI ((iL1 : Nat) : Int), vS bL2 0 nL2 cL2, vI ((iL2 : Nat) : Int), vS bL3 0 nL3 cL3, vI ((iL3 : Nat) : Int), vI 1, vF 1056964608, vF 1056964608, vF 0, vF t1, vF 0, vI 1, vF 1056964608, vF 1056964608, vF 0, vF t2, vF 0, vI 1, vF 1056964608, vF 1056964608, vF 0, vF s2, vF 0, vI 1, vF 1056964608, vF 1056964608, vF 0, vF s3, vF 0, vF g0, vF g1, vF g2, vF g3, vF 1065353216, vF 0] f4 kb (lB rfl) (by assumption) (by first | assumption | exact Bw.gainc (by assumption) (by assumption) (LBw.get (by assumption) _) (by omega)) (by omega) w32 (Row.congr (((((((r28.ext m22).mod m23 (nC (lE (lL (lL q.lt sz1) lR)) nN)).ext m24).mod m25 (nC (lE (lL (lL q.lt sz2) lR)) nN)).ext md5).ext m26).ext m27) rfl)), ?_⟩
  rintro _ w33 ⟨y5, t3, rfl, h12, h13, r36, m28⟩
  have r37 : Row w33 p 0 [vS bE 0 nE cE, vI (((iE + 1) % nE : Nat) : Int), .slice none 0 0, vS bC0 0 nC0 cC0, vI (((iC0 + 1) % nC0 : Nat) : Int), vF 1056964608, vS bC1 0 nC1 cC1, vI (((iC1 + 1) % nC1 : Nat) : Int), vF 1056964608, vS bL0 0 nL0 cL0, vI ((iL0 : Nat) : Int), vS bL1 0 nL1 cL1, vI ((iL1 : Nat) : Int), vS bL2 0 nL2 cL2, vI ((iL2 : Nat) : Int), vS bL3 0 nL3 cL3, vI ((iL3 : Nat) : Int), vI 1, vF 1056964608, vF 1056964608, vF 0, vF t1, vF 0, vI 1, vF 1056964608, vF 1056964608, vF 0, vF t2, vF 0, vI 1, vF 1056964608, vF 1056964608, vF 0, vF t3, vF 0, vI 1, vF 1056964608, vF 1056964608, vF 0, vF s3, vF 0, vF g0, vF g1, vF g2, vF g3, vF 1065353216, vF 0] := r36
  refine ⟨(((Mod.refl [p] w31).nt m27).then m28 ((aC (.inl (by simp)) aN))), ?_⟩
  refine DR.done rfl ?_
  intro w34 m29
  refine WO.det (op_indexArr (off' := 2) rfl rfl Try.runUnderlying25 Try.sizeOf24 (by decide) (by decide) rfl) rfl (.free rfl) rfl rfl ?_
  have r38 := (((((((r31.ext m24).mod m25 (nC (lG (lL r13.lt lR)) nN)).ext md5).ext m26).ext m27).mod m28 (nC (lG (lL (lL q.lt sz1) lR)) nN)).ext m29)
  refine WO.op0 rfl (.free rfl) rfl (op_store (i := 2) (cs := [vF y5]) rfl rfl rfl Try.sizeOf24 rfl r38 rfl (lB rfl) rfl) ?_
  rintro _ w35 ⟨r39, m30, z8⟩
  have r40 : Row w35 w10.heap.size 0 [vF y3, vF y4, vF y5, vF 0] := Row.congr r39 rfl
  refine WO.end ?_
  refine NE.blk ?_
  refine NE.code ?_
  refine CE.region ?_
  refine WL.det (op_add (r := 3) rfl rfl (by decide)) rfl rfl rfl ?_
  refine WL.det (op_move rfl) rfl rfl rfl ?_
  refine WL.end ?_
  refine NE.round ?_
  refine RN.one ?_
  refine CE.seq ?_
  refine CE.region ?_
  refine WL.det (op_lti rfl rfl) rfl rfl rfl ?_
  refine WL.end ?_
  refine NE.code ?_
  refine CE.seq ?_
  refine CE.cond_t rfl rfl ?_
  refine CE.skip' ?_
  refine NE.code ?_
  refine CE.seq ?_
  refine CE.block ?_
  refine CE.seq ?_
  refine CE.region ?_
  refine WL.det (op_move rfl) rfl rfl rfl ?_
  refine WL.det (op_assign rfl) rfl rfl rfl ?_
  refine WL.end ?_
  refine NE.code ?_
  refine CE.seq ?_
  refine CE.region ?_
  iterate 3 refine WL.det (op_move rfl) rfl rfl rfl ?_
  refine WL.det (op_nilCheck rfl) rfl rfl rfl ?_
  refine WL.det (op_fieldAddr (off' := 9) rfl Try.runUnderlying43 rfl rfl Try.sizeOf36 rfl) rfl rfl rfl ?_
  refine WL.det (op_indexArr (off' := 15) rfl rfl Try.runUnderlying36 Try.sizeOf31 (by decide) (by decide) rfl) rfl rfl rfl ?_
  refine WL.det (op_loadA (i := 15) (cs := [vS bL3 0 nL3 cL3, vI ((iL3 : Nat) : Int)]) rfl Try.isAgg31 Try.sizeOf31 ((r37.ext m29).mod m30 (nC (lE (lL (lL q.lt sz1) lR)) nN)).rng rfl rfl rfl) rfl rfl rfl ?_
  have r41 := (((((((((((((((((((((((((((((((((((rL3.ext m1).ext md1).ext m2).mod m3 (nC (Ne.symm npL3) (nC (Ne.symm nEL3) nN))).ext md2).ext m4).mod m5 (nC (Ne.symm npL3) (nC (Ne.symm nC0L3) nN))).ext m6).mod m7 (nC (Ne.symm npL3) (nC (Ne.symm nC1L3) nN))).ext m8).ext m9).ext m10).mod m11 (nC (lE (lL (lL rL3.lt sz2) lR)) nN)).ext md3).ext m12).ext m13).mod m14 (nC (Ne.symm npL3) nN)).ext m15).mod m16 (nC (lE (lL (lL rL3.lt sz1) lR)) nN)).ext m17).mod m18 (nC (lE (lL (lL rL3.lt sz2) lR)) nN)).ext md4).ext m19).ext m20).mod m21 (nC (Ne.symm npL3) nN)).ext m22).mod m23 (nC (lE (lL (lL rL3.lt sz1) lR)) nN)).ext m24).mod m25 (nC (lE (lL (lL rL3.lt sz2) lR)) nN)).ext md5).ext m26).ext m27).mod m28 (nC (Ne.symm npL3) nN)).ext m29).mod m30 (nC (lE (lL (lL rL3.lt sz1) lR)) nN))
  refine WL.call (oc_call (vs := [.agg #[vS bL3 0 nL3 cL3, vI ((iL3 : Nat) : Int)]]) (cap := []) rfl rfl rfl Try.call48 (c_oldest nL3 cL3 bL3 xL3 iL3 lnL3 (by omega) (by omega) w35 r41.rng)) rfl rfl (ltb rfl) ?_
  rintro _ w36 ⟨rfl, m31⟩
  refine WL.det (op_indexArr (off' := 3) rfl rfl Try.runUnderlying25 Try.sizeOf24 (by decide) (by decide) rfl) rfl rfl rfl ?_
  have r42 := (((((((r35.ext md5).ext m26).ext m27).mod m28 (nC (lG (lL (lL q.lt sz2) lR)) nN)).ext m29).mod m30 (nC (lE (lL r13.lt lR)) nN)).ext m31)
  refine WL.op0 (op_store (i := 3) (cs := [vF (xL3.getD iL3 0)]) rfl rfl rfl Try.sizeOf24 rfl r42 rfl (lB rfl) rfl) rfl rfl ?_
  rintro _ w37 ⟨r43, m32, z9⟩
  have r44 : Row w37 w9.heap.size 0 [vF (xL0.getD iL0 0), vF (xL1.getD iL1 0), vF (xL2.getD iL2 0), vF (xL3.getD iL3 0)] := Row.congr r43 rfl
  refine WL.end ?_
  refine NE.code ?_
  refine CE.draw (fun | 16 => some (fun _ wA uA wB => ∃ (y : Nat) (t0 : Nat), uA = vF y ∧ (Bw y (kb + 1)) ∧ (Bw t0 (kb + 1)) ∧ Row wB p 0 (splice [vS bE 0 nE cE, vI (((iE + 1) % nE : Nat) : Int), .slice none 0 0, vS bC0 0 nC0 cC0, vI (((iC0 + 1) % nC0 : Nat) : Int), vF 1056964608, vS bC1 0 nC1 cC1, vI (((iC1 + 1) % nC1 : Nat) : Int), vF 1056964608, vS bL0 0 nL0 cL0, vI ((iL0 : Nat) : Int), vS bL1 0 nL1 cL1, vI ((iL1 : Nat) : Int), vS bL2 0 nL2 cL2, vI ((iL2 : Nat) : Int), vS bL3 0 nL3 cL3, vI ((iL3 : Nat) : Int), vI 1, vF 1056964608, vF 1056964608, vF 0, vF t1, vF 0, vI 1, vF 1056964608, vF 1056964608, vF 0, vF t2, vF 0, vI 1, vF 1056964608, vF 1056964608, vF 0, vF t3, vF 0, vI 1, vF 1056964608, vF 1056964608, vF 0, vF s3, vF 0, vF g0, vF g1, vF g2, vF g3, vF 1065353216, vF 0] 35 [vI 1, vF 1056964608, vF 1056964608, vF 0, vF t0, vF 0]) ∧ Mod [p] wA wB) | _ => none) [0, 1, 2, 3, 4, 5, 6, 7, 8, 9, 10, 11, 12, 13, 14, 15, 16] [17, 18] [p] (by kernel_rfl) (by kernel_rfl) ?_
  have md6 : Mod [] w37 w37.drew := (Mod.refl _ _).drew
  generalize w37.drew = w38 at md6 ⊢
  refine DR.det (i := 0) rfl rfl (by kernel_rfl) (.free rfl) rfl rfl (fun wD mD => op_move rfl) ?_
  refine DR.det (i := 1) rfl rfl (by kernel_rfl) (.free rfl) rfl rfl (fun wD mD => op_move rfl) ?_
  refine DR.det (i := 2) rfl rfl (by kernel_rfl) (.free rfl) rfl rfl (fun wD mD => op_move rfl) ?_
  refine DR.det (i := 3) rfl rfl (by kernel_rfl) (.free rfl) rfl rfl (fun wD mD => op_nilCheck rfl) ?_
  refine DR.det (i := 4) rfl rfl (by kernel_rfl) (.free rfl) rfl rfl (fun wD mD => op_fieldAddr (off' := 17) rfl Try.runUnderlying43 rfl rfl Try.sizeOf41 rfl) ?_
  refine DR.det (i := 5) rfl rfl (by kernel_rfl) (.free rfl) rfl rfl (fun wD mD => op_indexArr (off' := 35) rfl rfl Try.runUnderlying41 Try.sizeOf40 (by decide) (by decide) rfl) ?_
  refine DR.det (i := 6) rfl rfl (by kernel_rfl) (.free rfl) rfl rfl (fun wD mD => op_move rfl) ?_
  refine DR.det (i := 7) rfl rfl (by kernel_rfl) (.free rfl) rfl rfl (fun wD mD => op_move rfl) ?_
  refine DR.det (i := 8) rfl rfl (by kernel_rfl) (.free rfl) rfl rfl (fun wD mD => op_nilCheck rfl) ?_
  refine DR.det (i := 9) rfl rfl (by kernel_rfl) (.free rfl) rfl rfl (fun wD mD => op_fieldAddr (off' := 41) rfl Try.runUnderlying43 rfl rfl Try.sizeOf25 rfl) ?_
  refine DR.det (i := 10) rfl rfl (by kernel_rfl) (.free rfl) rfl rfl (fun wD mD => op_indexArr (off' := 44) rfl rfl Try.runUnderlying25 Try.sizeOf24 (by decide) (by decide) rfl) ?_
  refine DR.det (i := 12) rfl rfl (by kernel_rfl) (.free rfl) rfl rfl (fun wD mD => op_move rfl) ?_
  refine DR.det (i := 13) rfl rfl (by kernel_rfl) (.free rfl) rfl rfl (fun wD mD => op_indexArr (off' := 3) rfl rfl Try.runUnderlying25 Try.sizeOf24 (by decide) (by decide) rfl) ?_
  refine DR.det (i := 14) rfl rfl (by kernel_rfl) (.free rfl) rfl rfl (fun wD mD => op_load1 (i := 3) rfl Try.isAgg24 ((r44.ext md6).mod mD (nC (lG (lL (lL q.lt sz2) lR)) nN)).rng rfl rfl) ?_
  refine DR.cut [11, 15] 2 1 rfl (by kernel_rfl) ?_
  refine DR.det (i := 11) rfl rfl (by kernel_rfl) (.free rfl) rfl rfl (fun wD mD => op_load1 (i := 44) rfl Try.isAgg24 ((((((r37.ext m29).mod m30 (nC (lE (lL (lL q.lt sz1) lR)) nN)).ext m31).mod m32 (nC (lE (lL (lL q.lt sz2) lR)) nN)).ext md6).ext mD).rng rfl rfl) ?_
  refine DR.op (i := 15) (FOut .f32 (fop .mul .f32 g3 (xL3.getD iL3 0))) rfl rfl (by kernel_rfl) (.free rfl) rfl (ltb rfl) (fun wD mD => op_farith (e := (fop .mul .f32 g3 (xL3.getD iL3 0))) (.inr (.inr (.inl rfl))) rfl rfl rfl rfl rfl) ?_
  rintro _ ⟨f5, rfl, hf5, lf5⟩
  refine DR.join (by kernel_rfl) ?_
  intro w39 m33 _
  refine ⟨((Mod.refl [p] w38).nt m33), ?_⟩
  refine DR.rebase ?_
  refine DR.one (i := 16) rfl rfl (by kernel_rfl) (.free rfl) rfl (ltb rfl) (vs := [.func (.func 49) #[] #[], vP p 35, vF f5]) rfl ?_
  intro w40 m34
  refine ⟨oc_call (vs := [vP p 35, vF f5]) (cap := []) rfl rfl rfl Try.call49 (c_pole s3 p 35 [vS bE 0 nE cE, vI (((iE + 1) % nE : Nat) : Int), .slice none 0 0, vS bC0 0 nC0 cC0, vI (((iC0 + 1) % nC0 : Nat) : Int), vF 1056964608, vS bC1 0 nC1 cC1, vI (((iC1 + 1) % nC1 : Nat) : Int), vF 1056964608, vS bL0 0 nL0 cL0, vI ((iL0 : Nat) : Int), vS bL1 0 nL1 cL1, vI ((iL1 : Nat) : Int), vS bL2 0 nL2 cL2, vI ((iL2 : Nat) : Int), vS bL3 0 nL3 cL3, vI ((iL3 : Nat) : Int), vI 1, vF 1056964608, vF 1056964608, vF 0, vF t1, vF 0, vI 1, vF 1056964608, vF 1056964608, vF 0, vF t2, vF 0, vI 1, vF 1056964608, vF 1056964608, vF 0, vF t3, vF 0, vI 1, vF 1056964608, vF 1056964608, vF 0, vF s3, vF 0, vF g0, vF g1, vF g2, vF g3, vF 1065353216, vF 0] f5 kb (lB rfl) (by assumption) (by first | assumption | exact Bw.gainc (by assumption) (by assumption) (LBw.get (by assumption) _) (by omega)) (by omega) w40 (Row.congr (((((((r37.ext m29).mod m30 (nC (lE (lL (lL q.lt sz1) lR)) nN)).ext m31).mod m32 (nC (lE (lL (lL q.lt sz2) lR)) nN)).ext md6).ext m33).ext m34) rfl)), ?_⟩
  rintro _ w41 ⟨y6, t4, rfl, h14, h15, r45, m35⟩
  have r46 : Row w41 p 0 [vS bE 0 nE cE, vI (((iE + 1) % nE : Nat) : Int), .slice none 0 0, vS bC0 0 nC0 cC0, vI (((iC0 + 1) % nC0 : Nat) : Int), vF 1056964608, vS bC1 0 nC1 cC1, vI (((iC1 + 1) % nC1 : Nat) : Int), vF 1056964608, vS bL0 0 nL0 cL0, vI ((iL0 : Nat) : Int), vS bL1 0 nL1 cL1, vI ((iL1 : Nat) : Int), vS bL2 0 nL2 cL2, vI ((iL2 : Nat) : Int), vS bL3 0 nL3 cL3, vI ((iL3 : Nat) : Int), vI 1, vF 1056964608, vF 1056964608, vF 0, vF t1, vF 0, vI 1, vF 1056964608, vF 1056964608, vF 0, vF t2, vF 0, vI 1, vF 1056964608, vF 1056964608, vF 0, vF t3, vF 0, vI 1, vF 1056964608, vF 1056964608, vF 0, vF t4, vF 0, vF g0, vF g1, vF g2, vF g3, vF 1065353216, vF 0] := r45
  refine ⟨(((Mod.refl [p] w39).nt m34).then m35 ((aC (.inl (by simp)) aN))), ?_⟩
  refine DR.done rfl ?_
  intro w42 m36
  refine WO.det (op_indexArr (off' := 3) rfl rfl Try.runUnderlying25 Try.sizeOf24 (by decide) (by decide) rfl) rfl (.free rfl) rfl rfl ?_
  have r47 := (((((((r40.ext m31).mod m32 (nC (lG (lL r13.lt lR)) nN)).ext md6).ext m33).ext m34).mod m35 (nC (lG (lL (lL q.lt sz1) lR)) nN)).ext m36)
  refine WO.op0 rfl (.free rfl) rfl (op_store (i := 3) (cs := [vF y6]) rfl rfl rfl Try.sizeOf24 rfl r47 rfl (lB rfl) rfl) ?_
  rintro _ w43 ⟨r48, m37, z10⟩
  have r49 : Row w43 w10.heap.size 0 [vF y3, vF y4, vF y5, vF y6] := Row.congr r48 rfl
  refine WO.end ?_
  refine NE.blk ?_
  refine NE.code ?_
  refine CE.region ?_
  refine WL.det (op_add (r := 4) rfl rfl (by decide)) rfl rfl rfl ?_
  refine WL.det (op_move rfl) rfl rfl rfl ?_
  refine WL.end ?_
  refine NE.round ?_
  refine RN.one ?_
  refine CE.seq ?_
  refine CE.region ?_
  refine WL.det (op_lti rfl rfl) rfl rfl rfl ?_
  refine WL.end ?_
  refine NE.code ?_
  refine CE.seq ?_
  refine CE.cond_f rfl rfl ?_
  refine CE.exit' ?_
  iterate 2 refine XE.exit_then ?_
  refine XE.exit_here ?_
  refine NE.code ?_
  iterate 2 refine CE.seq ?_
  refine CE.region ?_
  refine WL.det (op_loadA (i := 0) (cs := [vF y3, vF y4, vF y5, vF y6]) rfl Try.isAgg25 Try.sizeOf25 r49.rng rfl rfl rfl) rfl rfl rfl ?_
  refine WL.call (oc_call (vs := [.agg #[vF y3, vF y4, vF y5, vF y6]]) (cap := []) rfl rfl rfl Try.call6 (c_mixBd y3 y4 y5 y6 kb (by assumption) (by assumption) (by assumption) (by assumption) (by omega) w43)) rfl rfl (ltb rfl) ?_
  rintro _ w44 ⟨z11, z12, z13, z14, rfl, h16, h17, h18, h19, m38⟩
  refine WL.det (op_move rfl) rfl rfl rfl ?_
  refine WL.end ?_
  refine NE.code ?_
  refine CE.block ?_
  refine CE.rounds 5 ?_
  refine RN.one ?_
  refine CE.seq ?_
  refine CE.region ?_
  refine WL.det (op_lti rfl rfl) rfl rfl rfl ?_
  refine WL.end ?_
  refine NE.code ?_
  refine CE.seq ?_
  refine CE.cond_t rfl rfl ?_
  refine CE.skip' ?_
  refine NE.code ?_
  refine CE.seq ?_
  refine CE.block ?_
  refine CE.seq ?_
  refine CE.region ?_
  refine WL.det (op_move rfl) rfl rfl rfl ?_
  refine WL.det (op_idxA1 rfl rfl Try.runUnderlying25 Try.sizeOf24 Try.isAgg24 (by decide) (by decide) rfl) rfl rfl rfl ?_
  iterate 2 refine WL.det (op_assign rfl) rfl rfl rfl ?_
  refine WL.end ?_
  refine NE.code ?_
  refine CE.draw (fun | 8 => some (fun _ wA uA wB => uA = vF (keptF (fop .add .f32 y2 z11)) ∧ (keptF (fop .add .f32 y2 z11) < wid .f32) ∧ Mod [] wA wB) | _ => none) [0, 1, 2, 3, 4, 5, 6, 7, 8] [9] [] (by kernel_rfl) (by kernel_rfl) ?_
  have md7 : Mod [] w44 w44.drew := (Mod.refl _ _).drew
  generalize w44.drew = w45 at md7 ⊢
  refine DR.det (i := 0) rfl rfl (by kernel_rfl) (.free rfl) rfl rfl (fun wD mD => op_move rfl) ?_
  refine DR.det (i := 1) rfl rfl (by kernel_rfl) (.free rfl) rfl rfl (fun wD mD => op_move rfl) ?_
  refine DR.det (i := 2) rfl rfl (by kernel_rfl) (.free rfl) rfl rfl (fun wD mD => op_nilCheck rfl) ?_
  refine DR.det (i := 3) rfl rfl (by kernel_rfl) (.free rfl) rfl rfl (fun wD mD => op_fieldAddr (off' := 9) rfl Try.runUnderlying43 rfl rfl Try.sizeOf36 rfl) ?_
  refine DR.det (i := 4) rfl rfl (by kernel_rfl) (.free rfl) rfl rfl (fun wD mD => op_indexArr (off' := 9) rfl rfl Try.runUnderlying36 Try.sizeOf31 (by decide) (by decide) rfl) ?_
  refine DR.det (i := 5) rfl rfl (by kernel_rfl) (.free rfl) rfl rfl (fun wD mD => op_move rfl) ?_
  refine DR.det (i := 6) rfl rfl (by kernel_rfl) (.free rfl) rfl rfl (fun wD mD => op_move rfl) ?_
  refine DR.op (i := 7) (FOut .f32 (fop .add .f32 y2 z11)) rfl rfl (by kernel_rfl) (.free rfl) rfl (ltb rfl) (fun wD mD => op_farith (e := (fop .add .f32 y2 z11)) (.inl rfl) rfl rfl rfl rfl rfl) ?_
  rintro _ ⟨f6, rfl, hf6, lf6⟩
  refine DR.call (i := 8) (fun uA => uA = vF (keptF (fop .add .f32 y2 z11)) ∧ (keptF (fop .add .f32 y2 z11) < wid .f32)) rfl rfl (by kernel_rfl) (.free rfl) rfl (ltb rfl) ⟨_, rfl, keptF_wid hf6 lf6⟩ (vs := [.func (.func 46) #[] #[], vF f6]) rfl (fun wD mD => oc_call (vs := [vF f6]) (cap := []) rfl rfl rfl Try.call46 (c_kept f6 (fop .add .f32 y2 z11) hf6 lf6 wD)) ?_ ?_
  · rintro w1 _ w2 m1 ⟨rfl, p0, m2⟩; exact ⟨⟨rfl, p0⟩, m2⟩
  rintro _ ⟨rfl, h20⟩
  refine DR.done rfl ?_
  intro w46 m39
  have r50 := (((((r46.ext m36).mod m37 (nC (lE (lL (lL q.lt sz1) lR)) nN)).ext m38).ext md7).ext m39)
  have r51 := (((((((((((((((((((((((((((((((((((r15.ext m10).mod m11 (nC (lE (lL (lL rL0.lt sz2) lR)) nN)).ext md3).ext m12).ext m13).mod m14 (nC (Ne.symm npL0) nN)).ext m15).mod m16 (nC (lE (lL (lL rL0.lt sz1) lR)) nN)).ext m17).mod m18 (nC (lE (lL (lL rL0.lt sz2) lR)) nN)).ext md4).ext m19).ext m20).mod m21 (nC (Ne.symm npL0) nN)).ext m22).mod m23 (nC (lE (lL (lL rL0.lt sz1) lR)) nN)).ext m24).mod m25 (nC (lE (lL (lL rL0.lt sz2) lR)) nN)).ext md5).ext m26).ext m27).mod m28 (nC (Ne.symm npL0) nN)).ext m29).mod m30 (nC (lE (lL (lL rL0.lt sz1) lR)) nN)).ext m31).mod m32 (nC (lE (lL (lL rL0.lt sz2) lR)) nN)).ext md6).ext m33).ext m34).mod m35 (nC (Ne.symm npL0) nN)).ext m36).mod m37 (nC (lE (lL (lL rL0.lt sz1) lR)) nN)).ext m38).ext md7).ext m39)
  refine WO.call rfl (.free rfl) rfl (ltb rfl) (oc_call (vs := [vP p 9, vF (keptF (fop .add .f32 y2 z11))]) (cap := []) rfl rfl rfl Try.call45 (c_push nL0 cL0 bL0 xL0 iL0 p 9 [vS bE 0 nE cE, vI (((iE + 1) % nE : Nat) : Int), .slice none 0 0, vS bC0 0 nC0 cC0, vI (((iC0 + 1) % nC0 : Nat) : Int), vF 1056964608, vS bC1 0 nC1 cC1, vI (((iC1 + 1) % nC1 : Nat) : Int), vF 1056964608, vS bL0 0 nL0 cL0, vI ((iL0 : Nat) : Int), vS bL1 0 nL1 cL1, vI ((iL1 : Nat) : Int), vS bL2 0 nL2 cL2, vI ((iL2 : Nat) : Int), vS bL3 0 nL3 cL3, vI ((iL3 : Nat) : Int), vI 1, vF 1056964608, vF 1056964608, vF 0, vF t1, vF 0, vI 1, vF 1056964608, vF 1056964608, vF 0, vF t2, vF 0, vI 1, vF 1056964608, vF 1056964608, vF 0, vF t3, vF 0, vI 1, vF 1056964608, vF 1056964608, vF 0, vF t4, vF 0, vF g0, vF g1, vF g2, vF g3, vF 1065353216, vF 0] (keptF (fop .add .f32 y2 z11)) lnL0 (by omega) (by omega) (lB rfl) w46 (Row.congr r50 rfl) r51 npL0)) ?_
  rintro _ w47 ⟨rfl, r52, r53, m40⟩
  have r54 : Row w47 p 0 [vS bE 0 nE cE, vI (((iE + 1) % nE : Nat) : Int), .slice none 0 0, vS bC0 0 nC0 cC0, vI (((iC0 + 1) % nC0 : Nat) : Int), vF 1056964608, vS bC1 0 nC1 cC1, vI (((iC1 + 1) % nC1 : Nat) : Int), vF 1056964608, vS bL0 0 nL0 cL0, vI (((iL0 + 1) % nL0 : Nat) : Int), vS bL1 0 nL1 cL1, vI ((iL1 : Nat) : Int), vS bL2 0 nL2 cL2, vI ((iL2 : Nat) : Int), vS bL3 0 nL3 cL3, vI ((iL3 : Nat) : Int), vI 1, vF 1056964608, vF 1056964608, vF 0, vF t1, vF 0, vI 1, vF 1056964608, vF 1056964608, vF 0, vF t2, vF 0, vI 1, vF 1056964608, vF 1056964608, vF 0, vF t3, vF 0, vI 1, vF 1056964608, vF 1056964608, vF 0, vF t4, vF 0, vF g0, vF g1, vF g2, vF g3, vF 1065353216, vF 0] := r52
  refine WO.end ?_
  refine NE.blk ?_
  refine NE.code ?_
  refine CE.region ?_
  refine WL.det (op_add (r := 1) rfl rfl (by decide)) rfl rfl rfl ?_
  refine WL.det (op_move rfl) rfl rfl rfl ?_
  refine WL.end ?_
  refine NE.round ?_
  refine RN.one ?_
  refine CE.seq ?_
  refine CE.region ?_
  refine WL.det (op_lti rfl rfl) rfl rfl rfl ?_
  refine WL.end ?_
  refine NE.code ?_
  refine CE.seq ?_
  refine CE.cond_t rfl rfl ?_
  refine CE.skip' ?_
  refine NE.code ?_
  refine CE.seq ?_
  refine CE.block ?_
  refine CE.seq ?_
  refine CE.region ?_
  refine WL.det (op_move rfl) rfl rfl rfl ?_
  refine WL.det (op_idxA1 rfl rfl Try.runUnderlying25 Try.sizeOf24 Try.isAgg24 (by decide) (by decide) rfl) rfl rfl rfl ?_
  iterate 2 refine WL.det (op_assign rfl) rfl rfl rfl ?_
  refine WL.end ?_
  refine NE.code ?_
  refine CE.draw (fun | 8 => some (fun _ wA uA wB => uA = vF (keptF (fop .add .f32 y2 z12)) ∧ (keptF (fop .add .f32 y2 z12) < wid .f32) ∧ Mod [] wA wB) | _ => none) [0, 1, 2, 3, 4, 5, 6, 7, 8] [9] [] (by kernel_rfl) (by kernel_rfl) ?_
  have md8 : Mod [] w47 w47.drew := (Mod.refl _ _).drew
  generalize w47.drew = w48 at md8 ⊢
  refine DR.det (i := 0) rfl rfl (by kernel_rfl) (.free rfl) rfl rfl (fun wD mD => op_move rfl) ?_
  refine DR.det (i := 1) rfl rfl (by kernel_rfl) (.free rfl) rfl rfl (fun wD mD => op_move rfl) ?_
  refine DR.det (i := 2) rfl rfl (by kernel_rfl) (.free rfl) rfl rfl (fun wD mD => op_nilCheck rfl) ?_
  refine DR.det (i := 3) rfl rfl (by kernel_rfl) (.free rfl) rfl rfl (fun wD mD => op_fieldAddr (off' := 9) rfl Try.runUnderlying43 rfl rfl Try.sizeOf36 rfl) ?_
  refine DR.det (i := 4) rfl rfl (by kernel_rfl) (.free rfl) rfl rfl (fun wD mD => op_indexArr (off' := 11) rfl rfl Try.runUnderlying36 Try.sizeOf31 (by decide) (by decide) rfl) ?_
  refine DR.det (i := 5) rfl rfl (by kernel_rfl) (.free rfl) rfl rfl (fun wD mD => op_move rfl) ?_
  refine DR.det (i := 6) rfl rfl (by kernel_rfl) (.free rfl) rfl rfl (fun wD mD => op_move rfl) ?_
  refine DR.op (i := 7) (FOut .f32 (fop .add .f32 y2 z12)) rfl rfl (by kernel_rfl) (.free rfl) rfl (ltb rfl) (fun wD mD => op_farith (e := (fop .add .f32 y2 z12)) (.inl rfl) rfl rfl rfl rfl rfl) ?_
  rintro _ ⟨f7, rfl, hf7, lf7⟩
  refine DR.call (i := 8) (fun uA => uA = vF (keptF (fop .add .f32 y2 z12)) ∧ (keptF (fop .add .f32 y2 z12) < wid .f32)) rfl rfl (by kernel_rfl) (.free rfl) rfl (ltb rfl) ⟨_, rfl, keptF_wid hf7 lf7⟩ (vs := [.func (.func 46) #[] #[], vF f7]) rfl (fun wD mD => oc_call (vs := [vF f7]) (cap := []) rfl rfl rfl Try.call46 (c_kept f7 (fop .add .f32 y2 z12) hf7 lf7 wD)) ?_ ?_
  · rintro w1 _ w2 m1 ⟨rfl, p0, m2⟩; exact ⟨⟨rfl, p0⟩, m2⟩
  rintro _ ⟨rfl, h21⟩
  refine DR.done rfl ?_
  intro w49 m41
  have r55 := ((((((((((((((((((((((((((((((r23.ext m17).mod m18 (nC (lE (lL (lL rL1.lt sz2) lR)) nN)).ext md4).ext m19).ext m20).mod m21 (nC (Ne.symm npL1) nN)).ext m22).mod m23 (nC (lE (lL (lL rL1.lt sz1) lR)) nN)).ext m24).mod m25 (nC (lE (lL (lL rL1.lt sz2) lR)) nN)).ext md5).ext m26).ext m27).mod m28 (nC (Ne.symm npL1) nN)).ext m29).mod m30 (nC (lE (lL (lL rL1.lt sz1) lR)) nN)).ext m31).mod m32 (nC (lE (lL (lL rL1.lt sz2) lR)) nN)).ext md6).ext m33).ext m34).mod m35 (nC (Ne.symm npL1) nN)).ext m36).mod m37 (nC (lE (lL (lL rL1.lt sz1) lR)) nN)).ext m38).ext md7).ext m39).mod m40 (nC (Ne.symm npL1) (nC (Ne.symm nL0L1) nN))).ext md8).ext m41)
  refine WO.call rfl (.free rfl) rfl (ltb rfl) (oc_call (vs := [vP p 11, vF (keptF (fop .add .f32 y2 z12))]) (cap := []) rfl rfl rfl Try.call45 (c_push nL1 cL1 bL1 xL1 iL1 p 11 [vS bE 0 nE cE, vI (((iE + 1) % nE : Nat) : Int), .slice none 0 0, vS bC0 0 nC0 cC0, vI (((iC0 + 1) % nC0 : Nat) : Int), vF 1056964608, vS bC1 0 nC1 cC1, vI (((iC1 + 1) % nC1 : Nat) : Int), vF 1056964608, vS bL0 0 nL0 cL0, vI (((iL0 + 1) % nL0 : Nat) : Int), vS bL1 0 nL1 cL1, vI ((iL1 : Nat) : Int), vS bL2 0 nL2 cL2, vI ((iL2 : Nat) : Int), vS bL3 0 nL3 cL3, vI ((iL3 : Nat) : Int), vI 1, vF 1056964608, vF 1056964608, vF 0, vF t1, vF 0, vI 1, vF 1056964608, vF 1056964608, vF 0, vF t2, vF 0, vI 1, vF 1056964608, vF 1056964608, vF 0, vF t3, vF 0, vI 1, vF 1056964608, vF 1056964608, vF 0, vF t4, vF 0, vF g0, vF g1, vF g2, vF g3, vF 1065353216, vF 0] (keptF (fop .add .f32 y2 z12)) lnL1 (by omega) (by omega) (lB rfl) w49 (Row.congr ((r54.ext md8).ext m41) rfl) r55 npL1)) ?_
  rintro _ w50 ⟨rfl, r56, r57, m42⟩
  have r58 : Row w50 p 0 [vS bE 0 nE cE, vI (((iE + 1) % nE : Nat) : Int), .slice none 0 0, vS bC0 0 nC0 cC0, vI (((iC0 + 1) % nC0 : Nat) : Int), vF 1056964608, vS bC1 0 nC1 cC1, vI (((iC1 + 1) % nC1 : Nat) : Int), vF 1056964608, vS bL0 0 nL0 cL0, vI (((iL0 + 1) % nL0 : Nat) : Int), vS bL1 0 nL1 cL1, vI (((iL1 + 1) % nL1 : Nat) : Int), vS bL2 0 nL2 cL2, vI ((iL2 : Nat) : Int), vS bL3 0 nL3 cL3, vI ((iL3 : Nat) : Int), vI 1, vF 1056964608, vF 1056964608, vF 0, vF t1, vF 0, vI 1, vF 1056964608, vF 1056964608, vF 0, vF t2, vF 0, vI 1, vF 1056964608, vF 1056964608, vF 0, vF t3, vF 0, vI 1, vF 1056964608, vF 1056964608, vF 0, vF t4, vF 0, vF g0, vF g1, vF g2, vF g3, vF 1065353216, vF 0] := r56
  refine WO.end ?_
  refine NE.blk ?_
  refine NE.code ?_
  refine CE.region ?_
  refine WL.det (op_add (r := 2) rfl rfl (by decide)) rfl rfl rfl ?_
  refine WL.det (op_move rfl) rfl rfl rfl ?_
  refine WL.end ?_
  refine NE.round ?_
  refine RN.one ?_
  refine CE.seq ?_
  refine CE.region ?_
  refine WL.det (op_lti rfl rfl) rfl rfl rfl ?_
  refine WL.end ?_
  refine NE.code ?_
  refine CE.seq ?_
  refine CE.cond_t rfl rfl ?_
  refine CE.skip' ?_
  refine NE.code ?_
  refine CE.seq ?_
  refine CE.block ?_
  refine CE.seq ?_
  refine CE.region ?_
  refine WL.det (op_move rfl) rfl rfl rfl ?_
  refine WL.det (op_idxA1 rfl rfl Try.runUnderlying25 Try.sizeOf24 Try.isAgg24 (by decide) (by decide) rfl) rfl rfl rfl ?_
  iterate 2 refine WL.det (op_assign rfl) rfl rfl rfl ?_
  refine WL.end ?_
  refine NE.code ?_
  refine CE.draw (fun | 8 => some (fun _ wA uA wB => uA = vF (keptF (fop .add .f32 y2 z13)) ∧ (keptF (fop .add .f32 y2 z13) < wid .f32) ∧ Mod [] wA wB) | _ => none) [0, 1, 2, 3, 4, 5, 6, 7, 8] [9] [] (by kernel_rfl) (by kernel_rfl) ?_
  have md9 : Mod [] w50 w50.drew := (Mod.refl _ _).drew
  generalize w50.drew = w51 at md9 ⊢
  refine DR.det (i := 0) rfl rfl (by kernel_rfl) (.free rfl) rfl rfl (fun wD mD => op_move rfl) ?_
  refine DR.det (i := 1) rfl rfl (by kernel_rfl) (.free rfl) rfl rfl (fun wD mD => op_move rfl) ?_
  refine DR.det (i := 2) rfl rfl (by kernel_rfl) (.free rfl) rfl rfl (fun wD mD => op_nilCheck rfl) ?_
  refine DR.det (i := 3) rfl rfl (by kernel_rfl) (.free rfl) rfl rfl (fun wD mD => op_fieldAddr (off' := 9) rfl Try.runUnderlying43 rfl rfl Try.sizeOf36 rfl) ?_
  refine DR.det (i := 4) rfl rfl (by kernel_rfl) (.free rfl) rfl rfl (fun wD mD => op_indexArr (off' := 13) rfl rfl Try.runUnderlying36 Try.sizeOf31 (by decide) (by decide) rfl) ?_
  refine DR.det (i := 5) rfl rfl (by kernel_rfl) (.free rfl) rfl rfl (fun wD mD => op_move rfl) ?_
  refine DR.det (i := 6) rfl rfl (by kernel_rfl) (.free rfl) rfl rfl (fun wD mD => op_move rfl) ?_
  refine DR.op (i := 7) (FOut .f32 (fop .add .f32 y2 z13)) rfl rfl (by kernel_rfl) (.free rfl) rfl (ltb rfl) (fun wD mD => op_farith (e := (fop .add .f32 y2 z13)) (.inl rfl) rfl rfl rfl rfl rfl) ?_
  rintro _ ⟨f8, rfl, hf8, lf8⟩
  refine DR.call (i := 8) (fun uA => uA = vF (keptF (fop .add .f32 y2 z13)) ∧ (keptF (fop .add .f32 y2 z13) < wid .f32)) rfl rfl (by kernel_rfl) (.free rfl) rfl (ltb rfl) ⟨_, rfl, keptF_wid hf8 lf8⟩ (vs := [.func (.func 46) #[] #[], vF f8]) rfl (fun wD mD => oc_call (vs := [vF f8]) (cap := []) rfl rfl rfl Try.call46 (c_kept f8 (fop .add .f32 y2 z13) hf8 lf8 wD)) ?_ ?_
  · rintro w1 _ w2 m1 ⟨rfl, p0, m2⟩; exact ⟨⟨rfl, p0⟩, m2⟩
  rintro _ ⟨rfl, h22⟩
  refine DR.done rfl ?_
  intro w52 m43
  have r59 := (((((((((((((((((((((((((r32.ext m24).mod m25 (nC (lE (lL (lL rL2.lt sz2) lR)) nN)).ext md5).ext m26).ext m27).mod m28 (nC (Ne.symm npL2) nN)).ext m29).mod m30 (nC (lE (lL (lL rL2.lt sz1) lR)) nN)).ext m31).mod m32 (nC (lE (lL (lL rL2.lt sz2) lR)) nN)).ext md6).ext m33).ext m34).mod m35 (nC (Ne.symm npL2) nN)).ext m36).mod m37 (nC (lE (lL (lL rL2.lt sz1) lR)) nN)).ext m38).ext md7).ext m39).mod m40 (nC (Ne.symm npL2) (nC (Ne.symm nL0L2) nN))).ext md8).ext m41).mod m42 (nC (Ne.symm npL2) (nC (Ne.symm nL1L2) nN))).ext md9).ext m43)
  refine WO.call rfl (.free rfl) rfl (ltb rfl) (oc_call (vs := [vP p 13, vF (keptF (fop .add .f32 y2 z13))]) (cap := []) rfl rfl rfl Try.call45 (c_push nL2 cL2 bL2 xL2 iL2 p 13 [vS bE 0 nE cE, vI (((iE + 1) % nE : Nat) : Int), .slice none 0 0, vS bC0 0 nC0 cC0, vI (((iC0 + 1) % nC0 : Nat) : Int), vF 1056964608, vS bC1 0 nC1 cC1, vI (((iC1 + 1) % nC1 : Nat) : Int), vF 1056964608, vS bL0 0 nL0 cL0, vI (((iL0 + 1) % nL0 : Nat) : Int), vS bL1 0 nL1 cL1, vI (((iL1 + 1) % nL1 : Nat) : Int), vS bL2 0 nL2 cL2, vI ((iL2 : Nat) : Int), vS bL3 0 nL3 cL3, vI ((iL3 : Nat) : Int), vI 1, vF 1056964608, vF 1056964608, vF 0, vF t1, vF 0, vI 1, vF 1056964608, vF 1056964608, vF 0, vF t2, vF 0, vI 1, vF 1056964608, vF 1056964608, vF 0, vF t3, vF 0, vI 1, vF 1056964608, vF 1056964608, vF 0, vF t4, vF 0, vF g0, vF g1, vF g2, vF g3, vF 1065353216, vF 0] (keptF (fop .add .f32 y2 z13)) lnL2 (by omega) (by omega) (lB rfl) w52 (Row.congr ((r58.ext md9).ext m43) rfl) r59 npL2)) ?_
  rintro _ w53 ⟨rfl, r60, r61, m44⟩
  have r62 : Row w53 p 0 [vS bE 0 nE cE, vI (((iE + 1) % nE : Nat) : Int), .slice none 0 0, vS bC0 0 nC0 cC0, vI (((iC0 + 1) % nC0 : Nat) : Int), vF 1056964608, vS bC1 0 nC1 cC1, vI (((iC1 + 1) % nC1 : Nat) : Int), vF 1056964608, vS bL0 0 nL0 cL0, vI (((iL0 + 1) % nL0 : Nat) : Int), vS bL1 0 nL1 cL1, vI (((iL1 + 1) % nL1 : Nat) : Int), vS bL2 0 nL2 cL2, vI (((iL2 + 1) % nL2 : Nat) : Int), vS bL3 0 nL3 cL3, vI ((iL3 : Nat) : Int), vI 1, vF 1056964608, vF 1056964608, vF 0, vF t1, vF 0, vI 1, vF 1056964608, vF 1056964608, vF 0, vF t2, vF 0, vI 1, vF 1056964608, vF 1056964608, vF 0, vF t3, vF 0, vI 1, vF 1056964608, vF 1056964608, vF 0, vF t4, vF 0, vF g0, vF g1, vF g2, vF g3, vF 1065353216, vF 0] := r60
  refine WO.end ?_
  refine NE.blk ?_
  refine NE.code ?_
  refine CE.region ?_
  refine WL.det (op_add (r := 3) rfl rfl (by decide)) rfl rfl rfl ?_
  refine WL.det (op_move rfl) rfl rfl rfl ?_
  refine WL.end ?_
  refine NE.round ?_
  refine RN.one ?_
  refine CE.seq ?_
  refine CE.region ?_
  refine WL.det (op_lti rfl rfl) rfl rfl rfl ?_
  refine WL.end ?_
  refine NE.code ?_
  refine CE.seq ?_
  refine CE.cond_t rfl rfl ?_
  refine CE.skip' ?_
  refine NE.code ?_
  refine CE.seq ?_
  refine CE.block ?_
  refine CE.seq ?_
  refine CE.region ?_
  refine WL.det (op_move rfl) rfl rfl rfl ?_
  refine WL.det (op_idxA1 rfl rfl Try.runUnderlying25 Try.sizeOf24 Try.isAgg24 (by decide) (by decide) rfl) rfl rfl rfl ?_
  iterate 2 refine WL.det (op_assign rfl) rfl rfl rfl ?_
  refine WL.end ?_
  refine NE.code ?_
  refine CE.draw (fun | 8 => some (fun _ wA uA wB => uA = vF (keptF (fop .add .f32 y2 z14)) ∧ (keptF (fop .add .f32 y2 z14) < wid .f32) ∧ Mod [] wA wB) | _ => none) [0, 1, 2, 3, 4, 5, 6, 7, 8] [9] [] (by kernel_rfl) (by kernel_rfl) ?_
  have md10 : Mod [] w53 w53.drew := (Mod.refl _ _).drew
  generalize w53.drew = w54 at md10 ⊢
  refine DR.det (i := 0) rfl rfl (by kernel_rfl) (.free rfl) rfl rfl (fun wD mD => op_move rfl) ?_
  refine DR.det (i := 1) rfl rfl (by kernel_rfl) (.free rfl) rfl rfl (fun wD mD => op_move rfl) ?_
  refine DR.det (i := 2) rfl rfl (by kernel_rfl) (.free rfl) rfl rfl (fun wD mD => op_nilCheck rfl) ?_
  refine DR.det (i := 3) rfl rfl (by kernel_rfl) (.free rfl) rfl rfl (fun wD mD => op_fieldAddr (off' := 9) rfl Try.runUnderlying43 rfl rfl Try.sizeOf36 rfl) ?_
  refine DR.det (i := 4) rfl rfl (by kernel_rfl) (.free rfl) rfl rfl (fun wD mD => op_indexArr (off' := 15) rfl rfl Try.runUnderlying36 Try.sizeOf31 (by decide) (by decide) rfl) ?_
  refine DR.det (i := 5) rfl rfl (by kernel_rfl) (.free rfl) rfl rfl (fun wD mD => op_move rfl) ?_
  refine DR.det (i := 6) rfl rfl (by kernel_rfl) (.free rfl) rfl rfl (fun wD mD => op_move rfl) ?_
  refine DR.op (i := 7) (FOut .f32 (fop .add .f32 y2 z14)) rfl rfl (by kernel_rfl) (.free rfl) rfl (ltb rfl) (fun wD mD => op_farith (e := (fop .add .f32 y2 z14)) (.inl rfl) rfl rfl rfl rfl rfl) ?_
  rintro _ ⟨f9, rfl, hf9, lf9⟩
  refine DR.call (i := 8) (fun uA => uA = vF (keptF (fop .add .f32 y2 z14)) ∧ (keptF (fop .add .f32 y2 z14) < wid .f32)) rfl rfl (by kernel_rfl) (.free rfl) rfl (ltb rfl) ⟨_, rfl, keptF_wid hf9 lf9⟩ (vs := [.func (.func 46) #[] #[], vF f9]) rfl (fun wD mD => oc_call (vs := [vF f9]) (cap := []) rfl rfl rfl Try.call46 (c_kept f9 (fop .add .f32 y2 z14) hf9 lf9 wD)) ?_ ?_
  · rintro w1 _ w2 m1 ⟨rfl, p0, m2⟩; exact ⟨⟨rfl, p0⟩, m2⟩
  rintro _ ⟨rfl, h23⟩
  refine DR.done rfl ?_
  intro w55 m45
  have r63 := ((((((((((((((((((((r41.ext m31).mod m32 (nC (lE (lL (lL rL3.lt sz2) lR)) nN)).ext md6).ext m33).ext m34).mod m35 (nC (Ne.symm npL3) nN)).ext m36).mod m37 (nC (lE (lL (lL rL3.lt sz1) lR)) nN)).ext m38).ext md7).ext m39).mod m40 (nC (Ne.symm npL3) (nC (Ne.symm nL0L3) nN))).ext md8).ext m41).mod m42 (nC (Ne.symm npL3) (nC (Ne.symm nL1L3) nN))).ext md9).ext m43).mod m44 (nC (Ne.symm npL3) (nC (Ne.symm nL2L3) nN))).ext md10).ext m45)
  refine WO.call rfl (.free rfl) rfl (ltb rfl) (oc_call (vs := [vP p 15, vF (keptF (fop .add .f32 y2 z14))]) (cap := []) rfl rfl rfl Try.call45 (c_push nL3 cL3 bL3 xL3 iL3 p 15 [vS bE 0 nE cE, vI (((iE + 1) % nE : Nat) : Int), .slice none 0 0, vS bC0 0 nC0 cC0, vI (((iC0 + 1) % nC0 : Nat) : Int), vF 1056964608, vS bC1 0 nC1 cC1, vI (((iC1 + 1) % nC1 : Nat) : Int), vF 1056964608, vS bL0 0 nL0 cL0, vI (((iL0 + 1) % nL0 : Nat) : Int), vS bL1 0 nL1 cL1, vI (((iL1 + 1) % nL1 : Nat) : Int), vS bL2 0 nL2 cL2, vI (((iL2 + 1) % nL2 : Nat) : Int), vS bL3 0 nL3 cL3, vI ((iL3 : Nat) : Int), vI 1, vF 1056964608, vF 1056964608, vF 0, vF t1, vF 0, vI 1, vF 1056964608, vF 1056964608, vF 0, vF t2, vF 0, vI 1, vF 1056964608, vF 1056964608, vF 0, vF t3, vF 0, vI 1, vF 1056964608, vF 1056964608, vF 0, vF t4, vF 0, vF g0, vF g1, vF g2, vF g3, vF 1065353216, vF 0] (keptF (fop .add .f32 y2 z14)) lnL3 (by omega) (by omega) (lB rfl) w55 (Row.congr ((r62.ext md10).ext m45) rfl) r63 npL3)) ?_
  rintro _ w56 ⟨rfl, r64, r65, m46⟩
  have r66 : Row w56 p 0 [vS bE 0 nE cE, vI (((iE + 1) % nE : Nat) : Int), .slice none 0 0, vS bC0 0 nC0 cC0, vI (((iC0 + 1) % nC0 : Nat) : Int), vF 1056964608, vS bC1 0 nC1 cC1, vI (((iC1 + 1) % nC1 : Nat) : Int), vF 1056964608, vS bL0 0 nL0 cL0, vI (((iL0 + 1) % nL0 : Nat) : Int), vS bL1 0 nL1 cL1, vI (((iL1 + 1) % nL1 : Nat) : Int), vS bL2 0 nL2 cL2, vI (((iL2 + 1) % nL2 : Nat) : Int), vS bL3 0 nL3 cL3, vI (((iL3 + 1) % nL3 : Nat) : Int), vI 1, vF 1056964608, vF 1056964608, vF 0, vF t1, vF 0, vI 1, vF 1056964608, vF 1056964608, vF 0, vF t2, vF 0, vI 1, vF 1056964608, vF 1056964608, vF 0, vF t3, vF 0, vI 1, vF 1056964608, vF 1056964608, vF 0, vF t4, vF 0, vF g0, vF g1, vF g2, vF g3, vF 1065353216, vF 0] := r64
  refine WO.end ?_
  refine NE.blk ?_
  refine NE.code ?_
  refine CE.region ?_
  refine WL.det (op_add (r := 4) rfl rfl (by decide)) rfl rfl rfl ?_
  refine WL.det (op_move rfl) rfl rfl rfl ?_
  refine WL.end ?_
  refine NE.round ?_
  refine RN.one ?_
  refine CE.seq ?_
  refine CE.region ?_
  refine WL.det (op_lti rfl rfl) rfl rfl rfl ?_
  refine WL.end ?_
  refine NE.code ?_
  refine CE.seq ?_
  refine CE.cond_f rfl rfl ?_
  refine CE.exit' ?_
  iterate 2 refine XE.exit_then ?_
  refine XE.exit_here ?_
  refine NE.code ?_
  refine CE.seq ?_
  refine CE.draw (fun _ => none) [0, 1, 2, 3, 4, 5, 6, 7, 8, 9, 10, 11, 12, 13, 14, 15, 16, 17, 18, 19, 20, 21] [22, 23] [] (by kernel_rfl) (by kernel_rfl) ?_
  have md11 : Mod [] w56 w56.drew := (Mod.refl _ _).drew
  generalize w56.drew = w57 at md11 ⊢
  refine DR.det (i := 0) rfl rfl (by kernel_rfl) (.free rfl) rfl rfl (fun wD mD => op_move rfl) ?_
  refine DR.det (i := 1) rfl rfl (by kernel_rfl) (.free rfl) rfl rfl (fun wD mD => op_nilCheck rfl) ?_
  refine DR.det (i := 2) rfl rfl (by kernel_rfl) (.free rfl) rfl rfl (fun wD mD => op_fieldAddr (off' := 45) rfl Try.runUnderlying43 rfl rfl Try.sizeOf24 rfl) ?_
  refine DR.det (i := 3) rfl rfl (by kernel_rfl) (.free rfl) rfl rfl (fun wD mD => op_load1 (i := 45) rfl Try.isAgg24 ((r66.ext md11).ext mD).rng rfl rfl) ?_
  refine DR.det (i := 4) rfl rfl (by kernel_rfl) (.free rfl) rfl rfl (fun wD mD => op_move rfl) ?_
  refine DR.op (i := 5) (FOut .f32 (fop .mul .f32 1065353216 a)) rfl rfl (by kernel_rfl) (.free rfl) rfl (ltb rfl) (fun wD mD => op_farith (e := (fop .mul .f32 1065353216 a)) (.inr (.inr (.inl rfl))) rfl rfl rfl rfl rfl) ?_
  rintro _ ⟨f10, rfl, hf10, lf10⟩
  refine DR.det (i := 6) rfl rfl (by kernel_rfl) (.free rfl) rfl rfl (fun wD mD => op_move rfl) ?_
  refine DR.det (i := 7) rfl rfl (by kernel_rfl) (.free rfl) rfl rfl (fun wD mD => op_nilCheck rfl) ?_
  refine DR.det (i := 8) rfl rfl (by kernel_rfl) (.free rfl) rfl rfl (fun wD mD => op_fieldAddr (off' := 46) rfl Try.runUnderlying43 rfl rfl Try.sizeOf24 rfl) ?_
  refine DR.det (i := 9) rfl rfl (by kernel_rfl) (.free rfl) rfl rfl (fun wD mD => op_load1 (i := 46) rfl Try.isAgg24 ((r66.ext md11).ext mD).rng rfl rfl) ?_
  refine DR.det (i := 10) rfl rfl (by kernel_rfl) (.free rfl) rfl rfl (fun wD mD => op_indexArr (off' := 0) rfl rfl Try.runUnderlying25 Try.sizeOf24 (by decide) (by decide) rfl) ?_
  refine DR.det (i := 11) rfl rfl (by kernel_rfl) (.free rfl) rfl rfl (fun wD mD => op_load1 (i := 0) rfl Try.isAgg24 (((((((((((((((((((((r44.ext md6).ext m33).ext m34).mod m35 (nC (lG (lL (lL q.lt sz2) lR)) nN)).ext m36).mod m37 (nC (lE (lL r13.lt lR)) nN)).ext m38).ext md7).ext m39).mod m40 (nC (lG (lL (lL q.lt sz2) lR)) (nC (lG (lL (lL rL0.lt sz2) lR)) nN))).ext md8).ext m41).mod m42 (nC (lG (lL (lL q.lt sz2) lR)) (nC (lG (lL (lL rL1.lt sz2) lR)) nN))).ext md9).ext m43).mod m44 (nC (lG (lL (lL q.lt sz2) lR)) (nC (lG (lL (lL rL2.lt sz2) lR)) nN))).ext md10).ext m45).mod m46 (nC (lG (lL (lL q.lt sz2) lR)) (nC (lG (lL (lL rL3.lt sz2) lR)) nN))).ext md11).ext mD).rng rfl rfl) ?_
  refine DR.det (i := 12) rfl rfl (by kernel_rfl) (.free rfl) rfl rfl (fun wD mD => op_indexArr (off' := 1) rfl rfl Try.runUnderlying25 Try.sizeOf24 (by decide) (by decide) rfl) ?_
  refine DR.det (i := 13) rfl rfl (by kernel_rfl) (.free rfl) rfl rfl (fun wD mD => op_load1 (i := 1) rfl Try.isAgg24 (((((((((((((((((((((r44.ext md6).ext m33).ext m34).mod m35 (nC (lG (lL (lL q.lt sz2) lR)) nN)).ext m36).mod m37 (nC (lE (lL r13.lt lR)) nN)).ext m38).ext md7).ext m39).mod m40 (nC (lG (lL (lL q.lt sz2) lR)) (nC (lG (lL (lL rL0.lt sz2) lR)) nN))).ext md8).ext m41).mod m42 (nC (lG (lL (lL q.lt sz2) lR)) (nC (lG (lL (lL rL1.lt sz2) lR)) nN))).ext md9).ext m43).mod m44 (nC (lG (lL (lL q.lt sz2) lR)) (nC (lG (lL (lL rL2.lt sz2) lR)) nN))).ext md10).ext m45).mod m46 (nC (lG (lL (lL q.lt sz2) lR)) (nC (lG (lL (lL rL3.lt sz2) lR)) nN))).ext md11).ext mD).rng rfl rfl) ?_
  refine DR.op (i := 14) (FOut .f32 (fop .add .f32 (xL0.getD iL0 0) (xL1.getD iL1 0))) rfl rfl (by kernel_rfl) (.free rfl) rfl (ltb rfl) (fun wD mD => op_farith (e := (fop .add .f32 (xL0.getD iL0 0) (xL1.getD iL1 0))) (.inl rfl) rfl rfl rfl rfl rfl) ?_
  rintro _ ⟨f11, rfl, hf11, lf11⟩
  refine DR.det (i := 15) rfl rfl (by kernel_rfl) (.free rfl) rfl rfl (fun wD mD => op_indexArr (off' := 2) rfl rfl Try.runUnderlying25 Try.sizeOf24 (by decide) (by decide) rfl) ?_
  refine DR.det (i := 16) rfl rfl (by kernel_rfl) (.free rfl) rfl rfl (fun wD mD => op_load1 (i := 2) rfl Try.isAgg24 (((((((((((((((((((((r44.ext md6).ext m33).ext m34).mod m35 (nC (lG (lL (lL q.lt sz2) lR)) nN)).ext m36).mod m37 (nC (lE (lL r13.lt lR)) nN)).ext m38).ext md7).ext m39).mod m40 (nC (lG (lL (lL q.lt sz2) lR)) (nC (lG (lL (lL rL0.lt sz2) lR)) nN))).ext md8).ext m41).mod m42 (nC (lG (lL (lL q.lt sz2) lR)) (nC (lG (lL (lL rL1.lt sz2) lR)) nN))).ext md9).ext m43).mod m44 (nC (lG (lL (lL q.lt sz2) lR)) (nC (lG (lL (lL rL2.lt sz2) lR)) nN))).ext md10).ext m45).mod m46 (nC (lG (lL (lL q.lt sz2) lR)) (nC (lG (lL (lL rL3.lt sz2) lR)) nN))).ext md11).ext mD).rng rfl rfl) ?_
  refine DR.det (i := 17) rfl rfl (by kernel_rfl) (.free rfl) rfl rfl (fun wD mD => op_indexArr (off' := 3) rfl rfl Try.runUnderlying25 Try.sizeOf24 (by decide) (by decide) rfl) ?_
  refine DR.det (i := 18) rfl rfl (by kernel_rfl) (.free rfl) rfl rfl (fun wD mD => op_load1 (i := 3) rfl Try.isAgg24 (((((((((((((((((((((r44.ext md6).ext m33).ext m34).mod m35 (nC (lG (lL (lL q.lt sz2) lR)) nN)).ext m36).mod m37 (nC (lE (lL r13.lt lR)) nN)).ext m38).ext md7).ext m39).mod m40 (nC (lG (lL (lL q.lt sz2) lR)) (nC (lG (lL (lL rL0.lt sz2) lR)) nN))).ext md8).ext m41).mod m42 (nC (lG (lL (lL q.lt sz2) lR)) (nC (lG (lL (lL rL1.lt sz2) lR)) nN))).ext md9).ext m43).mod m44 (nC (lG (lL (lL q.lt sz2) lR)) (nC (lG (lL (lL rL2.lt sz2) lR)) nN))).ext md10).ext m45).mod m46 (nC (lG (lL (lL q.lt sz2) lR)) (nC (lG (lL (lL rL3.lt sz2) lR)) nN))).ext md11).ext mD).rng rfl rfl) ?_
  refine DR.op (i := 19) (FOut .f32 (fop .add .f32 (xL2.getD iL2 0) (xL3.getD iL3 0))) rfl rfl (by kernel_rfl) (.free rfl) rfl (ltb rfl) (fun wD mD => op_farith (e := (fop .add .f32 (xL2.getD iL2 0) (xL3.getD iL3 0))) (.inl rfl) rfl rfl rfl rfl rfl) ?_
  rintro _ ⟨f12, rfl, hf12, lf12⟩
  refine DR.op (i := 20) (FOut .f32 (fop .add .f32 (fop .add .f32 (xL0.getD iL0 0) (xL1.getD iL1 0)) (fop .add .f32 (xL2.getD iL2 0) (xL3.getD iL3 0)))) rfl rfl (by kernel_rfl) (.free rfl) rfl (ltb rfl) (fun wD mD => op_farith (e := (fop .add .f32 (fop .add .f32 (xL0.getD iL0 0) (xL1.getD iL1 0)) (fop .add .f32 (xL2.getD iL2 0) (xL3.getD iL3 0)))) (.inl rfl) rfl rfl hf11 hf12 rfl) ?_
  rintro _ ⟨f13, rfl, hf13, lf13⟩
  refine DR.op (i := 21) (FOut .f32 (fop .mul .f32 0 (fop .add .f32 (fop .add .f32 (xL0.getD iL0 0) (xL1.getD iL1 0)) (fop .add .f32 (xL2.getD iL2 0) (xL3.getD iL3 0))))) rfl rfl (by kernel_rfl) (.free rfl) rfl (ltb rfl) (fun wD mD => op_farith (e := (fop .mul .f32 0 (fop .add .f32 (fop .add .f32 (xL0.getD iL0 0) (xL1.getD iL1 0)) (fop .add .f32 (xL2.getD iL2 0) (xL3.getD iL3 0))))) (.inr (.inr (.inl rfl))) rfl rfl rfl hf13 rfl) ?_
  rintro _ ⟨f14, rfl, hf14, lf14⟩
  refine DR.done rfl ?_
  intro w58 m47
  refine WO.op rfl (.free rfl) rfl (ltb rfl) (op_farith (e := (fop .add .f32 (fop .mul .f32 1065353216 a) (fop .mul .f32 0 (fop .add .f32 (fop .add .f32 (xL0.getD iL0 0) (xL1.getD iL1 0)) (fop .add .f32 (xL2.getD iL2 0) (xL3.getD iL3 0)))))) (.inl rfl) rfl rfl hf10 hf14 rfl) ?_
  rintro _ w59 ⟨⟨f15, rfl, hf15, lf15⟩, m48⟩
  refine WO.det (op_assign rfl) rfl (.free rfl) rfl rfl ?_
  refine WO.end ?_
  refine NE.code ?_
  refine CE.ret' ?_
  refine XE.leave1 Try.results28 rfl ?_
  have r67 := (((r66.ext md11).ext m47).ext m48)
  have r68 := (((((((((((((((((((((((((((((((((((((((((((((((((((((((r4.ext md2).ext m4).mod m5 (nC (Ne.symm npE) (nC nEC0 nN))).ext m6).mod m7 (nC (Ne.symm npE) (nC nEC1 nN))).ext m8).ext m9).ext m10).mod m11 (nC (lE (lL (lL rE.lt sz2) lR)) nN)).ext md3).ext m12).ext m13).mod m14 (nC (Ne.symm npE) nN)).ext m15).mod m16 (nC (lE (lL (lL rE.lt sz1) lR)) nN)).ext m17).mod m18 (nC (lE (lL (lL rE.lt sz2) lR)) nN)).ext md4).ext m19).ext m20).mod m21 (nC (Ne.symm npE) nN)).ext m22).mod m23 (nC (lE (lL (lL rE.lt sz1) lR)) nN)).ext m24).mod m25 (nC (lE (lL (lL rE.lt sz2) lR)) nN)).ext md5).ext m26).ext m27).mod m28 (nC (Ne.symm npE) nN)).ext m29).mod m30 (nC (lE (lL (lL rE.lt sz1) lR)) nN)).ext m31).mod m32 (nC (lE (lL (lL rE.lt sz2) lR)) nN)).ext md6).ext m33).ext m34).mod m35 (nC (Ne.symm npE) nN)).ext m36).mod m37 (nC (lE (lL (lL rE.lt sz1) lR)) nN)).ext m38).ext md7).ext m39).mod m40 (nC (Ne.symm npE) (nC nEL0 nN))).ext md8).ext m41).mod m42 (nC (Ne.symm npE) (nC nEL1 nN))).ext md9).ext m43).mod m44 (nC (Ne.symm npE) (nC nEL2 nN))).ext md10).ext m45).mod m46 (nC (Ne.symm npE) (nC nEL3 nN))).ext md11).ext m47).ext m48)
  have r69 := ((((((((((((((((((((((((((((((((((((((((((((((((((((r7.ext m6).mod m7 (nC (Ne.symm npC0) (nC nC0C1 nN))).ext m8).ext m9).ext m10).mod m11 (nC (lE (lL (lL rC0.lt sz2) lR)) nN)).ext md3).ext m12).ext m13).mod m14 (nC (Ne.symm npC0) nN)).ext m15).mod m16 (nC (lE (lL (lL rC0.lt sz1) lR)) nN)).ext m17).mod m18 (nC (lE (lL (lL rC0.lt sz2) lR)) nN)).ext md4).ext m19).ext m20).mod m21 (nC (Ne.symm npC0) nN)).ext m22).mod m23 (nC (lE (lL (lL rC0.lt sz1) lR)) nN)).ext m24).mod m25 (nC (lE (lL (lL rC0.lt sz2) lR)) nN)).ext md5).ext m26).ext m27).mod m28 (nC (Ne.symm npC0) nN)).ext m29).mod m30 (nC (lE (lL (lL rC0.lt sz1) lR)) nN)).ext m31).mod m32 (nC (lE (lL (lL rC0.lt sz2) lR)) nN)).ext md6).ext m33).ext m34).mod m35 (nC (Ne.symm npC0) nN)).ext m36).mod m37 (nC (lE (lL (lL rC0.lt sz1) lR)) nN)).ext m38).ext md7).ext m39).mod m40 (nC (Ne.symm npC0) (nC nC0L0 nN))).ext md8).ext m41).mod m42 (nC (Ne.symm npC0) (nC nC0L1 nN))).ext md9).ext m43).mod m44 (nC (Ne.symm npC0) (nC nC0L2 nN))).ext md10).ext m45).mod m46 (nC (Ne.symm npC0) (nC nC0L3 nN))).ext md11).ext m47).ext m48)
  have r70 := ((((((((((((((((((((((((((((((((((((((((((((((((((r11.ext m8).ext m9).ext m10).mod m11 (nC (lE (lL (lL rC1.lt sz2) lR)) nN)).ext md3).ext m12).ext m13).mod m14 (nC (Ne.symm npC1) nN)).ext m15).mod m16 (nC (lE (lL (lL rC1.lt sz1) lR)) nN)).ext m17).mod m18 (nC (lE (lL (lL rC1.lt sz2) lR)) nN)).ext md4).ext m19).ext m20).mod m21 (nC (Ne.symm npC1) nN)).ext m22).mod m23 (nC (lE (lL (lL rC1.lt sz1) lR)) nN)).ext m24).mod m25 (nC (lE (lL (lL rC1.lt sz2) lR)) nN)).ext md5).ext m26).ext m27).mod m28 (nC (Ne.symm npC1) nN)).ext m29).mod m30 (nC (lE (lL (lL rC1.lt sz1) lR)) nN)).ext m31).mod m32 (nC (lE (lL (lL rC1.lt sz2) lR)) nN)).ext md6).ext m33).ext m34).mod m35 (nC (Ne.symm npC1) nN)).ext m36).mod m37 (nC (lE (lL (lL rC1.lt sz1) lR)) nN)).ext m38).ext md7).ext m39).mod m40 (nC (Ne.symm npC1) (nC nC1L0 nN))).ext md8).ext m41).mod m42 (nC (Ne.symm npC1) (nC nC1L1 nN))).ext md9).ext m43).mod m44 (nC (Ne.symm npC1) (nC nC1L2 nN))).ext md10).ext m45).mod m46 (nC (Ne.symm npC1) (nC nC1L3 nN))).ext md11).ext m47).ext m48)
  have r71 := ((((((((((((r53.ext md8).ext m41).mod m42 (nC (Ne.symm npL0) (nC nL0L1 nN))).ext md9).ext m43).mod m44 (nC (Ne.symm npL0) (nC nL0L2 nN))).ext md10).ext m45).mod m46 (nC (Ne.symm npL0) (nC nL0L3 nN))).ext md11).ext m47).ext m48)
  have r72 := (((((((((r57.ext md9).ext m43).mod m44 (nC (Ne.symm npL1) (nC nL1L2 nN))).ext md10).ext m45).mod m46 (nC (Ne.symm npL1) (nC nL1L3 nN))).ext md11).ext m47).ext m48)
  have r73 := ((((((r61.ext md10).ext m45).mod m46 (nC (Ne.symm npL2) (nC nL2L3 nN))).ext md11).ext m47).ext m48)
  have r74 := (((r65.ext md11).ext m47).ext m48)
  refine ⟨(xE.set iE (keptF a)), xs'1, xs'2, (xL0.set iL0 (keptF (fop .add .f32 y2 z11))), (xL1.set iL1 (keptF (fop .add .f32 y2 z12))), (xL2.set iL2 (keptF (fop .add .f32 y2 z13))), (xL3.set iL3 (keptF (fop .add .f32 y2 z14))), t1, t2, t3, t4, ?_, ?_, ?_, ?_, ?_, ?_, ?_, ?_, ?_, ?_, ?_, ?_, ?_, ?_, ?_, ?_, ?_, ?_, ?_, r67, r68, r69, r70, r71, r72, r73, r74, ((((((((((((((((((((((((((((((((((((((((((((((((((((((((((((Mod.refl [p, bE, bC0, bC1, bL0, bL1, bL2, bL3] w).nt m1).nt md1).nt m2).then m3 ((aC (.inl (by simp)) (aC (.inl (by simp)) aN)))).nt md2).nt m4).then m5 ((aC (.inl (by simp)) (aC (.inl (by simp)) aN)))).nt m6).then m7 ((aC (.inl (by simp)) (aC (.inl (by simp)) aN)))).nt m8).nt m9).nt m10).then m11 ((aC (.inr (lT sz2 lR)) aN))).nt md3).nt m12).nt m13).then m14 ((aC (.inl (by simp)) aN))).nt m15).then m16 ((aC (.inr (lT sz1 lR)) aN))).nt m17).then m18 ((aC (.inr (lT sz2 lR)) aN))).nt md4).nt m19).nt m20).then m21 ((aC (.inl (by simp)) aN))).nt m22).then m23 ((aC (.inr (lT sz1 lR)) aN))).nt m24).then m25 ((aC (.inr (lT sz2 lR)) aN))).nt md5).nt m26).nt m27).then m28 ((aC (.inl (by simp)) aN))).nt m29).then m30 ((aC (.inr (lT sz1 lR)) aN))).nt m31).then m32 ((aC (.inr (lT sz2 lR)) aN))).nt md6).nt m33).nt m34).then m35 ((aC (.inl (by simp)) aN))).nt m36).then m37 ((aC (.inr (lT sz1 lR)) aN))).nt m38).nt md7).nt m39).then m40 ((aC (.inl (by simp)) (aC (.inl (by simp)) aN)))).nt md8).nt m41).then m42 ((aC (.inl (by simp)) (aC (.inl (by simp)) aN)))).nt md9).nt m43).then m44 ((aC (.inl (by simp)) (aC (.inl (by simp)) aN)))).nt md10).nt m45).then m46 ((aC (.inl (by simp)) (aC (.inl (by simp)) aN)))).nt md11).nt m47).nt m48)⟩
  exact congrArg vF (dry_cn hf15 ha (LBw.get hLL0 _) (LBw.get hLL1 _) (LBw.get hLL2 _) (LBw.get hLL3 _) (by omega)); exact (List.length_set).trans lnE; exact h2; exact h5; exact (List.length_set).trans lnL0; exact (List.length_set).trans lnL1; exact (List.length_set).trans lnL2; exact (List.length_set).trans lnL3; exact LBw.set hLE (Bw.kept ha.bw); exact h3; exact h6; exact LBw.set (LBw.mono hLL0 (by omega)) (Bw.kept (Bw.add (k := kb + 2) (Bw.mono h7 (by omega)) h16 (by omega))); exact LBw.set (LBw.mono hLL1 (by omega)) (Bw.kept (Bw.add (k := kb + 2) (Bw.mono h7 (by omega)) h17 (by omega))); exact LBw.set (LBw.mono hLL2 (by omega)) (Bw.kept (Bw.add (k := kb + 2) (Bw.mono h7 (by omega)) h18 (by omega))); exact LBw.set (LBw.mono hLL3 (by omega)) (Bw.kept (Bw.add (k := kb + 2) (Bw.mono h7 (by omega)) h19 (by omega))); exact Bw.mono h9 (by omega); exact Bw.mono h11 (by omega); exact Bw.mono h13 (by omega); exact Bw.mono h15 (by omega)

end Go.Proofs.Ytemnjphnhmbddaa
