/- Rooms that are copied and played. -/
import Derived.Test.YtemnjphnhmbddaaU5
import Derived.Test.YtemnjphnhmbddaaU4
set_option linter.unusedVariables false
set_option linter.unusedSimpArgs false
namespace Go.Proofs.Ytemnjphnhmbddaa

set_option maxRecDepth 100000 in
set_option maxHeartbeats 2000000 in
theorem c_cloneRoom (nE : Nat) (cE : Nat) (bE : Nat) (xE : List Nat) (iE : Nat) (nC0 : Nat) (cC0 : Nat) (bC0 : Nat) (xC0 : List Nat) (iC0 : Nat) (nC1 : Nat) (cC1 : Nat) (bC1 : Nat) (xC1 : List Nat) (iC1 : Nat) (nL0 : Nat) (cL0 : Nat) (bL0 : Nat) (xL0 : List Nat) (iL0 : Nat) (nL1 : Nat) (cL1 : Nat) (bL1 : Nat) (xL1 : List Nat) (iL1 : Nat) (nL2 : Nat) (cL2 : Nat) (bL2 : Nat) (xL2 : List Nat) (iL2 : Nat) (nL3 : Nat) (cL3 : Nat) (bL3 : Nat) (xL3 : List Nat) (iL3 : Nat) (s0 : Nat) (s1 : Nat) (s2 : Nat) (s3 : Nat) (g0 : Nat) (g1 : Nat) (g2 : Nat) (g3 : Nat) (lnE : xE.length = nE) (lnC0 : xC0.length = nC0) (lnC1 : xC1.length = nC1) (lnL0 : xL0.length = nL0) (lnL1 : xL1.length = nL1) (lnL2 : xL2.length = nL2) (lnL3 : xL3.length = nL3) (hiE : iE < nE) (hiC0 : iC0 < nC0) (hiC1 : iC1 < nC1) (hiL0 : iL0 < nL0) (hiL1 : iL1 < nL1) (hiL2 : iL2 < nL2) (hiL3 : iL3 < nL3) (hnE : nE ≤ 1024) (hnC0 : nC0 ≤ 1024) (hnC1 : nC1 ≤ 1024) (hnL0 : nL0 ≤ 1024) (hnL1 : nL1 ≤ 1024) (hnL2 : nL2 ≤ 1024) (hnL3 : nL3 ≤ 1024) (w : World) (rE : Rng w bE 0 (fl xE)) (rC0 : Rng w bC0 0 (fl xC0)) (rC1 : Rng w bC1 0 (fl xC1)) (rL0 : Rng w bL0 0 (fl xL0)) (rL1 : Rng w bL1 0 (fl xL1)) (rL2 : Rng w bL2 0 (fl xL2)) (rL3 : Rng w bL3 0 (fl xL3)) : Cl Try.prog 27 #[.agg #[vS bE 0 nE cE, vI ((iE : Nat) : Int), .slice none 0 0, vS bC0 0 nC0 cC0, vI ((iC0 : Nat) : Int), vF 1056964608, vS bC1 0 nC1 cC1, vI ((iC1 : Nat) : Int), vF 1056964608, vS bL0 0 nL0 cL0, vI ((iL0 : Nat) : Int), vS bL1 0 nL1 cL1, vI ((iL1 : Nat) : Int), vS bL2 0 nL2 cL2, vI ((iL2 : Nat) : Int), vS bL3 0 nL3 cL3, vI ((iL3 : Nat) : Int), vI 1, vF 1056964608, vF 1056964608, vF 0, vF s0, vF 0, vI 1, vF 1056964608, vF 1056964608, vF 0, vF s1, vF 0, vI 1, vF 1056964608, vF 1056964608, vF 0, vF s2, vF 0, vI 1, vF 1056964608, vF 1056964608, vF 0, vF s3, vF 0, vF g0, vF g1, vF g2, vF g3, vF 1065353216, vF 0]] w fun v w' => ∃ (bE' : Nat) (cE' : Nat) (bC0' : Nat) (cC0' : Nat) (bC1' : Nat) (cC1' : Nat) (bL0' : Nat) (cL0' : Nat) (bL1' : Nat) (cL1' : Nat) (bL2' : Nat) (cL2' : Nat) (bL3' : Nat) (cL3' : Nat), v = .agg #[vS bE' 0 nE cE', vI ((iE : Nat) : Int), .slice none 0 0, vS bC0' 0 nC0 cC0', vI ((iC0 : Nat) : Int), vF 1056964608, vS bC1' 0 nC1 cC1', vI ((iC1 : Nat) : Int), vF 1056964608, vS bL0' 0 nL0 cL0', vI ((iL0 : Nat) : Int), vS bL1' 0 nL1 cL1', vI ((iL1 : Nat) : Int), vS bL2' 0 nL2 cL2', vI ((iL2 : Nat) : Int), vS bL3' 0 nL3 cL3', vI ((iL3 : Nat) : Int), vI 1, vF 1056964608, vF 1056964608, vF 0, vF s0, vF 0, vI 1, vF 1056964608, vF 1056964608, vF 0, vF s1, vF 0, vI 1, vF 1056964608, vF 1056964608, vF 0, vF s2, vF 0, vI 1, vF 1056964608, vF 1056964608, vF 0, vF s3, vF 0, vF g0, vF g1, vF g2, vF g3, vF 1065353216, vF 0] ∧ Row w' bE' 0 (fl xE) ∧ Row w' bC0' 0 (fl xC0) ∧ Row w' bC1' 0 (fl xC1) ∧ Row w' bL0' 0 (fl xL0) ∧ Row w' bL1' 0 (fl xL1) ∧ Row w' bL2' 0 (fl xL2) ∧ Row w' bL3' 0 (fl xL3) ∧ w.heap.size ≤ bE' ∧ w.heap.size ≤ bC0' ∧ w.heap.size ≤ bC1' ∧ w.heap.size ≤ bL0' ∧ w.heap.size ≤ bL1' ∧ w.heap.size ≤ bL2' ∧ w.heap.size ≤ bL3' ∧ bE' ≠ bC0' ∧ bE' ≠ bC1' ∧ bE' ≠ bL0' ∧ bE' ≠ bL1' ∧ bE' ≠ bL2' ∧ bE' ≠ bL3' ∧ bC0' ≠ bC1' ∧ bC0' ≠ bL0' ∧ bC0' ≠ bL1' ∧ bC0' ≠ bL2' ∧ bC0' ≠ bL3' ∧ bC1' ≠ bL0' ∧ bC1' ≠ bL1' ∧ bC1' ≠ bL2' ∧ bC1' ≠ bL3' ∧ bL0' ≠ bL1' ∧ bL0' ≠ bL2' ∧ bL0' ≠ bL3' ∧ bL1' ≠ bL2' ∧ bL1' ≠ bL3' ∧ bL2' ≠ bL3' ∧ Mod [] w w' := by
  refine Cl.of Try.func27 Try.ntmps27 rfl rfl (ρ := [(0, .agg #[vS bE 0 nE cE, vI ((iE : Nat) : Int), .slice none 0 0, vS bC0 0 nC0 cC0, vI ((iC0 : Nat) : Int), vF 1056964608, vS bC1 0 nC1 cC1, vI ((iC1 : Nat) : Int), vF 1056964608, vS bL0 0 nL0 cL0, vI ((iL0 : Nat) : Int), vS bL1 0 nL1 cL1, vI ((iL1 : Nat) : Int), vS bL2 0 nL2 cL2, vI ((iL2 : Nat) : Int), vS bL3 0 nL3 cL3, vI ((iL3 : Nat) : Int), vI 1, vF 1056964608, vF 1056964608, vF 0, vF s0, vF 0, vI 1, vF 1056964608, vF 1056964608, vF 0, vF s1, vF 0, vI 1, vF 1056964608, vF 1056964608, vF 0, vF s2, vF 0, vI 1, vF 1056964608, vF 1056964608, vF 0, vF s3, vF 0, vF g0, vF g1, vF g2, vF g3, vF 1065353216, vF 0])]) rfl ?_
  refine CE.seq ?_
  refine CE.region ?_
  refine WL.op (op_box (cs := [vS bE 0 nE cE, vI ((iE : Nat) : Int), .slice none 0 0, vS bC0 0 nC0 cC0, vI ((iC0 : Nat) : Int), vF 1056964608, vS bC1 0 nC1 cC1, vI ((iC1 : Nat) : Int), vF 1056964608, vS bL0 0 nL0 cL0, vI ((iL0 : Nat) : Int), vS bL1 0 nL1 cL1, vI ((iL1 : Nat) : Int), vS bL2 0 nL2 cL2, vI ((iL2 : Nat) : Int), vS bL3 0 nL3 cL3, vI ((iL3 : Nat) : Int), vI 1, vF 1056964608, vF 1056964608, vF 0, vF s0, vF 0, vI 1, vF 1056964608, vF 1056964608, vF 0, vF s1, vF 0, vI 1, vF 1056964608, vF 1056964608, vF 0, vF s2, vF 0, vI 1, vF 1056964608, vF 1056964608, vF 0, vF s3, vF 0, vF g0, vF g1, vF g2, vF g3, vF 1065353216, vF 0]) rfl rfl) rfl rfl (ltb rfl) ?_
  rintro _ w1 ⟨rfl, r1, m1, z1⟩
  refine WL.op (op_alloc (cs := [.slice none 0 0, vI 0, .slice none 0 0, .slice none 0 0, vI 0, vF 0, .slice none 0 0, vI 0, vF 0, .slice none 0 0, vI 0, .slice none 0 0, vI 0, .slice none 0 0, vI 0, .slice none 0 0, vI 0, vI 0, vF 0, vF 0, vF 0, vF 0, vF 0, vI 0, vF 0, vF 0, vF 0, vF 0, vF 0, vI 0, vF 0, vF 0, vF 0, vF 0, vF 0, vI 0, vF 0, vF 0, vF 0, vF 0, vF 0, vF 0, vF 0, vF 0, vF 0, vF 0, vF 0]) Try.zeroValue43 rfl) rfl rfl (ltb rfl) ?_
  rintro _ w2 ⟨rfl, r2, m2, z2⟩
  refine WL.end ?_
  refine NE.code ?_
  refine CE.seq ?_
  refine CE.draw (fun | 2 => some (fun _ wA uA wB => ∃ (b' : Nat) (c' : Nat), uA = .agg #[vS b' 0 nE c', vI ((iE : Nat) : Int)] ∧ Row wB b' 0 (fl xE) ∧ wA.heap.size ≤ b' ∧ Mod [] wA wB) | 5 => some (fun _ wA uA wB => uA = .slice none 0 0 ∧ Mod [] wA wB) | _ => none) [0, 1, 2, 3, 4, 5, 6] [7, 8, 9] [] (by kernel_rfl) (by kernel_rfl) ?_
  have md1 : Mod [] w2 w2.drew := (Mod.refl _ _).drew
  generalize w2.drew = w3 at md1 ⊢
  refine DR.det (i := 0) rfl rfl (by kernel_rfl) (.free rfl) rfl rfl (fun wD mD => op_fieldAddr (off' := 0) rfl Try.runUnderlying43 rfl rfl Try.sizeOf31 rfl) ?_
  refine DR.det (i := 1) rfl rfl (by kernel_rfl) (.free rfl) rfl rfl (fun wD mD => op_loadA (i := 0) (cs := [vS bE 0 nE cE, vI ((iE : Nat) : Int)]) rfl Try.isAgg31 Try.sizeOf31 (((r1.ext m2).ext md1).ext mD).rng rfl rfl rfl) ?_
  refine DR.det (i := 3) rfl rfl (by kernel_rfl) (.free rfl) rfl rfl (fun wD mD => op_fieldAddr (off' := 2) rfl Try.runUnderlying43 rfl rfl Try.sizeOf32 rfl) ?_
  refine DR.det (i := 4) rfl rfl (by kernel_rfl) (.free rfl) rfl rfl (fun wD mD => op_load1 (i := 2) rfl Try.isAgg32 (((r1.ext m2).ext md1).ext mD).rng rfl rfl) ?_
  refine DR.one (i := 2) rfl rfl (by kernel_rfl) (.free rfl) rfl (ltb rfl) (vs := [.func (.func 42) #[] #[], .agg #[vS bE 0 nE cE, vI ((iE : Nat) : Int)]]) rfl ?_
  intro w4 m3
  refine ⟨oc_call (vs := [.agg #[vS bE 0 nE cE, vI ((iE : Nat) : Int)]]) (cap := []) rfl rfl rfl Try.call42 (c_cloneRing nE cE bE xE ((iE : Nat) : Int) lnE (by omega) (by omega) w4 ((((rE.ext m1).ext m2).ext md1).ext m3)), ?_⟩
  rintro _ w5 ⟨b'1, c'1, rfl, r3, ge1, m4⟩
  refine ⟨(((Mod.refl [] w3).nt m3).nt m4), ?_⟩
  refine DR.rebase ?_
  refine DR.call (i := 5) (fun uA => uA = .slice none 0 0) rfl rfl (by kernel_rfl) (.free rfl) rfl (ltb rfl) ⟨_, rfl⟩ (vs := [.func (.func 43) #[] #[], .slice none 0 0]) rfl (fun wD mD => oc_call (vs := [.slice none 0 0]) (cap := []) rfl rfl rfl Try.call43 (c_CloneTap wD)) ?_ ?_
  · rintro w1 _ w2 m1 ⟨rfl, m2⟩; exact ⟨rfl, m2⟩
  rintro _ rfl
  refine DR.det (i := 6) rfl rfl (by kernel_rfl) (.free rfl) rfl rfl (fun wD mD => op_fieldAddr (off' := 0) rfl Try.runUnderlying43 rfl rfl Try.sizeOf31 rfl) ?_
  refine DR.done rfl ?_
  intro w6 m5
  have r4 := (((((r1.ext m2).ext md1).ext m3).ext m4).ext m5)
  refine WO.op0 rfl (.free rfl) rfl (op_store (i := 0) (cs := [vS b'1 0 nE c'1, vI ((iE : Nat) : Int)]) rfl rfl rfl Try.sizeOf31 rfl r4 rfl (lB rfl) rfl) ?_
  rintro _ w7 ⟨r5, m6, z3⟩
  have r6 : Row w7 w.heap.size 0 [vS b'1 0 nE c'1, vI ((iE : Nat) : Int), .slice none 0 0, vS bC0 0 nC0 cC0, vI ((iC0 : Nat) : Int), vF 1056964608, vS bC1 0 nC1 cC1, vI ((iC1 : Nat) : Int), vF 1056964608, vS bL0 0 nL0 cL0, vI ((iL0 : Nat) : Int), vS bL1 0 nL1 cL1, vI ((iL1 : Nat) : Int), vS bL2 0 nL2 cL2, vI ((iL2 : Nat) : Int), vS bL3 0 nL3 cL3, vI ((iL3 : Nat) : Int), vI 1, vF 1056964608, vF 1056964608, vF 0, vF s0, vF 0, vI 1, vF 1056964608, vF 1056964608, vF 0, vF s1, vF 0, vI 1, vF 1056964608, vF 1056964608, vF 0, vF s2, vF 0, vI 1, vF 1056964608, vF 1056964608, vF 0, vF s3, vF 0, vF g0, vF g1, vF g2, vF g3, vF 1065353216, vF 0] := Row.congr r5 rfl
  refine WO.det (op_fieldAddr (off' := 2) rfl Try.runUnderlying43 rfl rfl Try.sizeOf32 rfl) rfl (.free rfl) rfl rfl ?_
  refine WO.op0 rfl (.free rfl) rfl (op_store (i := 2) (cs := [.slice none 0 0]) rfl rfl rfl Try.sizeOf32 rfl r6 rfl (lB rfl) rfl) ?_
  rintro _ w8 ⟨r7, m7, z4⟩
  have r8 : Row w8 w.heap.size 0 [vS b'1 0 nE c'1, vI ((iE : Nat) : Int), .slice none 0 0, vS bC0 0 nC0 cC0, vI ((iC0 : Nat) : Int), vF 1056964608, vS bC1 0 nC1 cC1, vI ((iC1 : Nat) : Int), vF 1056964608, vS bL0 0 nL0 cL0, vI ((iL0 : Nat) : Int), vS bL1 0 nL1 cL1, vI ((iL1 : Nat) : Int), vS bL2 0 nL2 cL2, vI ((iL2 : Nat) : Int), vS bL3 0 nL3 cL3, vI ((iL3 : Nat) : Int), vI 1, vF 1056964608, vF 1056964608, vF 0, vF s0, vF 0, vI 1, vF 1056964608, vF 1056964608, vF 0, vF s1, vF 0, vI 1, vF 1056964608, vF 1056964608, vF 0, vF s2, vF 0, vI 1, vF 1056964608, vF 1056964608, vF 0, vF s3, vF 0, vF g0, vF g1, vF g2, vF g3, vF 1065353216, vF 0] := Row.congr r7 rfl
  refine WO.end ?_
  refine NE.code ?_
  iterate 2 refine CE.seq ?_
  refine CE.region ?_
  refine WL.det (op_move rfl) rfl rfl rfl ?_
  refine WL.end ?_
  refine NE.code ?_
  refine CE.block ?_
  refine CE.rounds 3 ?_
  refine RN.one ?_
  refine CE.seq ?_
  refine CE.region ?_
  refine WL.det (op_lti rfl rfl) rfl rfl rfl ?_
  refine WL.end ?_
  refine NE.code ?_
  refine CE.seq ?_
  refine CE.cond_t rfl rfl ?_
  refine CE.skip' ?_
  refine NE.code ?_
  refine CE.seq ?_
  refine CE.block ?_
  refine CE.seq ?_
  refine CE.region ?_
  refine WL.det (op_move rfl) rfl rfl rfl ?_
  refine WL.det (op_assign rfl) rfl rfl rfl ?_
  refine WL.end ?_
  refine NE.code ?_
  refine CE.region ?_
  iterate 2 refine WL.det (op_move rfl) rfl rfl rfl ?_
  refine WL.det (op_fieldAddr (off' := 3) rfl Try.runUnderlying43 rfl rfl Try.sizeOf35 rfl) rfl rfl rfl ?_
  refine WL.det (op_indexArr (off' := 3) rfl rfl Try.runUnderlying35 Try.sizeOf34 (by decide) (by decide) rfl) rfl rfl rfl ?_
  refine WL.det (op_fieldAddr (off' := 3) rfl Try.runUnderlying34 rfl rfl Try.sizeOf31 rfl) rfl rfl rfl ?_
  refine WL.det (op_loadA (i := 3) (cs := [vS bC0 0 nC0 cC0, vI ((iC0 : Nat) : Int)]) rfl Try.isAgg31 Try.sizeOf31 r8.rng rfl rfl rfl) rfl rfl rfl ?_
  have r9 := (Rng.youngS rC0 (Rng.youngS rC0 ((((((rC0.ext m1).ext m2).ext md1).ext m3).ext m4).ext m5) m6 (allge_cons lR allge_nil)) m7 (allge_cons lR allge_nil))
  refine WL.call (oc_call (vs := [.agg #[vS bC0 0 nC0 cC0, vI ((iC0 : Nat) : Int)]]) (cap := []) rfl rfl rfl Try.call42 (c_cloneRing nC0 cC0 bC0 xC0 ((iC0 : Nat) : Int) lnC0 (by omega) (by omega) w8 r9)) rfl rfl (ltb rfl) ?_
  rintro _ w9 ⟨b'2, c'2, rfl, r10, ge2, m8⟩
  refine WL.det (op_fieldAddr (off' := 3) rfl Try.runUnderlying43 rfl rfl Try.sizeOf35 rfl) rfl rfl rfl ?_
  refine WL.det (op_indexArr (off' := 3) rfl rfl Try.runUnderlying35 Try.sizeOf34 (by decide) (by decide) rfl) rfl rfl rfl ?_
  refine WL.det (op_fieldAddr (off' := 3) rfl Try.runUnderlying34 rfl rfl Try.sizeOf31 rfl) rfl rfl rfl ?_
  refine WL.op0 (op_store (i := 3) (cs := [vS b'2 0 nC0 c'2, vI ((iC0 : Nat) : Int)]) rfl rfl rfl Try.sizeOf31 rfl (r8.ext m8) rfl (lB rfl) rfl) rfl rfl ?_
  rintro _ w10 ⟨r11, m9, z5⟩
  have r12 : Row w10 w.heap.size 0 [vS b'1 0 nE c'1, vI ((iE : Nat) : Int), .slice none 0 0, vS b'2 0 nC0 c'2, vI ((iC0 : Nat) : Int), vF 1056964608, vS bC1 0 nC1 cC1, vI ((iC1 : Nat) : Int), vF 1056964608, vS bL0 0 nL0 cL0, vI ((iL0 : Nat) : Int), vS bL1 0 nL1 cL1, vI ((iL1 : Nat) : Int), vS bL2 0 nL2 cL2, vI ((iL2 : Nat) : Int), vS bL3 0 nL3 cL3, vI ((iL3 : Nat) : Int), vI 1, vF 1056964608, vF 1056964608, vF 0, vF s0, vF 0, vI 1, vF 1056964608, vF 1056964608, vF 0, vF s1, vF 0, vI 1, vF 1056964608, vF 1056964608, vF 0, vF s2, vF 0, vI 1, vF 1056964608, vF 1056964608, vF 0, vF s3, vF 0, vF g0, vF g1, vF g2, vF g3, vF 1065353216, vF 0] := Row.congr r11 rfl
  refine WL.end ?_
  refine NE.blk ?_
  refine NE.code ?_
  refine CE.region ?_
  refine WL.det (op_add (r := 1) rfl rfl (by decide)) rfl rfl rfl ?_
  refine WL.det (op_move rfl) rfl rfl rfl ?_
  refine WL.end ?_
  refine NE.round ?_
  refine RN.one ?_
  refine CE.seq ?_
  refine CE.region ?_
  refine WL.det (op_lti rfl rfl) rfl rfl rfl ?_
  refine WL.end ?_
  refine NE.code ?_
  refine CE.seq ?_
  refine CE.cond_t rfl rfl ?_
  refine CE.skip' ?_
  refine NE.code ?_
  refine CE.seq ?_
  refine CE.block ?_
  refine CE.seq ?_
  refine CE.region ?_
  refine WL.det (op_move rfl) rfl rfl rfl ?_
  refine WL.det (op_assign rfl) rfl rfl rfl ?_
  refine WL.end ?_
  refine NE.code ?_
  refine CE.region ?_
  iterate 2 refine WL.det (op_move rfl) rfl rfl rfl ?_
  refine WL.det (op_fieldAddr (off' := 3) rfl Try.runUnderlying43 rfl rfl Try.sizeOf35 rfl) rfl rfl rfl ?_
  refine WL.det (op_indexArr (off' := 6) rfl rfl Try.runUnderlying35 Try.sizeOf34 (by decide) (by decide) rfl) rfl rfl rfl ?_
  refine WL.det (op_fieldAddr (off' := 6) rfl Try.runUnderlying34 rfl rfl Try.sizeOf31 rfl) rfl rfl rfl ?_
  refine WL.det (op_loadA (i := 6) (cs := [vS bC1 0 nC1 cC1, vI ((iC1 : Nat) : Int)]) rfl Try.isAgg31 Try.sizeOf31 r12.rng rfl rfl rfl) rfl rfl rfl ?_
  have r13 := (Rng.youngS rC1 ((Rng.youngS rC1 (Rng.youngS rC1 ((((((rC1.ext m1).ext m2).ext md1).ext m3).ext m4).ext m5) m6 (allge_cons lR allge_nil)) m7 (allge_cons lR allge_nil)).ext m8) m9 (allge_cons lR allge_nil))
  refine WL.call (oc_call (vs := [.agg #[vS bC1 0 nC1 cC1, vI ((iC1 : Nat) : Int)]]) (cap := []) rfl rfl rfl Try.call42 (c_cloneRing nC1 cC1 bC1 xC1 ((iC1 : Nat) : Int) lnC1 (by omega) (by omega) w10 r13)) rfl rfl (ltb rfl) ?_
  rintro _ w11 ⟨b'3, c'3, rfl, r14, ge3, m10⟩
  refine WL.det (op_fieldAddr (off' := 3) rfl Try.runUnderlying43 rfl rfl Try.sizeOf35 rfl) rfl rfl rfl ?_
  refine WL.det (op_indexArr (off' := 6) rfl rfl Try.runUnderlying35 Try.sizeOf34 (by decide) (by decide) rfl) rfl rfl rfl ?_
  refine WL.det (op_fieldAddr (off' := 6) rfl Try.runUnderlying34 rfl rfl Try.sizeOf31 rfl) rfl rfl rfl ?_
  refine WL.op0 (op_store (i := 6) (cs := [vS b'3 0 nC1 c'3, vI ((iC1 : Nat) : Int)]) rfl rfl rfl Try.sizeOf31 rfl (r12.ext m10) rfl (lB rfl) rfl) rfl rfl ?_
  rintro _ w12 ⟨r15, m11, z6⟩
  have r16 : Row w12 w.heap.size 0 [vS b'1 0 nE c'1, vI ((iE : Nat) : Int), .slice none 0 0, vS b'2 0 nC0 c'2, vI ((iC0 : Nat) : Int), vF 1056964608, vS b'3 0 nC1 c'3, vI ((iC1 : Nat) : Int), vF 1056964608, vS bL0 0 nL0 cL0, vI ((iL0 : Nat) : Int), vS bL1 0 nL1 cL1, vI ((iL1 : Nat) : Int), vS bL2 0 nL2 cL2, vI ((iL2 : Nat) : Int), vS bL3 0 nL3 cL3, vI ((iL3 : Nat) : Int), vI 1, vF 1056964608, vF 1056964608, vF 0, vF s0, vF 0, vI 1, vF 1056964608, vF 1056964608, vF 0, vF s1, vF 0, vI 1, vF 1056964608, vF 1056964608, vF 0, vF s2, vF 0, vI 1, vF 1056964608, vF 1056964608, vF 0, vF s3, vF 0, vF g0, vF g1, vF g2, vF g3, vF 1065353216, vF 0] := Row.congr r15 rfl
  refine WL.end ?_
  refine NE.blk ?_
  refine NE.code ?_
  refine CE.region ?_
  refine WL.det (op_add (r := 2) rfl rfl (by decide)) rfl rfl rfl ?_
  refine WL.det (op_move rfl) rfl rfl rfl ?_
  refine WL.end ?_
  refine NE.round ?_
  refine RN.one ?_
  refine CE.seq ?_
  refine CE.region ?_
  refine WL.det (op_lti rfl rfl) rfl rfl rfl ?_
  refine WL.end ?_
  refine NE.code ?_
  refine CE.seq ?_
  refine CE.cond_f rfl rfl ?_
  refine CE.exit' ?_
  iterate 2 refine XE.exit_then ?_
  refine XE.exit_here ?_
  refine NE.code ?_
  iterate 2 refine CE.seq ?_
  refine CE.region ?_
  refine WL.det (op_move rfl) rfl rfl rfl ?_
  refine WL.end ?_
  refine NE.code ?_
  refine CE.block ?_
  refine CE.rounds 5 ?_
  refine RN.one ?_
  refine CE.seq ?_
  refine CE.region ?_
  refine WL.det (op_lti rfl rfl) rfl rfl rfl ?_
  refine WL.end ?_
  refine NE.code ?_
  refine CE.seq ?_
  refine CE.cond_t rfl rfl ?_
  refine CE.skip' ?_
  refine NE.code ?_
  refine CE.seq ?_
  refine CE.block ?_
  refine CE.seq ?_
  refine CE.region ?_
  refine WL.det (op_move rfl) rfl rfl rfl ?_
  refine WL.det (op_assign rfl) rfl rfl rfl ?_
  refine WL.end ?_
  refine NE.code ?_
  refine CE.region ?_
  iterate 2 refine WL.det (op_move rfl) rfl rfl rfl ?_
  refine WL.det (op_fieldAddr (off' := 9) rfl Try.runUnderlying43 rfl rfl Try.sizeOf36 rfl) rfl rfl rfl ?_
  refine WL.det (op_indexArr (off' := 9) rfl rfl Try.runUnderlying36 Try.sizeOf31 (by decide) (by decide) rfl) rfl rfl rfl ?_
  refine WL.det (op_loadA (i := 9) (cs := [vS bL0 0 nL0 cL0, vI ((iL0 : Nat) : Int)]) rfl Try.isAgg31 Try.sizeOf31 r16.rng rfl rfl rfl) rfl rfl rfl ?_
  have r17 := (Rng.youngS rL0 ((Rng.youngS rL0 ((Rng.youngS rL0 (Rng.youngS rL0 ((((((rL0.ext m1).ext m2).ext md1).ext m3).ext m4).ext m5) m6 (allge_cons lR allge_nil)) m7 (allge_cons lR allge_nil)).ext m8) m9 (allge_cons lR allge_nil)).ext m10) m11 (allge_cons lR allge_nil))
  refine WL.call (oc_call (vs := [.agg #[vS bL0 0 nL0 cL0, vI ((iL0 : Nat) : Int)]]) (cap := []) rfl rfl rfl Try.call42 (c_cloneRing nL0 cL0 bL0 xL0 ((iL0 : Nat) : Int) lnL0 (by omega) (by omega) w12 r17)) rfl rfl (ltb rfl) ?_
  rintro _ w13 ⟨b'4, c'4, rfl, r18, ge4, m12⟩
  refine WL.det (op_fieldAddr (off' := 9) rfl Try.runUnderlying43 rfl rfl Try.sizeOf36 rfl) rfl rfl rfl ?_
  refine WL.det (op_indexArr (off' := 9) rfl rfl Try.runUnderlying36 Try.sizeOf31 (by decide) (by decide) rfl) rfl rfl rfl ?_
  refine WL.op0 (op_store (i := 9) (cs := [vS b'4 0 nL0 c'4, vI ((iL0 : Nat) : Int)]) rfl rfl rfl Try.sizeOf31 rfl (r16.ext m12) rfl (lB rfl) rfl) rfl rfl ?_
  rintro _ w14 ⟨r19, m13, z7⟩
  have r20 : Row w14 w.heap.size 0 [vS b'1 0 nE c'1, vI ((iE : Nat) : Int), .slice none 0 0, vS b'2 0 nC0 c'2, vI ((iC0 : Nat) : Int), vF 1056964608, vS b'3 0 nC1 c'3, vI ((iC1 : Nat) : Int), vF 1056964608, vS b'4 0 nL0 c'4, vI ((iL0 : Nat) : Int), vS bL1 0 nL1 cL1, vI ((iL1 : Nat) : Int), vS bL2 0 nL2 cL2, vI ((iL2 : Nat) : Int), vS bL3 0 nL3 cL3, vI ((iL3 : Nat) : Int), vI 1, vF 1056964608, vF 1056964608, vF 0, vF s0, vF 0, vI 1, vF 1056964608, vF 1056964608, vF 0, vF s1, vF 0, vI 1, vF 1056964608, vF 1056964608, vF 0, vF s2, vF 0, vI 1, vF 1056964608, vF 1056964608, vF 0, vF s3, vF 0, vF g0, vF g1, vF g2, vF g3, vF 1065353216, vF 0] := Row.congr r19 rfl
  refine WL.end ?_
  refine NE.blk ?_
  refine NE.code ?_
  refine CE.region ?_
  refine WL.det (op_add (r := 1) rfl rfl (by decide)) rfl rfl rfl ?_
  refine WL.det (op_move rfl) rfl rfl rfl ?_
  refine WL.end ?_
  refine NE.round ?_
  refine RN.one ?_
  refine CE.seq ?_
  refine CE.region ?_
  refine WL.det (op_lti rfl rfl) rfl rfl rfl ?_
  refine WL.end ?_
  refine NE.code ?_
  refine CE.seq ?_
  refine CE.cond_t rfl rfl ?_
  refine CE.skip' ?_
  refine NE.code ?_
  refine CE.seq ?_
  refine CE.block ?_
  refine CE.seq ?_
  refine CE.region ?_
  refine WL.det (op_move rfl) rfl rfl rfl ?_
  refine WL.det (op_assign rfl) rfl rfl rfl ?_
  refine WL.end ?_
  refine NE.code ?_
  refine CE.region ?_
  iterate 2 refine WL.det (op_move rfl) rfl rfl rfl ?_
  refine WL.det (op_fieldAddr (off' := 9) rfl Try.runUnderlying43 rfl rfl Try.sizeOf36 rfl) rfl rfl rfl ?_
  refine WL.det (op_indexArr (off' := 11) rfl rfl Try.runUnderlying36 Try.sizeOf31 (by decide) (by decide) rfl) rfl rfl rfl ?_
  refine WL.det (op_loadA (i := 11) (cs := [vS bL1 0 nL1 cL1, vI ((iL1 : Nat) : Int)]) rfl Try.isAgg31 Try.sizeOf31 r20.rng rfl rfl rfl) rfl rfl rfl ?_
  have r21 := (Rng.youngS rL1 ((Rng.youngS rL1 ((Rng.youngS rL1 ((Rng.youngS rL1 (Rng.youngS rL1 ((((((rL1.ext m1).ext m2).ext md1).ext m3).ext m4).ext m5) m6 (allge_cons lR allge_nil)) m7 (allge_cons lR allge_nil)).ext m8) m9 (allge_cons lR allge_nil)).ext m10) m11 (allge_cons lR allge_nil)).ext m12) m13 (allge_cons lR allge_nil))
  refine WL.call (oc_call (vs := [.agg #[vS bL1 0 nL1 cL1, vI ((iL1 : Nat) : Int)]]) (cap := []) rfl rfl rfl Try.call42 (c_cloneRing nL1 cL1 bL1 xL1 ((iL1 : Nat) : Int) lnL1 (by omega) (by omega) w14 r21)) rfl rfl (ltb rfl) ?_
  rintro _ w15 ⟨b'5, c'5, rfl, r22, ge5, m14⟩
  refine WL.det (op_fieldAddr (off' := 9) rfl Try.runUnderlying43 rfl rfl Try.sizeOf36 rfl) rfl rfl rfl ?_
  refine WL.det (op_indexArr (off' := 11) rfl rfl Try.runUnderlying36 Try.sizeOf31 (by decide) (by decide) rfl) rfl rfl rfl ?_
  refine WL.op0 (op_store (i := 11) (cs := [vS b'5 0 nL1 c'5, vI ((iL1 : Nat) : Int)]) rfl rfl rfl Try.sizeOf31 rfl (r20.ext m14) rfl (lB rfl) rfl) rfl rfl ?_
  rintro _ w16 ⟨r23, m15, z8⟩
  have r24 : Row w16 w.heap.size 0 [vS b'1 0 nE c'1, vI ((iE : Nat) : Int), .slice none 0 0, vS b'2 0 nC0 c'2, vI ((iC0 : Nat) : Int), vF 1056964608, vS b'3 0 nC1 c'3, vI ((iC1 : Nat) : Int), vF 1056964608, vS b'4 0 nL0 c'4, vI ((iL0 : Nat) : Int), vS b'5 0 nL1 c'5, vI ((iL1 : Nat) : Int), vS bL2 0 nL2 cL2, vI ((iL2 : Nat) : Int), vS bL3 0 nL3 cL3, vI ((iL3 : Nat) : Int), vI 1, vF 1056964608, vF 1056964608, vF 0, vF s0, vF 0, vI 1, vF 1056964608, vF 1056964608, vF 0, vF s1, vF 0, vI 1, vF 1056964608, vF 1056964608, vF 0, vF s2, vF 0, vI 1, vF 1056964608, vF 1056964608, vF 0, vF s3, vF 0, vF g0, vF g1, vF g2, vF g3, vF 1065353216, vF 0] := Row.congr r23 rfl
  refine WL.end ?_
  refine NE.blk ?_
  refine NE.code ?_
  refine CE.region ?_
  refine WL.det (op_add (r := 2) rfl rfl (by decide)) rfl rfl rfl ?_
  refine WL.det (op_move rfl) rfl rfl rfl ?_
  refine WL.end ?_
  refine NE.round ?_
  refine RN.one ?_
  refine CE.seq ?_
  refine CE.region ?_
  refine WL.det (op_lti rfl rfl) rfl rfl rfl ?_
  refine WL.end ?_
  refine NE.code ?_
  refine CE.seq ?_
  refine CE.cond_t rfl rfl ?_
  refine CE.skip' ?_
  refine NE.code ?_
  refine CE.seq ?_
  refine CE.block ?_
  refine CE.seq ?_
  refine CE.region ?_
  refine WL.det (op_move rfl) rfl rfl rfl ?_
  refine WL.det (op_assign rfl) rfl rfl rfl ?_
  refine WL.end ?_
  refine NE.code ?_
  refine CE.region ?_
  iterate 2 refine WL.det (op_move rfl) rfl rfl rfl ?_
  refine WL.det (op_fieldAddr (off' := 9) rfl Try.runUnderlying43 rfl rfl Try.sizeOf36 rfl) rfl rfl rfl ?_
  refine WL.det (op_indexArr (off' := 13) rfl rfl Try.runUnderlying36 Try.sizeOf31 (by decide) (by decide) rfl) rfl rfl rfl ?_
  refine WL.det (op_loadA (i := 13) (cs := [vS bL2 0 nL2 cL2, vI ((iL2 : Nat) : Int)]) rfl Try.isAgg31 Try.sizeOf31 r24.rng rfl rfl rfl) rfl rfl rfl ?_
  have r25 := (Rng.youngS rL2 ((Rng.youngS rL2 ((Rng.youngS rL2 ((Rng.youngS rL2 ((Rng.youngS rL2 (Rng.youngS rL2 ((((((rL2.ext m1).ext m2).ext md1).ext m3).ext m4).ext m5) m6 (allge_cons lR allge_nil)) m7 (allge_cons lR allge_nil)).ext m8) m9 (allge_cons lR allge_nil)).ext m10) m11 (allge_cons lR allge_nil)).ext m12) m13 (allge_cons lR allge_nil)).ext m14) m15 (allge_cons lR allge_nil))
  refine WL.call (oc_call (vs := [.agg #[vS bL2 0 nL2 cL2, vI ((iL2 : Nat) : Int)]]) (cap := []) rfl rfl rfl Try.call42 (c_cloneRing nL2 cL2 bL2 xL2 ((iL2 : Nat) : Int) lnL2 (by omega) (by omega) w16 r25)) rfl rfl (ltb rfl) ?_
  rintro _ w17 ⟨b'6, c'6, rfl, r26, ge6, m16⟩
  refine WL.det (op_fieldAddr (off' := 9) rfl Try.runUnderlying43 rfl rfl Try.sizeOf36 rfl) rfl rfl rfl ?_
  refine WL.det (op_indexArr (off' := 13) rfl rfl Try.runUnderlying36 Try.sizeOf31 (by decide) (by decide) rfl) rfl rfl rfl ?_
  refine WL.op0 (op_store (i := 13) (cs := [vS b'6 0 nL2 c'6, vI ((iL2 : Nat) : Int)]) rfl rfl rfl Try.sizeOf31 rfl (r24.ext m16) rfl (lB rfl) rfl) rfl rfl ?_
  rintro _ w18 ⟨r27, m17, z9⟩
  have r28 : Row w18 w.heap.size 0 [vS b'1 0 nE c'1, vI ((iE : Nat) : Int), .slice none 0 0, vS b'2 0 nC0 c'2, vI ((iC0 : Nat) : Int), vF 1056964608, vS b'3 0 nC1 c'3, vI ((iC1 : Nat) : Int), vF 1056964608, vS b'4 0 nL0 c'4, vI ((iL0 : Nat) : Int), vS b'5 0 nL1 c'5, vI ((iL1 : Nat) : Int), vS b'6 0 nL2 c'6, vI ((iL2 : Nat) : Int), vS bL3 0 nL3 cL3, vI ((iL3 : Nat) : Int), vI 1, vF 1056964608, vF 1056964608, vF 0, vF s0, vF 0, vI 1, vF 1056964608, vF 1056964608, vF 0, vF s1, vF 0, vI 1, vF 1056964608, vF 1056964608, vF 0, vF s2, vF 0, vI 1, vF 1056964608, vF 1056964608, vF 0, vF s3, vF 0, vF g0, vF g1, vF g2, vF g3, vF 1065353216, vF 0] := Row.congr r27 rfl
  refine WL.end ?_
  refine NE.blk ?_
  refine NE.code ?_
  refine CE.region ?_
  refine WL.det (op_add (r := 3) rfl rfl (by decide)) rfl rfl rfl ?_
  refine WL.det (op_move rfl) rfl rfl rfl ?_
  refine WL.end ?_
  refine NE.round ?_
  refine RN.one ?_
  refine CE.seq ?_
  refine CE.region ?_
  refine WL.det (op_lti rfl rfl) rfl rfl rfl ?_
  refine WL.end ?_
  refine NE.code ?_
  refine CE.seq ?_
  refine CE.cond_t rfl rfl ?_
  refine CE.skip' ?_
  refine NE.code ?_
  refine CE.seq ?_
  refine CE.block ?_
  refine CE.seq ?_
  refine CE.region ?_
  refine WL.det (op_move rfl) rfl rfl rfl ?_
  refine WL.det (op_assign rfl) rfl rfl rfl ?_
  refine WL.end ?_
  refine NE.code ?_
  refine CE.region ?_
  iterate 2 refine WL.det (op_move rfl) rfl rfl rfl ?_
  refine WL.det (op_fieldAddr (off' := 9) rfl Try.runUnderlying43 rfl rfl Try.sizeOf36 rfl) rfl rfl rfl ?_
  refine WL.det (op_indexArr (off' := 15) rfl rfl Try.runUnderlying36 Try.sizeOf31 (by decide) (by decide) rfl) rfl rfl rfl ?_
  refine WL.det (op_loadA (i := 15) (cs := [vS bL3 0 nL3 cL3, vI ((iL3 : Nat) : Int)]) rfl Try.isAgg31 Try.sizeOf31 r28.rng rfl rfl rfl) rfl rfl rfl ?_
  have r29 := (Rng.youngS rL3 ((Rng.youngS rL3 ((Rng.youngS rL3 ((Rng.youngS rL3 ((Rng.youngS rL3 ((Rng.youngS rL3 (Rng.youngS rL3 ((((((rL3.ext m1).ext m2).ext md1).ext m3).ext m4).ext m5) m6 (allge_cons lR allge_nil)) m7 (allge_cons lR allge_nil)).ext m8) m9 (allge_cons lR allge_nil)).ext m10) m11 (allge_cons lR allge_nil)).ext m12) m13 (allge_cons lR allge_nil)).ext m14) m15 (allge_cons lR allge_nil)).ext m16) m17 (allge_cons lR allge_nil))
  refine WL.call (oc_call (vs := [.agg #[vS bL3 0 nL3 cL3, vI ((iL3 : Nat) : Int)]]) (cap := []) rfl rfl rfl Try.call42 (c_cloneRing nL3 cL3 bL3 xL3 ((iL3 : Nat) : Int) lnL3 (by omega) (by omega) w18 r29)) rfl rfl (ltb rfl) ?_
  rintro _ w19 ⟨b'7, c'7, rfl, r30, ge7, m18⟩
  refine WL.det (op_fieldAddr (off' := 9) rfl Try.runUnderlying43 rfl rfl Try.sizeOf36 rfl) rfl rfl rfl ?_
  refine WL.det (op_indexArr (off' := 15) rfl rfl Try.runUnderlying36 Try.sizeOf31 (by decide) (by decide) rfl) rfl rfl rfl ?_
  refine WL.op0 (op_store (i := 15) (cs := [vS b'7 0 nL3 c'7, vI ((iL3 : Nat) : Int)]) rfl rfl rfl Try.sizeOf31 rfl (r28.ext m18) rfl (lB rfl) rfl) rfl rfl ?_
  rintro _ w20 ⟨r31, m19, z10⟩
  have r32 : Row w20 w.heap.size 0 [vS b'1 0 nE c'1, vI ((iE : Nat) : Int), .slice none 0 0, vS b'2 0 nC0 c'2, vI ((iC0 : Nat) : Int), vF 1056964608, vS b'3 0 nC1 c'3, vI ((iC1 : Nat) : Int), vF 1056964608, vS b'4 0 nL0 c'4, vI ((iL0 : Nat) : Int), vS b'5 0 nL1 c'5, vI ((iL1 : Nat) : Int), vS b'6 0 nL2 c'6, vI ((iL2 : Nat) : Int), vS b'7 0 nL3 c'7, vI ((iL3 : Nat) : Int), vI 1, vF 1056964608, vF 1056964608, vF 0, vF s0, vF 0, vI 1, vF 1056964608, vF 1056964608, vF 0, vF s1, vF 0, vI 1, vF 1056964608, vF 1056964608, vF 0, vF s2, vF 0, vI 1, vF 1056964608, vF 1056964608, vF 0, vF s3, vF 0, vF g0, vF g1, vF g2, vF g3, vF 1065353216, vF 0] := Row.congr r31 rfl
  refine WL.end ?_
  refine NE.blk ?_
  refine NE.code ?_
  refine CE.region ?_
  refine WL.det (op_add (r := 4) rfl rfl (by decide)) rfl rfl rfl ?_
  refine WL.det (op_move rfl) rfl rfl rfl ?_
  refine WL.end ?_
  refine NE.round ?_
  refine RN.one ?_
  refine CE.seq ?_
  refine CE.region ?_
  refine WL.det (op_lti rfl rfl) rfl rfl rfl ?_
  refine WL.end ?_
  refine NE.code ?_
  refine CE.seq ?_
  refine CE.cond_f rfl rfl ?_
  refine CE.exit' ?_
  iterate 2 refine XE.exit_then ?_
  refine XE.exit_here ?_
  refine NE.code ?_
  refine CE.seq ?_
  refine CE.region ?_
  refine WL.det (op_loadA (i := 0) (cs := [vS b'1 0 nE c'1, vI ((iE : Nat) : Int), .slice none 0 0, vS b'2 0 nC0 c'2, vI ((iC0 : Nat) : Int), vF 1056964608, vS b'3 0 nC1 c'3, vI ((iC1 : Nat) : Int), vF 1056964608, vS b'4 0 nL0 c'4, vI ((iL0 : Nat) : Int), vS b'5 0 nL1 c'5, vI ((iL1 : Nat) : Int), vS b'6 0 nL2 c'6, vI ((iL2 : Nat) : Int), vS b'7 0 nL3 c'7, vI ((iL3 : Nat) : Int), vI 1, vF 1056964608, vF 1056964608, vF 0, vF s0, vF 0, vI 1, vF 1056964608, vF 1056964608, vF 0, vF s1, vF 0, vI 1, vF 1056964608, vF 1056964608, vF 0, vF s2, vF 0, vI 1, vF 1056964608, vF 1056964608, vF 0, vF s3, vF 0, vF g0, vF g1, vF g2, vF g3, vF 1065353216, vF 0]) rfl Try.isAgg43 Try.sizeOf43 r32.rng rfl rfl rfl) rfl rfl rfl ?_
  have r33 := ((((((((((((((((((r2.ext md1).ext m3).ext m4).ext m5).mod m6 (nC (lG (lL r1.lt lR)) nN)).mod m7 (nC (lG (lL r1.lt lR)) nN)).ext m8).mod m9 (nC (lG (lL r1.lt lR)) nN)).ext m10).mod m11 (nC (lG (lL r1.lt lR)) nN)).ext m12).mod m13 (nC (lG (lL r1.lt lR)) nN)).ext m14).mod m15 (nC (lG (lL r1.lt lR)) nN)).ext m16).mod m17 (nC (lG (lL r1.lt lR)) nN)).ext m18).mod m19 (nC (lG (lL r1.lt lR)) nN))
  refine WL.op0 (op_store (i := 0) (cs := [vS b'1 0 nE c'1, vI ((iE : Nat) : Int), .slice none 0 0, vS b'2 0 nC0 c'2, vI ((iC0 : Nat) : Int), vF 1056964608, vS b'3 0 nC1 c'3, vI ((iC1 : Nat) : Int), vF 1056964608, vS b'4 0 nL0 c'4, vI ((iL0 : Nat) : Int), vS b'5 0 nL1 c'5, vI ((iL1 : Nat) : Int), vS b'6 0 nL2 c'6, vI ((iL2 : Nat) : Int), vS b'7 0 nL3 c'7, vI ((iL3 : Nat) : Int), vI 1, vF 1056964608, vF 1056964608, vF 0, vF s0, vF 0, vI 1, vF 1056964608, vF 1056964608, vF 0, vF s1, vF 0, vI 1, vF 1056964608, vF 1056964608, vF 0, vF s2, vF 0, vI 1, vF 1056964608, vF 1056964608, vF 0, vF s3, vF 0, vF g0, vF g1, vF g2, vF g3, vF 1065353216, vF 0]) rfl rfl rfl Try.sizeOf43 rfl r33 rfl (lB rfl) rfl) rfl rfl ?_
  rintro _ w21 ⟨r34, m20, z11⟩
  have r35 : Row w21 w1.heap.size 0 [vS b'1 0 nE c'1, vI ((iE : Nat) : Int), .slice none 0 0, vS b'2 0 nC0 c'2, vI ((iC0 : Nat) : Int), vF 1056964608, vS b'3 0 nC1 c'3, vI ((iC1 : Nat) : Int), vF 1056964608, vS b'4 0 nL0 c'4, vI ((iL0 : Nat) : Int), vS b'5 0 nL1 c'5, vI ((iL1 : Nat) : Int), vS b'6 0 nL2 c'6, vI ((iL2 : Nat) : Int), vS b'7 0 nL3 c'7, vI ((iL3 : Nat) : Int), vI 1, vF 1056964608, vF 1056964608, vF 0, vF s0, vF 0, vI 1, vF 1056964608, vF 1056964608, vF 0, vF s1, vF 0, vI 1, vF 1056964608, vF 1056964608, vF 0, vF s2, vF 0, vI 1, vF 1056964608, vF 1056964608, vF 0, vF s3, vF 0, vF g0, vF g1, vF g2, vF g3, vF 1065353216, vF 0] := Row.congr r34 rfl
  refine WL.end ?_
  refine NE.code ?_
  refine CE.ret' ?_
  refine XE.leaveC Try.results27 (res_agg (cs := [vS b'1 0 nE c'1, vI ((iE : Nat) : Int), .slice none 0 0, vS b'2 0 nC0 c'2, vI ((iC0 : Nat) : Int), vF 1056964608, vS b'3 0 nC1 c'3, vI ((iC1 : Nat) : Int), vF 1056964608, vS b'4 0 nL0 c'4, vI ((iL0 : Nat) : Int), vS b'5 0 nL1 c'5, vI ((iL1 : Nat) : Int), vS b'6 0 nL2 c'6, vI ((iL2 : Nat) : Int), vS b'7 0 nL3 c'7, vI ((iL3 : Nat) : Int), vI 1, vF 1056964608, vF 1056964608, vF 0, vF s0, vF 0, vI 1, vF 1056964608, vF 1056964608, vF 0, vF s1, vF 0, vI 1, vF 1056964608, vF 1056964608, vF 0, vF s2, vF 0, vI 1, vF 1056964608, vF 1056964608, vF 0, vF s3, vF 0, vF g0, vF g1, vF g2, vF g3, vF 1065353216, vF 0]) rfl Try.isAgg43 Try.sizeOf43 r35.rng rfl res_nil) ?_
  have sz1 := (lT (lT m2.size md1.size) m3.size)
  have r36 := ((((((((((((((((r3.ext m5).mod m6 (nC (lG (lL (lL r1.lt sz1) ge1)) nN)).mod m7 (nC (lG (lL (lL r1.lt sz1) ge1)) nN)).ext m8).mod m9 (nC (lG (lL (lL r1.lt sz1) ge1)) nN)).ext m10).mod m11 (nC (lG (lL (lL r1.lt sz1) ge1)) nN)).ext m12).mod m13 (nC (lG (lL (lL r1.lt sz1) ge1)) nN)).ext m14).mod m15 (nC (lG (lL (lL r1.lt sz1) ge1)) nN)).ext m16).mod m17 (nC (lG (lL (lL r1.lt sz1) ge1)) nN)).ext m18).mod m19 (nC (lG (lL (lL r1.lt sz1) ge1)) nN)).mod m20 (nC (lG (lL (lL r2.lt (lT md1.size m3.size)) ge1)) nN))
  have sz2 := (lT (lT (lT (lT sz1 m4.size) m5.size) m6.size) m7.size)
  have sz3 := (lT (lT (lT (lT (lT md1.size m3.size) m4.size) m5.size) m6.size) m7.size)
  have r37 := ((((((((((((r10.mod m9 (nC (lG (lL (lL r1.lt sz2) ge2)) nN)).ext m10).mod m11 (nC (lG (lL (lL r1.lt sz2) ge2)) nN)).ext m12).mod m13 (nC (lG (lL (lL r1.lt sz2) ge2)) nN)).ext m14).mod m15 (nC (lG (lL (lL r1.lt sz2) ge2)) nN)).ext m16).mod m17 (nC (lG (lL (lL r1.lt sz2) ge2)) nN)).ext m18).mod m19 (nC (lG (lL (lL r1.lt sz2) ge2)) nN)).mod m20 (nC (lG (lL (lL r2.lt sz3) ge2)) nN))
  have sz4 := (lT (lT sz2 m8.size) m9.size)
  have sz5 := (lT (lT sz3 m8.size) m9.size)
  have r38 := ((((((((((r14.mod m11 (nC (lG (lL (lL r1.lt sz4) ge3)) nN)).ext m12).mod m13 (nC (lG (lL (lL r1.lt sz4) ge3)) nN)).ext m14).mod m15 (nC (lG (lL (lL r1.lt sz4) ge3)) nN)).ext m16).mod m17 (nC (lG (lL (lL r1.lt sz4) ge3)) nN)).ext m18).mod m19 (nC (lG (lL (lL r1.lt sz4) ge3)) nN)).mod m20 (nC (lG (lL (lL r2.lt sz5) ge3)) nN))
  have sz6 := (lT (lT sz4 m10.size) m11.size)
  have sz7 := (lT (lT sz5 m10.size) m11.size)
  have r39 := ((((((((r18.mod m13 (nC (lG (lL (lL r1.lt sz6) ge4)) nN)).ext m14).mod m15 (nC (lG (lL (lL r1.lt sz6) ge4)) nN)).ext m16).mod m17 (nC (lG (lL (lL r1.lt sz6) ge4)) nN)).ext m18).mod m19 (nC (lG (lL (lL r1.lt sz6) ge4)) nN)).mod m20 (nC (lG (lL (lL r2.lt sz7) ge4)) nN))
  have sz8 := (lT (lT sz6 m12.size) m13.size)
  have sz9 := (lT (lT sz7 m12.size) m13.size)
  have r40 := ((((((r22.mod m15 (nC (lG (lL (lL r1.lt sz8) ge5)) nN)).ext m16).mod m17 (nC (lG (lL (lL r1.lt sz8) ge5)) nN)).ext m18).mod m19 (nC (lG (lL (lL r1.lt sz8) ge5)) nN)).mod m20 (nC (lG (lL (lL r2.lt sz9) ge5)) nN))
  have sz10 := (lT (lT sz8 m14.size) m15.size)
  have sz11 := (lT (lT sz9 m14.size) m15.size)
  have r41 := ((((r26.mod m17 (nC (lG (lL (lL r1.lt sz10) ge6)) nN)).ext m18).mod m19 (nC (lG (lL (lL r1.lt sz10) ge6)) nN)).mod m20 (nC (lG (lL (lL r2.lt sz11) ge6)) nN))
  have sz12 := (lT (lT sz10 m16.size) m17.size)
  have sz13 := (lT (lT sz11 m16.size) m17.size)
  have r42 := ((r30.mod m19 (nC (lG (lL (lL r1.lt sz12) ge7)) nN)).mod m20 (nC (lG (lL (lL r2.lt sz13) ge7)) nN))
  have sz14 := (lT (lT (lT m1.size m2.size) md1.size) m3.size)
  have sz15 := (lT (lT (lT (lT sz14 m4.size) m5.size) m6.size) m7.size)
  have sz16 := (lT (lT sz15 m8.size) m9.size)
  have sz17 := (lT (lT sz16 m10.size) m11.size)
  have sz18 := (lT (lT sz17 m12.size) m13.size)
  have sz19 := (lT (lT sz18 m14.size) m15.size)
  have sz20 := (lT (lT sz19 m16.size) m17.size)
  have sz21 := (lT (lT m5.size m6.size) m7.size)
  have sz22 := (lT (lT sz21 m8.size) m9.size)
  have sz23 := (lT (lT sz22 m10.size) m11.size)
  have sz24 := (lT (lT sz23 m12.size) m13.size)
  have sz25 := (lT (lT sz24 m14.size) m15.size)
  have sz26 := (lT (lT sz25 m16.size) m17.size)
  have sz27 := (lT (lT m9.size m10.size) m11.size)
  have sz28 := (lT (lT sz27 m12.size) m13.size)
  have sz29 := (lT (lT sz28 m14.size) m15.size)
  have sz30 := (lT (lT sz29 m16.size) m17.size)
  have sz31 := (lT (lT m11.size m12.size) m13.size)
  have sz32 := (lT (lT sz31 m14.size) m15.size)
  have sz33 := (lT (lT sz32 m16.size) m17.size)
  have sz34 := (lT (lT m13.size m14.size) m15.size)
  have sz35 := (lT (lT sz34 m16.size) m17.size)
  have sz36 := (lT (lT m15.size m16.size) m17.size)
  refine ⟨b'1, c'1, b'2, c'2, b'3, c'3, b'4, c'4, b'5, c'5, b'6, c'6, b'7, c'7, rfl, r36, r37, r38, r39, r40, r41, r42, (lT sz14 ge1), (lT sz15 ge2), (lT sz16 ge3), (lT sz17 ge4), (lT sz18 ge5), (lT sz19 ge6), (lT sz20 ge7), (lE (lL (lL r3.lt sz21) ge2)), (lE (lL (lL r3.lt sz22) ge3)), (lE (lL (lL r3.lt sz23) ge4)), (lE (lL (lL r3.lt sz24) ge5)), (lE (lL (lL r3.lt sz25) ge6)), (lE (lL (lL r3.lt sz26) ge7)), (lE (lL (lL r10.lt m9.size) ge3)), (lE (lL (lL r10.lt sz27) ge4)), (lE (lL (lL r10.lt sz28) ge5)), (lE (lL (lL r10.lt sz29) ge6)), (lE (lL (lL r10.lt sz30) ge7)), (lE (lL (lL r14.lt m11.size) ge4)), (lE (lL (lL r14.lt sz31) ge5)), (lE (lL (lL r14.lt sz32) ge6)), (lE (lL (lL r14.lt sz33) ge7)), (lE (lL (lL r18.lt m13.size) ge5)), (lE (lL (lL r18.lt sz34) ge6)), (lE (lL (lL r18.lt sz35) ge7)), (lE (lL (lL r22.lt m15.size) ge6)), (lE (lL (lL r22.lt sz36) ge7)), (lE (lL (lL r26.lt m17.size) ge7)), ((((((((((((((((((((((Mod.refl [] w).nt m1).nt m2).nt md1).nt m3).nt m4).nt m5).then m6 ((aC (.inr lR) aN))).then m7 ((aC (.inr lR) aN))).nt m8).then m9 ((aC (.inr lR) aN))).nt m10).then m11 ((aC (.inr lR) aN))).nt m12).then m13 ((aC (.inr lR) aN))).nt m14).then m15 ((aC (.inr lR) aN))).nt m16).then m17 ((aC (.inr lR) aN))).nt m18).then m19 ((aC (.inr lR) aN))).then m20 ((aC (.inr (lT m1.size lR)) aN)))⟩

theorem c_rstepT (nE : Nat) (cE : Nat) (bE : Nat) (xE : List Nat) (iE : Nat) (nC0 : Nat) (cC0 : Nat) (bC0 : Nat) (xC0 : List Nat) (iC0 : Nat) (nC1 : Nat) (cC1 : Nat) (bC1 : Nat) (xC1 : List Nat) (iC1 : Nat) (nL0 : Nat) (cL0 : Nat) (bL0 : Nat) (xL0 : List Nat) (iL0 : Nat) (nL1 : Nat) (cL1 : Nat) (bL1 : Nat) (xL1 : List Nat) (iL1 : Nat) (nL2 : Nat) (cL2 : Nat) (bL2 : Nat) (xL2 : List Nat) (iL2 : Nat) (nL3 : Nat) (cL3 : Nat) (bL3 : Nat) (xL3 : List Nat) (iL3 : Nat) (s0 : Nat) (s1 : Nat) (s2 : Nat) (s3 : Nat) (g0 : Nat) (g1 : Nat) (g2 : Nat) (g3 : Nat) (p : Nat) (t : Nat) (a : Nat) (lnE : xE.length = nE) (lnC0 : xC0.length = nC0) (lnC1 : xC1.length = nC1) (lnL0 : xL0.length = nL0) (lnL1 : xL1.length = nL1) (lnL2 : xL2.length = nL2) (lnL3 : xL3.length = nL3) (hiE : iE < nE) (hiC0 : iC0 < nC0) (hiC1 : iC1 < nC1) (hiL0 : iL0 < nL0) (hiL1 : iL1 < nL1) (hiL2 : iL2 < nL2) (hiL3 : iL3 < nL3) (hnE : nE ≤ 1024) (hnC0 : nC0 ≤ 1024) (hnC1 : nC1 ≤ 1024) (hnL0 : nL0 ≤ 1024) (hnL1 : nL1 ≤ 1024) (hnL2 : nL2 ≤ 1024) (hnL3 : nL3 ≤ 1024) (hLE : LBw xE 1) (hLC0 : LBw xC0 3) (hLC1 : LBw xC1 5) (hLL0 : LBw xL0 (2 * t + 6)) (hLL1 : LBw xL1 (2 * t + 6)) (hLL2 : LBw xL2 (2 * t + 6)) (hLL3 : LBw xL3 (2 * t + 6)) (hs0 : Bw s0 (2 * t + 6)) (hs1 : Bw s1 (2 * t + 6)) (hs2 : Bw s2 (2 * t + 6)) (hs3 : Bw s3 (2 * t + 6)) (hg0 : Bw g0 0) (hg1 : Bw g1 0) (hg2 : Bw g2 0) (hg3 : Bw g3 0) (ht : t < 30) (ha : PlQ a) (w : World) (q : Row w p 0 [vS bE 0 nE cE, vI ((iE : Nat) : Int), .slice none 0 0, vS bC0 0 nC0 cC0, vI ((iC0 : Nat) : Int), vF 1056964608, vS bC1 0 nC1 cC1, vI ((iC1 : Nat) : Int), vF 1056964608, vS bL0 0 nL0 cL0, vI ((iL0 : Nat) : Int), vS bL1 0 nL1 cL1, vI ((iL1 : Nat) : Int), vS bL2 0 nL2 cL2, vI ((iL2 : Nat) : Int), vS bL3 0 nL3 cL3, vI ((iL3 : Nat) : Int), vI 1, vF 1056964608, vF 1056964608, vF 0, vF s0, vF 0, vI 1, vF 1056964608, vF 1056964608, vF 0, vF s1, vF 0, vI 1, vF 1056964608, vF 1056964608, vF 0, vF s2, vF 0, vI 1, vF 1056964608, vF 1056964608, vF 0, vF s3, vF 0, vF g0, vF g1, vF g2, vF g3, vF 1065353216, vF 0]) (rE : Row w bE 0 (fl xE)) (rC0 : Row w bC0 0 (fl xC0)) (rC1 : Row w bC1 0 (fl xC1)) (rL0 : Row w bL0 0 (fl xL0)) (rL1 : Row w bL1 0 (fl xL1)) (rL2 : Row w bL2 0 (fl xL2)) (rL3 : Row w bL3 0 (fl xL3)) (npE : p ≠ bE) (npC0 : p ≠ bC0) (npC1 : p ≠ bC1) (npL0 : p ≠ bL0) (npL1 : p ≠ bL1) (npL2 : p ≠ bL2) (npL3 : p ≠ bL3) (nEC0 : bE ≠ bC0) (nEC1 : bE ≠ bC1) (nEL0 : bE ≠ bL0) (nEL1 : bE ≠ bL1) (nEL2 : bE ≠ bL2) (nEL3 : bE ≠ bL3) (nC0C1 : bC0 ≠ bC1) (nC0L0 : bC0 ≠ bL0) (nC0L1 : bC0 ≠ bL1) (nC0L2 : bC0 ≠ bL2) (nC0L3 : bC0 ≠ bL3) (nC1L0 : bC1 ≠ bL0) (nC1L1 : bC1 ≠ bL1) (nC1L2 : bC1 ≠ bL2) (nC1L3 : bC1 ≠ bL3) (nL0L1 : bL0 ≠ bL1) (nL0L2 : bL0 ≠ bL2) (nL0L3 : bL0 ≠ bL3) (nL1L2 : bL1 ≠ bL2) (nL1L3 : bL1 ≠ bL3) (nL2L3 : bL2 ≠ bL3) : Cl Try.prog 28 #[vP p 0, vF a] w fun v w' => ∃ (xE' : List Nat) (xC0' : List Nat) (xC1' : List Nat) (xL0' : List Nat) (xL1' : List Nat) (xL2' : List Nat) (xL3' : List Nat) (s0' : Nat) (s1' : Nat) (s2' : Nat) (s3' : Nat), v = vF a ∧ (xE'.length = nE) ∧ (xC0'.length = nC0) ∧ (xC1'.length = nC1) ∧ (xL0'.length = nL0) ∧ (xL1'.length = nL1) ∧ (xL2'.length = nL2) ∧ (xL3'.length = nL3) ∧ (LBw xE' 1) ∧ (LBw xC0' 3) ∧ (LBw xC1' 5) ∧ (LBw xL0' (2 * t + 8)) ∧ (LBw xL1' (2 * t + 8)) ∧ (LBw xL2' (2 * t + 8)) ∧ (LBw xL3' (2 * t + 8)) ∧ (Bw s0' (2 * t + 8)) ∧ (Bw s1' (2 * t + 8)) ∧ (Bw s2' (2 * t + 8)) ∧ (Bw s3' (2 * t + 8)) ∧ Row w' p 0 [vS bE 0 nE cE, vI (((iE + 1) % nE : Nat) : Int), .slice none 0 0, vS bC0 0 nC0 cC0, vI (((iC0 + 1) % nC0 : Nat) : Int), vF 1056964608, vS bC1 0 nC1 cC1, vI (((iC1 + 1) % nC1 : Nat) : Int), vF 1056964608, vS bL0 0 nL0 cL0, vI (((iL0 + 1) % nL0 : Nat) : Int), vS bL1 0 nL1 cL1, vI (((iL1 + 1) % nL1 : Nat) : Int), vS bL2 0 nL2 cL2, vI (((iL2 + 1) % nL2 : Nat) : Int), vS bL3 0 nL3 cL3, vI (((iL3 + 1) % nL3 : Nat) : Int), vI 1, vF 1056964608, vF 1056964608, vF 0, vF s0', vF 0, vI 1, vF 1056964608, vF 1056964608, vF 0, vF s1', vF 0, vI 1, vF 1056964608, vF 1056964608, vF 0, vF s2', vF 0, vI 1, vF 1056964608, vF 1056964608, vF 0, vF s3', vF 0, vF g0, vF g1, vF g2, vF g3, vF 1065353216, vF 0] ∧ Row w' bE 0 (fl xE') ∧ Row w' bC0 0 (fl xC0') ∧ Row w' bC1 0 (fl xC1') ∧ Row w' bL0 0 (fl xL0') ∧ Row w' bL1 0 (fl xL1') ∧ Row w' bL2 0 (fl xL2') ∧ Row w' bL3 0 (fl xL3') ∧ Mod [p, bE, bC0, bC1, bL0, bL1, bL2, bL3] w w' := by
  exact c_rstep nE cE bE xE iE nC0 cC0 bC0 xC0 iC0 nC1 cC1 bC1 xC1 iC1 nL0 cL0 bL0 xL0 iL0 nL1 cL1 bL1 xL1 iL1 nL2 cL2 bL2 xL2 iL2 nL3 cL3 bL3 xL3 iL3 s0 s1 s2 s3 g0 g1 g2 g3 p (2 * t + 5) a lnE lnC0 lnC1 lnL0 lnL1 lnL2 lnL3 hiE hiC0 hiC1 hiL0 hiL1 hiL2 hiL3 hnE hnC0 hnC1 hnL0 hnL1 hnL2 hnL3 hLE hLC0 hLC1 hLL0 hLL1 hLL2 hLL3 hs0 hs1 hs2 hs3 hg0 hg1 hg2 hg3 (by omega) (by omega) ha.lt ha w q rE rC0 rC1 rL0 rL1 rL2 rL3 npE npC0 npC1 npL0 npL1 npL2 npL3 nEC0 nEC1 nEL0 nEL1 nEL2 nEL3 nC0C1 nC0L0 nC0L1 nC0L2 nC0L3 nC1L0 nC1L1 nC1L2 nC1L3 nL0L1 nL0L2 nL0L3 nL1L2 nL1L3 nL2L3
set_option maxRecDepth 100000 in
set_option maxHeartbeats 2000000 in
theorem c_playRoom (nE : Nat) (cE : Nat) (bE : Nat) (xE : List Nat) (iE : Nat) (nC0 : Nat) (cC0 : Nat) (bC0 : Nat) (xC0 : List Nat) (iC0 : Nat) (nC1 : Nat) (cC1 : Nat) (bC1 : Nat) (xC1 : List Nat) (iC1 : Nat) (nL0 : Nat) (cL0 : Nat) (bL0 : Nat) (xL0 : List Nat) (iL0 : Nat) (nL1 : Nat) (cL1 : Nat) (bL1 : Nat) (xL1 : List Nat) (iL1 : Nat) (nL2 : Nat) (cL2 : Nat) (bL2 : Nat) (xL2 : List Nat) (iL2 : Nat) (nL3 : Nat) (cL3 : Nat) (bL3 : Nat) (xL3 : List Nat) (iL3 : Nat) (s0 : Nat) (s1 : Nat) (s2 : Nat) (s3 : Nat) (g0 : Nat) (g1 : Nat) (g2 : Nat) (g3 : Nat) (cy : Nat) (b_y : Nat) (ys : List Nat) (lnE : xE.length = nE) (lnC0 : xC0.length = nC0) (lnC1 : xC1.length = nC1) (lnL0 : xL0.length = nL0) (lnL1 : xL1.length = nL1) (lnL2 : xL2.length = nL2) (lnL3 : xL3.length = nL3) (hiE : iE < nE) (hiC0 : iC0 < nC0) (hiC1 : iC1 < nC1) (hiL0 : iL0 < nL0) (hiL1 : iL1 < nL1) (hiL2 : iL2 < nL2) (hiL3 : iL3 < nL3) (hnE : nE ≤ 1024) (hnC0 : nC0 ≤ 1024) (hnC1 : nC1 ≤ 1024) (hnL0 : nL0 ≤ 1024) (hnL1 : nL1 ≤ 1024) (hnL2 : nL2 ≤ 1024) (hnL3 : nL3 ≤ 1024) (hLE : LBw xE 1) (hLC0 : LBw xC0 3) (hLC1 : LBw xC1 5) (hLL0 : LBw xL0 (6)) (hLL1 : LBw xL1 (6)) (hLL2 : LBw xL2 (6)) (hLL3 : LBw xL3 (6)) (hs0 : Bw s0 (6)) (hs1 : Bw s1 (6)) (hs2 : Bw s2 (6)) (hs3 : Bw s3 (6)) (hg0 : Bw g0 0) (hg1 : Bw g1 0) (hg2 : Bw g2 0) (hg3 : Bw g3 0) (ly : ys.length = 30) (hpq : ∀ j, j < 30 → PlQ (ys.getD j 0)) (w : World) (rE : Rng w bE 0 (fl xE)) (rC0 : Rng w bC0 0 (fl xC0)) (rC1 : Rng w bC1 0 (fl xC1)) (rL0 : Rng w bL0 0 (fl xL0)) (rL1 : Rng w bL1 0 (fl xL1)) (rL2 : Rng w bL2 0 (fl xL2)) (rL3 : Rng w bL3 0 (fl xL3)) (ry : Rng w b_y 0 (fl ys)) : Cl Try.prog 13 #[.agg #[vS bE 0 nE cE, vI ((iE : Nat) : Int), .slice none 0 0, vS bC0 0 nC0 cC0, vI ((iC0 : Nat) : Int), vF 1056964608, vS bC1 0 nC1 cC1, vI ((iC1 : Nat) : Int), vF 1056964608, vS bL0 0 nL0 cL0, vI ((iL0 : Nat) : Int), vS bL1 0 nL1 cL1, vI ((iL1 : Nat) : Int), vS bL2 0 nL2 cL2, vI ((iL2 : Nat) : Int), vS bL3 0 nL3 cL3, vI ((iL3 : Nat) : Int), vI 1, vF 1056964608, vF 1056964608, vF 0, vF s0, vF 0, vI 1, vF 1056964608, vF 1056964608, vF 0, vF s1, vF 0, vI 1, vF 1056964608, vF 1056964608, vF 0, vF s2, vF 0, vI 1, vF 1056964608, vF 1056964608, vF 0, vF s3, vF 0, vF g0, vF g1, vF g2, vF g3, vF 1065353216, vF 0], vS b_y 0 30 cy] w fun v w' => ∃ (bE' : Nat) (cE' : Nat) (iE' : Nat) (bC0' : Nat) (cC0' : Nat) (iC0' : Nat) (bC1' : Nat) (cC1' : Nat) (iC1' : Nat) (bL0' : Nat) (cL0' : Nat) (iL0' : Nat) (bL1' : Nat) (cL1' : Nat) (iL1' : Nat) (bL2' : Nat) (cL2' : Nat) (iL2' : Nat) (bL3' : Nat) (cL3' : Nat) (iL3' : Nat) (s0' : Nat) (s1' : Nat) (s2' : Nat) (s3' : Nat) (e' : Nat) (c3' : Nat) (A' : Option Addr), v = .tuple #[.agg #[vS bE' 0 nE cE', vI ((iE' : Nat) : Int), .slice none 0 0, vS bC0' 0 nC0 cC0', vI ((iC0' : Nat) : Int), vF 1056964608, vS bC1' 0 nC1 cC1', vI ((iC1' : Nat) : Int), vF 1056964608, vS bL0' 0 nL0 cL0', vI ((iL0' : Nat) : Int), vS bL1' 0 nL1 cL1', vI ((iL1' : Nat) : Int), vS bL2' 0 nL2 cL2', vI ((iL2' : Nat) : Int), vS bL3' 0 nL3 cL3', vI ((iL3' : Nat) : Int), vI 1, vF 1056964608, vF 1056964608, vF 0, vF s0', vF 0, vI 1, vF 1056964608, vF 1056964608, vF 0, vF s1', vF 0, vI 1, vF 1056964608, vF 1056964608, vF 0, vF s2', vF 0, vI 1, vF 1056964608, vF 1056964608, vF 0, vF s3', vF 0, vF g0, vF g1, vF g2, vF g3, vF 1065353216, vF 0], .slice A' 30 c3', vI 0] ∧ (0 < 30 → A' = some ⟨e', 0, none⟩) ∧ Row w' e' 0 (fl (outs (fun j => ys.getD j 0) 30)) ∧ w.heap.size ≤ e' ∧ Mod [] w w' := by
  refine Cl.of Try.func13 Try.ntmps13 rfl rfl (ρ := [(0, .agg #[vS bE 0 nE cE, vI ((iE : Nat) : Int), .slice none 0 0, vS bC0 0 nC0 cC0, vI ((iC0 : Nat) : Int), vF 1056964608, vS bC1 0 nC1 cC1, vI ((iC1 : Nat) : Int), vF 1056964608, vS bL0 0 nL0 cL0, vI ((iL0 : Nat) : Int), vS bL1 0 nL1 cL1, vI ((iL1 : Nat) : Int), vS bL2 0 nL2 cL2, vI ((iL2 : Nat) : Int), vS bL3 0 nL3 cL3, vI ((iL3 : Nat) : Int), vI 1, vF 1056964608, vF 1056964608, vF 0, vF s0, vF 0, vI 1, vF 1056964608, vF 1056964608, vF 0, vF s1, vF 0, vI 1, vF 1056964608, vF 1056964608, vF 0, vF s2, vF 0, vI 1, vF 1056964608, vF 1056964608, vF 0, vF s3, vF 0, vF g0, vF g1, vF g2, vF g3, vF 1065353216, vF 0]), (1, vS b_y 0 30 cy)]) rfl ?_
  refine CE.seq ?_
  refine CE.region ?_
  refine WL.op (op_box (cs := [vS bE 0 nE cE, vI ((iE : Nat) : Int), .slice none 0 0, vS bC0 0 nC0 cC0, vI ((iC0 : Nat) : Int), vF 1056964608, vS bC1 0 nC1 cC1, vI ((iC1 : Nat) : Int), vF 1056964608, vS bL0 0 nL0 cL0, vI ((iL0 : Nat) : Int), vS bL1 0 nL1 cL1, vI ((iL1 : Nat) : Int), vS bL2 0 nL2 cL2, vI ((iL2 : Nat) : Int), vS bL3 0 nL3 cL3, vI ((iL3 : Nat) : Int), vI 1, vF 1056964608, vF 1056964608, vF 0, vF s0, vF 0, vI 1, vF 1056964608, vF 1056964608, vF 0, vF s1, vF 0, vI 1, vF 1056964608, vF 1056964608, vF 0, vF s2, vF 0, vI 1, vF 1056964608, vF 1056964608, vF 0, vF s3, vF 0, vF g0, vF g1, vF g2, vF g3, vF 1065353216, vF 0]) rfl rfl) rfl rfl (ltb rfl) ?_
  rintro _ w1 ⟨rfl, r1, m1, z1⟩
  refine WL.op (op_alloc (cs := [.slice none 0 0, vI 0, .slice none 0 0, .slice none 0 0, vI 0, vF 0, .slice none 0 0, vI 0, vF 0, .slice none 0 0, vI 0, .slice none 0 0, vI 0, .slice none 0 0, vI 0, .slice none 0 0, vI 0, vI 0, vF 0, vF 0, vF 0, vF 0, vF 0, vI 0, vF 0, vF 0, vF 0, vF 0, vF 0, vI 0, vF 0, vF 0, vF 0, vF 0, vF 0, vI 0, vF 0, vF 0, vF 0, vF 0, vF 0, vF 0, vF 0, vF 0, vF 0, vF 0, vF 0]) Try.zeroValue43 rfl) rfl rfl (ltb rfl) ?_
  rintro _ w2 ⟨rfl, r2, m2, z2⟩
  iterate 2 refine WL.det (op_assign rfl) rfl rfl rfl ?_
  refine WL.end ?_
  refine NE.code ?_
  refine CE.seq ?_
  refine CE.block ?_
  refine CE.seq ?_
  refine CE.region ?_
  refine WL.det (op_loadA (i := 0) (cs := [vS bE 0 nE cE, vI ((iE : Nat) : Int), .slice none 0 0, vS bC0 0 nC0 cC0, vI ((iC0 : Nat) : Int), vF 1056964608, vS bC1 0 nC1 cC1, vI ((iC1 : Nat) : Int), vF 1056964608, vS bL0 0 nL0 cL0, vI ((iL0 : Nat) : Int), vS bL1 0 nL1 cL1, vI ((iL1 : Nat) : Int), vS bL2 0 nL2 cL2, vI ((iL2 : Nat) : Int), vS bL3 0 nL3 cL3, vI ((iL3 : Nat) : Int), vI 1, vF 1056964608, vF 1056964608, vF 0, vF s0, vF 0, vI 1, vF 1056964608, vF 1056964608, vF 0, vF s1, vF 0, vI 1, vF 1056964608, vF 1056964608, vF 0, vF s2, vF 0, vI 1, vF 1056964608, vF 1056964608, vF 0, vF s3, vF 0, vF g0, vF g1, vF g2, vF g3, vF 1065353216, vF 0]) rfl Try.isAgg43 Try.sizeOf43 (r1.ext m2).rng rfl rfl rfl) rfl rfl rfl ?_
  refine WL.call (oc_call (vs := [.agg #[vS bE 0 nE cE, vI ((iE : Nat) : Int), .slice none 0 0, vS bC0 0 nC0 cC0, vI ((iC0 : Nat) : Int), vF 1056964608, vS bC1 0 nC1 cC1, vI ((iC1 : Nat) : Int), vF 1056964608, vS bL0 0 nL0 cL0, vI ((iL0 : Nat) : Int), vS bL1 0 nL1 cL1, vI ((iL1 : Nat) : Int), vS bL2 0 nL2 cL2, vI ((iL2 : Nat) : Int), vS bL3 0 nL3 cL3, vI ((iL3 : Nat) : Int), vI 1, vF 1056964608, vF 1056964608, vF 0, vF s0, vF 0, vI 1, vF 1056964608, vF 1056964608, vF 0, vF s1, vF 0, vI 1, vF 1056964608, vF 1056964608, vF 0, vF s2, vF 0, vI 1, vF 1056964608, vF 1056964608, vF 0, vF s3, vF 0, vF g0, vF g1, vF g2, vF g3, vF 1065353216, vF 0]]) (cap := []) rfl rfl rfl Try.call26 (c_ValidRoom nE cE bE xE iE nC0 cC0 bC0 xC0 iC0 nC1 cC1 bC1 xC1 iC1 nL0 cL0 bL0 xL0 iL0 nL1 cL1 bL1 xL1 iL1 nL2 cL2 bL2 xL2 iL2 nL3 cL3 bL3 xL3 iL3 s0 s1 s2 s3 g0 g1 g2 g3 lnE lnC0 lnC1 lnL0 lnL1 lnL2 lnL3 (by omega) (by omega) (by omega) (by omega) (by omega) (by omega) (by omega) (by omega) (by omega) (by omega) (by omega) (by omega) (by omega) (by omega) (by first | assumption | exact LBw.zeros) (by first | assumption | exact LBw.zeros) (by first | assumption | exact LBw.zeros) (by first | assumption | exact LBw.zeros | exact LBw.mono (by assumption) (by omega)) (by first | assumption | exact LBw.zeros | exact LBw.mono (by assumption) (by omega)) (by first | assumption | exact LBw.zeros | exact LBw.mono (by assumption) (by omega)) (by first | assumption | exact LBw.zeros | exact LBw.mono (by assumption) (by omega)) (by first | assumption | exact Bw.zero | exact Bw.mono (by assumption) (by omega)) (by first | assumption | exact Bw.zero | exact Bw.mono (by assumption) (by omega)) (by first | assumption | exact Bw.zero | exact Bw.mono (by assumption) (by omega)) (by first | assumption | exact Bw.zero | exact Bw.mono (by assumption) (by omega)) (by assumption) (by assumption) (by assumption) (by assumption) w2 ((rE.ext m1).ext m2) ((rC0.ext m1).ext m2) ((rC1.ext m1).ext m2) ((rL0.ext m1).ext m2) ((rL1.ext m1).ext m2) ((rL2.ext m1).ext m2) ((rL3.ext m1).ext m2))) rfl rfl (ltb rfl) ?_
  rintro _ w3 ⟨rfl, m3⟩
  refine WL.det (op_not rfl) rfl rfl rfl ?_
  refine WL.det (op_assign rfl) rfl rfl rfl ?_
  refine WL.end ?_
  refine NE.code ?_
  refine CE.cond_f rfl rfl ?_
  refine CE.seq ?_
  refine CE.region ?_
  refine WL.det (op_move rfl) rfl rfl rfl ?_
  refine WL.det (op_len rfl Try.runUnderlying29) rfl rfl rfl ?_
  refine WL.det (op_gti rfl rfl) rfl rfl rfl ?_
  refine WL.det (op_assign rfl) rfl rfl rfl ?_
  refine WL.end ?_
  refine NE.code ?_
  refine CE.cond_f rfl rfl ?_
  refine CE.skip' ?_
  refine NE.blk ?_
  refine NE.code ?_
  refine CE.seq ?_
  refine CE.region ?_
  refine WL.det (op_loadA (i := 0) (cs := [vS bE 0 nE cE, vI ((iE : Nat) : Int), .slice none 0 0, vS bC0 0 nC0 cC0, vI ((iC0 : Nat) : Int), vF 1056964608, vS bC1 0 nC1 cC1, vI ((iC1 : Nat) : Int), vF 1056964608, vS bL0 0 nL0 cL0, vI ((iL0 : Nat) : Int), vS bL1 0 nL1 cL1, vI ((iL1 : Nat) : Int), vS bL2 0 nL2 cL2, vI ((iL2 : Nat) : Int), vS bL3 0 nL3 cL3, vI ((iL3 : Nat) : Int), vI 1, vF 1056964608, vF 1056964608, vF 0, vF s0, vF 0, vI 1, vF 1056964608, vF 1056964608, vF 0, vF s1, vF 0, vI 1, vF 1056964608, vF 1056964608, vF 0, vF s2, vF 0, vI 1, vF 1056964608, vF 1056964608, vF 0, vF s3, vF 0, vF g0, vF g1, vF g2, vF g3, vF 1065353216, vF 0]) rfl Try.isAgg43 Try.sizeOf43 ((r1.ext m2).ext m3).rng rfl rfl rfl) rfl rfl rfl ?_
  have r3 := (((rE.ext m1).ext m2).ext m3)
  have r4 := (((rC0.ext m1).ext m2).ext m3)
  have r5 := (((rC1.ext m1).ext m2).ext m3)
  have r6 := (((rL0.ext m1).ext m2).ext m3)
  have r7 := (((rL1.ext m1).ext m2).ext m3)
  have r8 := (((rL2.ext m1).ext m2).ext m3)
  have r9 := (((rL3.ext m1).ext m2).ext m3)
  refine WL.call (oc_call (vs := [.agg #[vS bE 0 nE cE, vI ((iE : Nat) : Int), .slice none 0 0, vS bC0 0 nC0 cC0, vI ((iC0 : Nat) : Int), vF 1056964608, vS bC1 0 nC1 cC1, vI ((iC1 : Nat) : Int), vF 1056964608, vS bL0 0 nL0 cL0, vI ((iL0 : Nat) : Int), vS bL1 0 nL1 cL1, vI ((iL1 : Nat) : Int), vS bL2 0 nL2 cL2, vI ((iL2 : Nat) : Int), vS bL3 0 nL3 cL3, vI ((iL3 : Nat) : Int), vI 1, vF 1056964608, vF 1056964608, vF 0, vF s0, vF 0, vI 1, vF 1056964608, vF 1056964608, vF 0, vF s1, vF 0, vI 1, vF 1056964608, vF 1056964608, vF 0, vF s2, vF 0, vI 1, vF 1056964608, vF 1056964608, vF 0, vF s3, vF 0, vF g0, vF g1, vF g2, vF g3, vF 1065353216, vF 0]]) (cap := []) rfl rfl rfl Try.call27 (c_cloneRoom nE cE bE xE iE nC0 cC0 bC0 xC0 iC0 nC1 cC1 bC1 xC1 iC1 nL0 cL0 bL0 xL0 iL0 nL1 cL1 bL1 xL1 iL1 nL2 cL2 bL2 xL2 iL2 nL3 cL3 bL3 xL3 iL3 s0 s1 s2 s3 g0 g1 g2 g3 lnE lnC0 lnC1 lnL0 lnL1 lnL2 lnL3 (by omega) (by omega) (by omega) (by omega) (by omega) (by omega) (by omega) (by omega) (by omega) (by omega) (by omega) (by omega) (by omega) (by omega) w3 r3 r4 r5 r6 r7 r8 r9)) rfl rfl (ltb rfl) ?_
  rintro _ w4 ⟨bE'1, cE'1, bC0'1, cC0'1, bC1'1, cC1'1, bL0'1, cL0'1, bL1'1, cL1'1, bL2'1, cL2'1, bL3'1, cL3'1, rfl, r10, r11, r12, r13, r14, r15, r16, ge1, ge2, ge3, ge4, ge5, ge6, ge7, ne1, ne2, ne3, ne4, ne5, ne6, ne7, ne8, ne9, ne10, ne11, ne12, ne13, ne14, ne15, ne16, ne17, ne18, ne19, ne20, ne21, m4⟩
  have r17 := (((r1.ext m2).ext m3).ext m4)
  refine WL.op0 (op_store (i := 0) (cs := [vS bE'1 0 nE cE'1, vI ((iE : Nat) : Int), .slice none 0 0, vS bC0'1 0 nC0 cC0'1, vI ((iC0 : Nat) : Int), vF 1056964608, vS bC1'1 0 nC1 cC1'1, vI ((iC1 : Nat) : Int), vF 1056964608, vS bL0'1 0 nL0 cL0'1, vI ((iL0 : Nat) : Int), vS bL1'1 0 nL1 cL1'1, vI ((iL1 : Nat) : Int), vS bL2'1 0 nL2 cL2'1, vI ((iL2 : Nat) : Int), vS bL3'1 0 nL3 cL3'1, vI ((iL3 : Nat) : Int), vI 1, vF 1056964608, vF 1056964608, vF 0, vF s0, vF 0, vI 1, vF 1056964608, vF 1056964608, vF 0, vF s1, vF 0, vI 1, vF 1056964608, vF 1056964608, vF 0, vF s2, vF 0, vI 1, vF 1056964608, vF 1056964608, vF 0, vF s3, vF 0, vF g0, vF g1, vF g2, vF g3, vF 1065353216, vF 0]) rfl rfl rfl Try.sizeOf43 rfl r17 rfl (lB rfl) rfl) rfl rfl ?_
  rintro _ w5 ⟨r18, m5, z3⟩
  have r19 : Row w5 w.heap.size 0 [vS bE'1 0 nE cE'1, vI ((iE : Nat) : Int), .slice none 0 0, vS bC0'1 0 nC0 cC0'1, vI ((iC0 : Nat) : Int), vF 1056964608, vS bC1'1 0 nC1 cC1'1, vI ((iC1 : Nat) : Int), vF 1056964608, vS bL0'1 0 nL0 cL0'1, vI ((iL0 : Nat) : Int), vS bL1'1 0 nL1 cL1'1, vI ((iL1 : Nat) : Int), vS bL2'1 0 nL2 cL2'1, vI ((iL2 : Nat) : Int), vS bL3'1 0 nL3 cL3'1, vI ((iL3 : Nat) : Int), vI 1, vF 1056964608, vF 1056964608, vF 0, vF s0, vF 0, vI 1, vF 1056964608, vF 1056964608, vF 0, vF s1, vF 0, vI 1, vF 1056964608, vF 1056964608, vF 0, vF s2, vF 0, vI 1, vF 1056964608, vF 1056964608, vF 0, vF s3, vF 0, vF g0, vF g1, vF g2, vF g3, vF 1065353216, vF 0] := Row.congr r18 rfl
  refine WL.end ?_
  refine NE.code ?_
  refine CE.seq ?_
  refine CE.region ?_
  refine WL.det (op_assign rfl) rfl rfl rfl ?_
  refine WL.end ?_
  refine NE.code ?_
  iterate 2 refine CE.seq ?_
  refine CE.region ?_
  refine WL.det (op_move rfl) rfl rfl rfl ?_
  refine WL.det (op_len rfl Try.runUnderlying29) rfl rfl rfl ?_
  refine WL.det (op_move rfl) rfl rfl rfl ?_
  refine WL.end ?_
  refine NE.code ?_
  refine CE.block ?_
  have r20 := (r10.mod m5 (nC (lG (lL (lL r1.lt (lT m2.size m3.size)) ge1)) nN))
  have r21 := (r11.mod m5 (nC (lG (lL (lL r1.lt (lT m2.size m3.size)) ge2)) nN))
  have r22 := (r12.mod m5 (nC (lG (lL (lL r1.lt (lT m2.size m3.size)) ge3)) nN))
  have r23 := (r13.mod m5 (nC (lG (lL (lL r1.lt (lT m2.size m3.size)) ge4)) nN))
  have r24 := (r14.mod m5 (nC (lG (lL (lL r1.lt (lT m2.size m3.size)) ge5)) nN))
  have r25 := (r15.mod m5 (nC (lG (lL (lL r1.lt (lT m2.size m3.size)) ge6)) nN))
  have r26 := (r16.mod m5 (nC (lG (lL (lL r1.lt (lT m2.size m3.size)) ge7)) nN))
  refine CE.loop (fun (z : Nat × Option Addr × Nat × List Nat × List Nat × List Nat × List Nat × List Nat × List Nat × List Nat × Nat × Nat × Nat × Nat × Nat × Nat × Nat × Nat × Nat × Nat × Nat) => [(24, vI ((z.1 : Nat) : Int)), (7, .slice z.2.1 z.1 z.2.2.1), (2, vP w.heap.size 0), (4, vP w1.heap.size 0), (5, .slice none 0 0), (6, vI 0), (22, vS b_y 0 30 cy), (23, vI 30)]) (fun (z : Nat × Option Addr × Nat × List Nat × List Nat × List Nat × List Nat × List Nat × List Nat × List Nat × Nat × Nat × Nat × Nat × Nat × Nat × Nat × Nat × Nat × Nat × Nat) => fun W => (z.1 ≤ 30) ∧ (z.2.2.2.1.length = nE) ∧ (z.2.2.2.2.1.length = nC0) ∧ (z.2.2.2.2.2.1.length = nC1) ∧ (z.2.2.2.2.2.2.1.length = nL0) ∧ (z.2.2.2.2.2.2.2.1.length = nL1) ∧ (z.2.2.2.2.2.2.2.2.1.length = nL2) ∧ (z.2.2.2.2.2.2.2.2.2.1.length = nL3) ∧ (z.2.2.2.2.2.2.2.2.2.2.1 < nE) ∧ (z.2.2.2.2.2.2.2.2.2.2.2.1 < nC0) ∧ (z.2.2.2.2.2.2.2.2.2.2.2.2.1 < nC1) ∧ (z.2.2.2.2.2.2.2.2.2.2.2.2.2.1 < nL0) ∧ (z.2.2.2.2.2.2.2.2.2.2.2.2.2.2.1 < nL1) ∧ (z.2.2.2.2.2.2.2.2.2.2.2.2.2.2.2.1 < nL2) ∧ (z.2.2.2.2.2.2.2.2.2.2.2.2.2.2.2.2.1 < nL3) ∧ (LBw z.2.2.2.1 1) ∧ (LBw z.2.2.2.2.1 3) ∧ (LBw z.2.2.2.2.2.1 5) ∧ (LBw z.2.2.2.2.2.2.1 (2 * z.1 + 6)) ∧ (LBw z.2.2.2.2.2.2.2.1 (2 * z.1 + 6)) ∧ (LBw z.2.2.2.2.2.2.2.2.1 (2 * z.1 + 6)) ∧ (LBw z.2.2.2.2.2.2.2.2.2.1 (2 * z.1 + 6)) ∧ (Bw z.2.2.2.2.2.2.2.2.2.2.2.2.2.2.2.2.2.1 (2 * z.1 + 6)) ∧ (Bw z.2.2.2.2.2.2.2.2.2.2.2.2.2.2.2.2.2.2.1 (2 * z.1 + 6)) ∧ (Bw z.2.2.2.2.2.2.2.2.2.2.2.2.2.2.2.2.2.2.2.1 (2 * z.1 + 6)) ∧ (Bw z.2.2.2.2.2.2.2.2.2.2.2.2.2.2.2.2.2.2.2.2 (2 * z.1 + 6)) ∧ Row W w.heap.size 0 [vS bE'1 0 nE cE'1, vI ((z.2.2.2.2.2.2.2.2.2.2.1 : Nat) : Int), .slice none 0 0, vS bC0'1 0 nC0 cC0'1, vI ((z.2.2.2.2.2.2.2.2.2.2.2.1 : Nat) : Int), vF 1056964608, vS bC1'1 0 nC1 cC1'1, vI ((z.2.2.2.2.2.2.2.2.2.2.2.2.1 : Nat) : Int), vF 1056964608, vS bL0'1 0 nL0 cL0'1, vI ((z.2.2.2.2.2.2.2.2.2.2.2.2.2.1 : Nat) : Int), vS bL1'1 0 nL1 cL1'1, vI ((z.2.2.2.2.2.2.2.2.2.2.2.2.2.2.1 : Nat) : Int), vS bL2'1 0 nL2 cL2'1, vI ((z.2.2.2.2.2.2.2.2.2.2.2.2.2.2.2.1 : Nat) : Int), vS bL3'1 0 nL3 cL3'1, vI ((z.2.2.2.2.2.2.2.2.2.2.2.2.2.2.2.2.1 : Nat) : Int), vI 1, vF 1056964608, vF 1056964608, vF 0, vF z.2.2.2.2.2.2.2.2.2.2.2.2.2.2.2.2.2.1, vF 0, vI 1, vF 1056964608, vF 1056964608, vF 0, vF z.2.2.2.2.2.2.2.2.2.2.2.2.2.2.2.2.2.2.1, vF 0, vI 1, vF 1056964608, vF 1056964608, vF 0, vF z.2.2.2.2.2.2.2.2.2.2.2.2.2.2.2.2.2.2.2.1, vF 0, vI 1, vF 1056964608, vF 1056964608, vF 0, vF z.2.2.2.2.2.2.2.2.2.2.2.2.2.2.2.2.2.2.2.2, vF 0, vF g0, vF g1, vF g2, vF g3, vF 1065353216, vF 0] ∧ Row W bE'1 0 (fl z.2.2.2.1) ∧ Row W bC0'1 0 (fl z.2.2.2.2.1) ∧ Row W bC1'1 0 (fl z.2.2.2.2.2.1) ∧ Row W bL0'1 0 (fl z.2.2.2.2.2.2.1) ∧ Row W bL1'1 0 (fl z.2.2.2.2.2.2.2.1) ∧ Row W bL2'1 0 (fl z.2.2.2.2.2.2.2.2.1) ∧ Row W bL3'1 0 (fl z.2.2.2.2.2.2.2.2.2.1) ∧ Own 24 1 w5.heap.size W z.2.1 z.1 z.2.2.1 (fl (outs (fun j => ys.getD j 0) z.1)) ∧ Mod [w.heap.size, bE'1, bC0'1, bC1'1, bL0'1, bL1'1, bL2'1, bL3'1] w5 W) (fun (z : Nat × Option Addr × Nat × List Nat × List Nat × List Nat × List Nat × List Nat × List Nat × List Nat × Nat × Nat × Nat × Nat × Nat × Nat × Nat × Nat × Nat × Nat × Nat) => 30 - z.1) (0, none, 0, xE, xC0, xC1, xL0, xL1, xL2, xL3, iE, iC0, iC1, iL0, iL1, iL2, iL3, s0, s1, s2, s3) (⟨rfl, rfl, rfl, rfl, rfl, rfl, rfl, rfl, trivial⟩) ⟨(by dsimp only; omega), (by exact lnE), (by exact lnC0), (by exact lnC1), (by exact lnL0), (by exact lnL1), (by exact lnL2), (by exact lnL3), (by exact hiE), (by exact hiC0), (by exact hiC1), (by exact hiL0), (by exact hiL1), (by exact hiL2), (by exact hiL3), (by assumption), (by assumption), (by assumption), (by assumption), (by assumption), (by assumption), (by assumption), (by assumption), (by assumption), (by assumption), (by assumption), (Row.congr r19 rfl), (Row.congr r20 rfl), (Row.congr r21 rfl), (Row.congr r22 rfl), (Row.congr r23 rfl), (Row.congr r24 rfl), (Row.congr r25 rfl), (Row.congr r26 rfl), (Own.congr Own.nil (outs_zero _)), Mod.refl _ _⟩ ?_
  rintro ⟨t, A2, cc, xE9, xC09, xC19, xL09, xL19, xL29, xL39, iE9, iC09, iC19, iL09, iL19, iL29, iL39, s09, s19, s29, s39⟩ w6 ⟨ht, vlE, vlC0, vlC1, vlL0, vlL1, vlL2, vlL3, viE, viC0, viC1, viL0, viL1, viL2, viL3, vkE, vkC0, vkC1, vkL0, vkL1, vkL2, vkL3, vu0, vu1, vu2, vu3, r27, r28, r29, r30, r31, r32, r33, r34, ow1, m6⟩
  replace ht : t ≤ 30 := ht
  replace vlE : xE9.length = nE := vlE
  replace vlC0 : xC09.length = nC0 := vlC0
  replace vlC1 : xC19.length = nC1 := vlC1
  replace vlL0 : xL09.length = nL0 := vlL0
  replace vlL1 : xL19.length = nL1 := vlL1
  replace vlL2 : xL29.length = nL2 := vlL2
  replace vlL3 : xL39.length = nL3 := vlL3
  replace viE : iE9 < nE := viE
  replace viC0 : iC09 < nC0 := viC0
  replace viC1 : iC19 < nC1 := viC1
  replace viL0 : iL09 < nL0 := viL0
  replace viL1 : iL19 < nL1 := viL1
  replace viL2 : iL29 < nL2 := viL2
  replace viL3 : iL39 < nL3 := viL3
  replace vkE : LBw xE9 1 := vkE
  replace vkC0 : LBw xC09 3 := vkC0
  replace vkC1 : LBw xC19 5 := vkC1
  replace vkL0 : LBw xL09 (2 * t + 6) := vkL0
  replace vkL1 : LBw xL19 (2 * t + 6) := vkL1
  replace vkL2 : LBw xL29 (2 * t + 6) := vkL2
  replace vkL3 : LBw xL39 (2 * t + 6) := vkL3
  replace vu0 : Bw s09 (2 * t + 6) := vu0
  replace vu1 : Bw s19 (2 * t + 6) := vu1
  replace vu2 : Bw s29 (2 * t + 6) := vu2
  replace vu3 : Bw s39 (2 * t + 6) := vu3
  replace r27 : Row w6 w.heap.size 0 [vS bE'1 0 nE cE'1, vI ((iE9 : Nat) : Int), .slice none 0 0, vS bC0'1 0 nC0 cC0'1, vI ((iC09 : Nat) : Int), vF 1056964608, vS bC1'1 0 nC1 cC1'1, vI ((iC19 : Nat) : Int), vF 1056964608, vS bL0'1 0 nL0 cL0'1, vI ((iL09 : Nat) : Int), vS bL1'1 0 nL1 cL1'1, vI ((iL19 : Nat) : Int), vS bL2'1 0 nL2 cL2'1, vI ((iL29 : Nat) : Int), vS bL3'1 0 nL3 cL3'1, vI ((iL39 : Nat) : Int), vI 1, vF 1056964608, vF 1056964608, vF 0, vF s09, vF 0, vI 1, vF 1056964608, vF 1056964608, vF 0, vF s19, vF 0, vI 1, vF 1056964608, vF 1056964608, vF 0, vF s29, vF 0, vI 1, vF 1056964608, vF 1056964608, vF 0, vF s39, vF 0, vF g0, vF g1, vF g2, vF g3, vF 1065353216, vF 0] := r27
  replace r28 : Row w6 bE'1 0 (fl xE9) := r28
  replace r29 : Row w6 bC0'1 0 (fl xC09) := r29
  replace r30 : Row w6 bC1'1 0 (fl xC19) := r30
  replace r31 : Row w6 bL0'1 0 (fl xL09) := r31
  replace r32 : Row w6 bL1'1 0 (fl xL19) := r32
  replace r33 : Row w6 bL2'1 0 (fl xL29) := r33
  replace r34 : Row w6 bL3'1 0 (fl xL39) := r34
  replace ow1 : Own 24 1 w5.heap.size w6 A2 t cc (fl (outs (fun j => ys.getD j 0) t)) := ow1
  show CE _ _ _ _ [(24, vI ((t : Nat) : Int)), (7, .slice A2 t cc), (2, vP w.heap.size 0), (4, vP w1.heap.size 0), (5, .slice none 0 0), (6, vI 0), (22, vS b_y 0 30 cy), (23, vI 30)] _
  refine CE.seq ?_
  refine CE.region ?_
  refine WL.det (op_lti rfl rfl) rfl rfl rfl ?_
  refine WL.end ?_
  refine NE.code ?_
  refine CE.seq ?_
  rcases Bool.eq_false_or_eq_true (decide (((t : Nat) : Int) < (30 : Int))) with hb1 | hb1
  · have hp1 := of_decide_eq_true hb1
    refine CE.cond_t rfl hb1 ?_
    refine CE.skip' ?_
    refine NE.code ?_
    refine CE.seq ?_
    refine CE.block ?_
    refine CE.seq ?_
    refine CE.region ?_
    refine WL.det (op_indexSl (off' := 0 + t) rfl rfl rfl Try.runUnderlying29 Try.sizeOf24 (by omega) (by omega) (by omega)) rfl rfl rfl ?_
    have sz1 := (lT (lT m1.size m2.size) m3.size)
    have r35 := (Rng.youngS ry (Rng.youngS ry ((((ry.ext m1).ext m2).ext m3).ext m4) m5 (allge_cons lR allge_nil)) m6 (allge_cons lR (allge_cons (lT sz1 ge1) (allge_cons (lT sz1 ge2) (allge_cons (lT sz1 ge3) (allge_cons (lT sz1 ge4) (allge_cons (lT sz1 ge5) (allge_cons (lT sz1 ge6) (allge_cons (lT sz1 ge7) allge_nil)))))))))
    refine WL.det (op_load1 (i := t) rfl Try.isAgg24 r35 rfl (fl_get (by have eL : List.length ys = 30 := ly; omega))) rfl rfl rfl ?_
    refine WL.det (op_assign rfl) rfl rfl rfl ?_
    refine WL.end ?_
    refine NE.code ?_
    refine CE.region ?_
    iterate 2 refine WL.det (op_move rfl) rfl rfl rfl ?_
    refine WL.call (oc_call (vs := [vP w.heap.size 0, vF (ys.getD t 0)]) (cap := []) rfl rfl rfl Try.call28 (c_rstepT nE cE'1 bE'1 xE9 iE9 nC0 cC0'1 bC0'1 xC09 iC09 nC1 cC1'1 bC1'1 xC19 iC19 nL0 cL0'1 bL0'1 xL09 iL09 nL1 cL1'1 bL1'1 xL19 iL19 nL2 cL2'1 bL2'1 xL29 iL29 nL3 cL3'1 bL3'1 xL39 iL39 s09 s19 s29 s39 g0 g1 g2 g3 w.heap.size t (ys.getD t 0) vlE vlC0 vlC1 vlL0 vlL1 vlL2 vlL3 (by omega) (by omega) (by omega) (by omega) (by omega) (by omega) (by omega) (by omega) (by omega) (by omega) (by omega) (by omega) (by omega) (by omega) (by first | assumption | exact LBw.zeros) (by first | assumption | exact LBw.zeros) (by first | assumption | exact LBw.zeros) (by first | assumption | exact LBw.zeros | exact LBw.mono (by assumption) (by omega)) (by first | assumption | exact LBw.zeros | exact LBw.mono (by assumption) (by omega)) (by first | assumption | exact LBw.zeros | exact LBw.mono (by assumption) (by omega)) (by first | assumption | exact LBw.zeros | exact LBw.mono (by assumption) (by omega)) (by first | assumption | exact Bw.zero | exact Bw.mono (by assumption) (by omega)) (by first | assumption | exact Bw.zero | exact Bw.mono (by assumption) (by omega)) (by first | assumption | exact Bw.zero | exact Bw.mono (by assumption) (by omega)) (by first | assumption | exact Bw.zero | exact Bw.mono (by assumption) (by omega)) (by assumption) (by assumption) (by assumption) (by assumption) (by omega) (by exact hpq _ (by omega)) w6 r27 r28 r29 r30 r31 r32 r33 r34 (lE (lL (lL r1.lt (lT m2.size m3.size)) ge1)) (lE (lL (lL r1.lt (lT m2.size m3.size)) ge2)) (lE (lL (lL r1.lt (lT m2.size m3.size)) ge3)) (lE (lL (lL r1.lt (lT m2.size m3.size)) ge4)) (lE (lL (lL r1.lt (lT m2.size m3.size)) ge5)) (lE (lL (lL r1.lt (lT m2.size m3.size)) ge6)) (lE (lL (lL r1.lt (lT m2.size m3.size)) ge7)) ne1 ne2 ne3 ne4 ne5 ne6 ne7 ne8 ne9 ne10 ne11 ne12 ne13 ne14 ne15 ne16 ne17 ne18 ne19 ne20 ne21)) rfl rfl (ltb rfl) ?_
    rintro _ w7 ⟨xE'1, xC0'1, xC1'1, xL0'1, xL1'1, xL2'1, xL3'1, s0'1, s1'1, s2'1, s3'1, rfl, h1, h2, h3, h4, h5, h6, h7, h8, h9, h10, h11, h12, h13, h14, h15, h16, h17, h18, r36, r37, r38, r39, r40, r41, r42, r43, m7⟩
    refine WL.op (op_buildSl (qs := [(0, vF (ys.getD t 0))]) (cells := #[vF (ys.getD t 0)]) rfl Try.runUnderlying29 Try.sizeOf24 Try.zeroValue24 (by decide) (by decide) (by kernel_rfl)) rfl rfl (ltb rfl) ?_
    rintro _ w8 ⟨rfl, r44, m8, z4⟩
    have sz2 := (lT (lT (lT m2.size m3.size) m4.size) m5.size)
    have sz3 := (lT (lT m6.size m7.size) m8.size)
    refine WL.op (op_app (i := Try.t24) (m := 1) (bt := 4) (news := [vF (ys.getD t 0)]) rfl rfl Try.underlying29 rfl rfl rfl rfl rfl (by decide) r44.rng rfl rfl ((ow1.mod m7 (altC (lL r1.lt sz2) (altC (lL r10.lt m5.size) (altC (lL r11.lt m5.size) (altC (lL r12.lt m5.size) (altC (lL r13.lt m5.size) (altC (lL r14.lt m5.size) (altC (lL r15.lt m5.size) (altC (lL r16.lt m5.size) altN))))))))).ext m8) sz3 (by omega) (by decide)) rfl rfl (ltb rfl) ?_
    rintro _ w9 ⟨A1, c1, b1, rfl, ow2, ge8, m9⟩
    refine WL.det (op_assign rfl) rfl rfl rfl ?_
    refine WL.end ?_
    refine NE.blk ?_
    refine NE.code ?_
    refine CE.region ?_
    refine WL.det (op_add (r := ((t + 1 : Nat) : Int)) rfl rfl (w_i64 (by omega) (by omega))) rfl rfl rfl ?_
    refine WL.det (op_move rfl) rfl rfl rfl ?_
    refine WL.end ?_
    have r45 := ((r37.ext m8).mod m9 (nC (lE (lL (lL r10.lt m5.size) ge8)) nN))
    have r46 := ((r38.ext m8).mod m9 (nC (lE (lL (lL r11.lt m5.size) ge8)) nN))
    have r47 := ((r39.ext m8).mod m9 (nC (lE (lL (lL r12.lt m5.size) ge8)) nN))
    have r48 := ((r40.ext m8).mod m9 (nC (lE (lL (lL r13.lt m5.size) ge8)) nN))
    have r49 := ((r41.ext m8).mod m9 (nC (lE (lL (lL r14.lt m5.size) ge8)) nN))
    have r50 := ((r42.ext m8).mod m9 (nC (lE (lL (lL r15.lt m5.size) ge8)) nN))
    have r51 := ((r43.ext m8).mod m9 (nC (lE (lL (lL r16.lt m5.size) ge8)) nN))
    exact NE.again ((t + 1), A1, c1, xE'1, xC0'1, xC1'1, xL0'1, xL1'1, xL2'1, xL3'1, ((iE9 + 1) % nE), ((iC09 + 1) % nC0), ((iC19 + 1) % nC1), ((iL09 + 1) % nL0), ((iL19 + 1) % nL1), ((iL29 + 1) % nL2), ((iL39 + 1) % nL3), s0'1, s1'1, s2'1, s3'1) (⟨rfl, rfl, rfl, rfl, rfl, rfl, rfl, rfl, trivial⟩) ⟨(by dsimp only; omega), (by assumption), (by assumption), (by assumption), (by assumption), (by assumption), (by assumption), (by assumption), (by exact Nat.mod_lt _ (by omega)), (by exact Nat.mod_lt _ (by omega)), (by exact Nat.mod_lt _ (by omega)), (by exact Nat.mod_lt _ (by omega)), (by exact Nat.mod_lt _ (by omega)), (by exact Nat.mod_lt _ (by omega)), (by exact Nat.mod_lt _ (by omega)), (by assumption), (by assumption), (by assumption), (by assumption), (by assumption), (by assumption), (by assumption), (by assumption), (by assumption), (by assumption), (by assumption), (Row.congr ((r36.ext m8).mod m9 (nC (lE (lL (lL r1.lt sz2) ge8)) nN)) rfl), (Row.congr r45 rfl), (Row.congr r46 rfl), (Row.congr r47 rfl), (Row.congr r48 rfl), (Row.congr r49 rfl), (Row.congr r50 rfl), (Row.congr r51 rfl), (Own.congr ow2 (outs_succ _ _)), (((m6.then m7 ((aC (.inl (by simp)) (aC (.inl (by simp)) (aC (.inl (by simp)) (aC (.inl (by simp)) (aC (.inl (by simp)) (aC (.inl (by simp)) (aC (.inl (by simp)) (aC (.inl (by simp)) aN)))))))))).nt m8).then m9 ((aC (.inr ge8) aN)))⟩ (by first | (dsimp only; omega) | omega)
  · have hp1 := of_decide_eq_false hb1
    refine CE.cond_f rfl hb1 ?_
    refine CE.exit' ?_
    iterate 2 refine XE.exit_then ?_
    refine XE.exit_here ?_
    refine NE.code ?_
    refine CE.seq ?_
    refine CE.region ?_
    refine WL.det (op_loadA (i := 0) (cs := [vS bE'1 0 nE cE'1, vI ((iE9 : Nat) : Int), .slice none 0 0, vS bC0'1 0 nC0 cC0'1, vI ((iC09 : Nat) : Int), vF 1056964608, vS bC1'1 0 nC1 cC1'1, vI ((iC19 : Nat) : Int), vF 1056964608, vS bL0'1 0 nL0 cL0'1, vI ((iL09 : Nat) : Int), vS bL1'1 0 nL1 cL1'1, vI ((iL19 : Nat) : Int), vS bL2'1 0 nL2 cL2'1, vI ((iL29 : Nat) : Int), vS bL3'1 0 nL3 cL3'1, vI ((iL39 : Nat) : Int), vI 1, vF 1056964608, vF 1056964608, vF 0, vF s09, vF 0, vI 1, vF 1056964608, vF 1056964608, vF 0, vF s19, vF 0, vI 1, vF 1056964608, vF 1056964608, vF 0, vF s29, vF 0, vI 1, vF 1056964608, vF 1056964608, vF 0, vF s39, vF 0, vF g0, vF g1, vF g2, vF g3, vF 1065353216, vF 0]) rfl Try.isAgg43 Try.sizeOf43 r27.rng rfl rfl rfl) rfl rfl rfl ?_
    refine WL.det (op_move rfl) rfl rfl rfl ?_
    have r52 := ((((r2.ext m3).ext m4).mod m5 (nC (lG (lL r1.lt lR)) nN)).mod m6 (nC (lG (lL r1.lt lR)) (nC (lE (lL (lL r2.lt m3.size) ge1)) (nC (lE (lL (lL r2.lt m3.size) ge2)) (nC (lE (lL (lL r2.lt m3.size) ge3)) (nC (lE (lL (lL r2.lt m3.size) ge4)) (nC (lE (lL (lL r2.lt m3.size) ge5)) (nC (lE (lL (lL r2.lt m3.size) ge6)) (nC (lE (lL (lL r2.lt m3.size) ge7)) nN)))))))))
    refine WL.op0 (op_store (i := 0) (cs := [vS bE'1 0 nE cE'1, vI ((iE9 : Nat) : Int), .slice none 0 0, vS bC0'1 0 nC0 cC0'1, vI ((iC09 : Nat) : Int), vF 1056964608, vS bC1'1 0 nC1 cC1'1, vI ((iC19 : Nat) : Int), vF 1056964608, vS bL0'1 0 nL0 cL0'1, vI ((iL09 : Nat) : Int), vS bL1'1 0 nL1 cL1'1, vI ((iL19 : Nat) : Int), vS bL2'1 0 nL2 cL2'1, vI ((iL29 : Nat) : Int), vS bL3'1 0 nL3 cL3'1, vI ((iL39 : Nat) : Int), vI 1, vF 1056964608, vF 1056964608, vF 0, vF s09, vF 0, vI 1, vF 1056964608, vF 1056964608, vF 0, vF s19, vF 0, vI 1, vF 1056964608, vF 1056964608, vF 0, vF s29, vF 0, vI 1, vF 1056964608, vF 1056964608, vF 0, vF s39, vF 0, vF g0, vF g1, vF g2, vF g3, vF 1065353216, vF 0]) rfl rfl rfl Try.sizeOf43 rfl r52 rfl (lB rfl) rfl) rfl rfl ?_
    rintro _ w10 ⟨r53, m10, z5⟩
    have r54 : Row w10 w1.heap.size 0 [vS bE'1 0 nE cE'1, vI ((iE9 : Nat) : Int), .slice none 0 0, vS bC0'1 0 nC0 cC0'1, vI ((iC09 : Nat) : Int), vF 1056964608, vS bC1'1 0 nC1 cC1'1, vI ((iC19 : Nat) : Int), vF 1056964608, vS bL0'1 0 nL0 cL0'1, vI ((iL09 : Nat) : Int), vS bL1'1 0 nL1 cL1'1, vI ((iL19 : Nat) : Int), vS bL2'1 0 nL2 cL2'1, vI ((iL29 : Nat) : Int), vS bL3'1 0 nL3 cL3'1, vI ((iL39 : Nat) : Int), vI 1, vF 1056964608, vF 1056964608, vF 0, vF s09, vF 0, vI 1, vF 1056964608, vF 1056964608, vF 0, vF s19, vF 0, vI 1, vF 1056964608, vF 1056964608, vF 0, vF s29, vF 0, vI 1, vF 1056964608, vF 1056964608, vF 0, vF s39, vF 0, vF g0, vF g1, vF g2, vF g3, vF 1065353216, vF 0] := Row.congr r53 rfl
    iterate 2 refine WL.det (op_assign rfl) rfl rfl rfl ?_
    refine WL.end ?_
    refine NE.code ?_
    refine CE.ret' ?_
    have et : 30 = t := by omega
    subst et
    have sz4 := (lT (lT m3.size m4.size) m5.size)
    obtain ⟨b2, hA1, r55, hq1⟩ := Own.out (ow1.mod m10 (altC (lL r2.lt sz4) altN)) (r27.mod m10 (nC (lE (lL r1.lt lR)) nN))
    have sz5 := (lT (lT (lT (lT m1.size m2.size) m3.size) m4.size) m5.size)
    refine XE.leaveT Try.results13 (res_agg (cs := [vS bE'1 0 nE cE'1, vI ((iE9 : Nat) : Int), .slice none 0 0, vS bC0'1 0 nC0 cC0'1, vI ((iC09 : Nat) : Int), vF 1056964608, vS bC1'1 0 nC1 cC1'1, vI ((iC19 : Nat) : Int), vF 1056964608, vS bL0'1 0 nL0 cL0'1, vI ((iL09 : Nat) : Int), vS bL1'1 0 nL1 cL1'1, vI ((iL19 : Nat) : Int), vS bL2'1 0 nL2 cL2'1, vI ((iL29 : Nat) : Int), vS bL3'1 0 nL3 cL3'1, vI ((iL39 : Nat) : Int), vI 1, vF 1056964608, vF 1056964608, vF 0, vF s09, vF 0, vI 1, vF 1056964608, vF 1056964608, vF 0, vF s19, vF 0, vI 1, vF 1056964608, vF 1056964608, vF 0, vF s29, vF 0, vI 1, vF 1056964608, vF 1056964608, vF 0, vF s39, vF 0, vF g0, vF g1, vF g2, vF g3, vF 1065353216, vF 0]) rfl Try.isAgg43 Try.sizeOf43 r54.rng rfl (res_tmp rfl (res_tmp rfl res_nil))) ?_
    have sz6 := (lT (lT m1.size m2.size) m3.size)
    refine ⟨bE'1, cE'1, iE9, bC0'1, cC0'1, iC09, bC1'1, cC1'1, iC19, bL0'1, cL0'1, iL09, bL1'1, cL1'1, iL19, bL2'1, cL2'1, iL29, bL3'1, cL3'1, iL39, s09, s19, s29, s39, b2, cc, A2, rfl, hA1, r55, (own_ge hq1 lR sz5), ((((((((Mod.refl [] w).nt m1).nt m2).nt m3).nt m4).then m5 ((aC (.inr lR) aN))).then m6 ((aC (.inr lR) (aC (.inr (lT sz6 ge1)) (aC (.inr (lT sz6 ge2)) (aC (.inr (lT sz6 ge3)) (aC (.inr (lT sz6 ge4)) (aC (.inr (lT sz6 ge5)) (aC (.inr (lT sz6 ge6)) (aC (.inr (lT sz6 ge7)) aN)))))))))).then m10 ((aC (.inr (lT m1.size lR)) aN)))⟩

end Go.Proofs.Ytemnjphnhmbddaa
