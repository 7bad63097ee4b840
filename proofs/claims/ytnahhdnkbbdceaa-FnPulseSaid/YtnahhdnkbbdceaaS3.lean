/- What copying pipes does. -/
import Derived.Test.YtnahhdnkbbdceaaS2
set_option linter.unusedVariables false
set_option linter.unusedSimpArgs false
set_option maxRecDepth 100000
set_option maxHeartbeats 8000000
namespace Go.Proofs.Ytnahhdnkbbdceaa

theorem c_clonePipeS (nR : Nat) (GR : List RD) (nL : Nat) (GL : List RD) (nS : Nat) (xS : List Nat) (cR : Nat) (bR : Nat) (PR : List BC) (loR : Nat) (cL : Nat) (bL : Nat) (PL : List BC) (loL : Nat) (cS : Nat) (bS : Nat) (k : Int) (kc0 : Nat) (kc1 : Nat) (kc2 : Nat) (ks0 : Nat) (ks1 : Nat) (op : Bool) (lo : Nat) (re : Nat) (sl : Nat) (lDR : GR.length = nR) (lDL : GL.length = nL) (lnS : xS.length = nS) (hzR : ∀ i, (GR.getD i RD.d).xs.length ≤ 1048576) (hzL : ∀ i, (GL.getD i RD.d).xs.length ≤ 1048576) (lPR : PR.length = nR) (lPL : PL.length = nL) (mR : nR ≤ 1048576) (mL : nL ≤ 1048576) (mS : nS ≤ 1048576) (h0n : 0 < nR) (h0m : 0 < nL) (hpR : ∀ i, i < nR → 0 < (GR.getD i RD.d).xs.length) (hpL : ∀ i, i < nL → 0 < (GL.getD i RD.d).xs.length) (h0s : 0 < nS) (w : World) (rR : Rng w bR 0 (olc GR PR)) (rL : Rng w bL 0 (olc GL PL)) (rS : Rng w bS 0 (fl xS))  (FR : OF loR w GR PR) (FL : OF loL w GL PL) : Cl Try.prog 63 #[.agg #[vS bR 0 nR cR, vS bL 0 nL cL, vS bS 0 nS cS, vI k, vF kc0, vF kc1, vF kc2, vF ks0, vF ks1, .bool op, vF lo, vF re, vF sl]] w fun v w' => ∃ (bR' : Nat) (cR' : Nat) (PR' : List BC) (bL' : Nat) (cL' : Nat) (PL' : List BC) (bS' : Nat) (cS' : Nat), v = .agg #[vS bR' 0 nR cR', vS bL' 0 nL cL', vS bS' 0 nS cS', vI k, vF kc0, vF kc1, vF kc2, vF ks0, vF ks1, .bool op, vF lo, vF re, vF sl] ∧ (PR'.length = nR) ∧ (PL'.length = nL) ∧ Row w' bR' 0 (olc GR PR') ∧ Row w' bL' 0 (olc GL PL') ∧ Row w' bS' 0 (fl xS) ∧ w.heap.size ≤ bR' ∧ w.heap.size ≤ bL' ∧ w.heap.size ≤ bS' ∧ bR' ≠ bL' ∧ bR' ≠ bS' ∧ bL' ≠ bS' ∧ OF w.heap.size w' GR PR' ∧ (∀ i, i < nR → (PR'.getD i BC.d).b ≠ bR') ∧ (∀ i, i < nR → (PR'.getD i BC.d).b ≠ bL') ∧ (∀ i, i < nR → (PR'.getD i BC.d).b ≠ bS') ∧ (∀ i j, i < nR → j < nL → (PR'.getD i BC.d).b ≠ (PL'.getD j BC.d).b) ∧ OF w.heap.size w' GL PL' ∧ (∀ i, i < nL → (PL'.getD i BC.d).b ≠ bR') ∧ (∀ i, i < nL → (PL'.getD i BC.d).b ≠ bL') ∧ (∀ i, i < nL → (PL'.getD i BC.d).b ≠ bS') ∧ Mod [] w w' := by
 refine Cl.of Try.func63 Try.ntmps63 rfl rfl (ρ := [(0, .agg #[vS bR 0 nR cR, vS bL 0 nL cL, vS bS 0 nS cS, vI k, vF kc0, vF kc1, vF kc2, vF ks0, vF ks1, .bool op, vF lo, vF re, vF sl])]) rfl ?_
 refine CE.seq (CE.region ?_)
 refine WL.op (op_box (cs := [vS bR 0 nR cR, vS bL 0 nL cL, vS bS 0 nS cS, vI k, vF kc0, vF kc1, vF kc2, vF ks0, vF ks1, .bool op, vF lo, vF re, vF sl]) rfl rfl) rfl rfl (ltb rfl) ?_
 rintro _ w1 ⟨rfl, r1, m1, z1⟩
 refine WL.op (op_alloc (cs := [.slice none 0 0, .slice none 0 0, .slice none 0 0, vI 0, vF 0, vF 0, vF 0, vF 0, vF 0, .bool false, vF 0, vF 0, vF 0]) Try.zeroValue33 rfl) rfl rfl (ltb rfl) ?_
 rintro _ w2 ⟨rfl, r2, m2, z2⟩
 refine WL.end (NE.code (CE.seq ?_))
 refine CE.draw (fun | 2 => some (fun _ wA uA wB => ∃ (b' : Nat) (c' : Nat) (P' : List BC), uA = vS b' 0 nR c' ∧ (P'.length = nR) ∧ Row wB b' 0 (olc GR P') ∧ wA.heap.size ≤ b' ∧ OF wA.heap.size wB GR P' ∧ (∀ i, i < nR → (P'.getD i BC.d).b ≠ b') ∧ Mod [] wA wB) | 5 => some (fun _ wA uA wB => ∃ (b' : Nat) (c' : Nat) (P' : List BC), uA = vS b' 0 nL c' ∧ (P'.length = nL) ∧ Row wB b' 0 (olc GL P') ∧ wA.heap.size ≤ b' ∧ OF wA.heap.size wB GL P' ∧ (∀ i, i < nL → (P'.getD i BC.d).b ≠ b') ∧ Mod [] wA wB) | 8 => some (fun _ wA uA wB => ∃ (b' : Nat) (c' : Nat), uA = vS b' 0 nS c' ∧ Row wB b' 0 (fl xS) ∧ wA.heap.size ≤ b' ∧ Mod [] wA wB) | _ => none) [0, 1, 2, 3, 4, 5, 6, 7, 8, 9] [10, 11, 12, 13, 14] [] (by kernel_rfl) (by kernel_rfl) ?_
 have md1 : Mod [] w2 w2.drew := (Mod.refl _ _).drew
 generalize w2.drew = w3 at md1 ⊢
 refine DD 0 rfl (by kernel_rfl) rfl (fun wD mD => op_fieldAddr (off' := 0) rfl Try.runUnderlying33 rfl rfl Try.sizeOf25 rfl) ?_
 refine DD 1 rfl (by kernel_rfl) rfl (fun wD mD => op_load1 (i := 0) rfl Try.isAgg25 (((r1.ext m2).ext md1).ext mD).rng rfl rfl) ?_
 refine DD 3 rfl (by kernel_rfl) rfl (fun wD mD => op_fieldAddr (off' := 1) rfl Try.runUnderlying33 rfl rfl Try.sizeOf25 rfl) ?_
 refine DD 4 rfl (by kernel_rfl) rfl (fun wD mD => op_load1 (i := 1) rfl Try.isAgg25 (((r1.ext m2).ext md1).ext mD).rng rfl rfl) ?_
 refine DD 6 rfl (by kernel_rfl) rfl (fun wD mD => op_fieldAddr (off' := 2) rfl Try.runUnderlying33 rfl rfl Try.sizeOf26 rfl) ?_
 refine DD 7 rfl (by kernel_rfl) rfl (fun wD mD => op_load1 (i := 2) rfl Try.isAgg26 (((r1.ext m2).ext md1).ext mD).rng rfl rfl) ?_
 refine DR.one (i := 2) rfl rfl (by kernel_rfl) (.free rfl) rfl (ltb rfl) (vs := [.func (.func 116) #[] #[], vS bR 0 nR cR]) rfl ?_
 intro w4 m3
 refine ⟨oc_call (vs := [vS bR 0 nR cR]) (cap := []) rfl rfl rfl Try.call116 (c_cloneRingsS nR cR bR GR PR loR lDR lPR (by first | assumption | exact rd_small (by assumption) (by assumption) | exact markD_small (by first | assumption | exact rd_small (by assumption) (by assumption)) _) (by omega) (by omega) (by first | assumption | exact vRings_pos (by assumption)) w4 ((((rR.ext m1).ext m2).ext md1).ext m3) ((((FR.ext m1).ext m2).ext md1).ext m3)), ?_⟩
 rintro _ w5 ⟨b'1, c'1, P'1, rfl, h1, r3, ge1, fm1, fn1, m4⟩
 refine ⟨(((Mod.refl [] w3).nt m3).nt m4), ?_⟩
 refine DR.rebase ?_
 refine DD 9 rfl (by kernel_rfl) rfl (fun wD mD => op_fieldAddr (off' := 0) rfl Try.runUnderlying33 rfl rfl Try.sizeOf25 rfl) ?_
 refine DR.one (i := 5) rfl rfl (by kernel_rfl) (.free rfl) rfl (ltb rfl) (vs := [.func (.func 116) #[] #[], vS bL 0 nL cL]) rfl ?_
 intro w6 m5
 refine ⟨oc_call (vs := [vS bL 0 nL cL]) (cap := []) rfl rfl rfl Try.call116 (c_cloneRingsS nL cL bL GL PL loL lDL lPL (by first | assumption | exact rd_small (by assumption) (by assumption) | exact markD_small (by first | assumption | exact rd_small (by assumption) (by assumption)) _) (by omega) (by omega) (by first | assumption | exact vRings_pos (by assumption)) w6 ((((((rL.ext m1).ext m2).ext md1).ext m3).ext m4).ext m5) ((((((FL.ext m1).ext m2).ext md1).ext m3).ext m4).ext m5)), ?_⟩
 rintro _ w7 ⟨b'2, c'2, P'2, rfl, h2, r4, ge2, fm2, fn2, m6⟩
 refine ⟨(((Mod.refl [] w5).nt m5).nt m6), ?_⟩
 refine DR.rebase ?_
 refine DR.one (i := 8) rfl rfl (by kernel_rfl) (.free rfl) rfl (ltb rfl) (vs := [.func (.func 75) #[] #[], vS bS 0 nS cS]) rfl ?_
 intro w8 m7
 refine ⟨oc_call (vs := [vS bS 0 nS cS]) (cap := []) rfl rfl rfl Try.call75 (c_Clone32 nS cS bS xS lnS (by omega) (by omega) w8 ((((((((rS.ext m1).ext m2).ext md1).ext m3).ext m4).ext m5).ext m6).ext m7)), ?_⟩
 rintro _ w9 ⟨b'3, c'3, rfl, r5, ge3, m8⟩
 refine ⟨(((Mod.refl [] w7).nt m7).nt m8), ?_⟩
 refine DR.done rfl ?_
 intro w10 m9
 have r6 := (((((((((r1.ext m2).ext md1).ext m3).ext m4).ext m5).ext m6).ext m7).ext m8).ext m9)
 refine WO.op0 rfl (.free rfl) rfl (op_store (i := 0) (cs := [vS b'1 0 nR c'1]) rfl rfl rfl Try.sizeOf25 rfl r6 rfl (lB rfl) rfl) ?_
 rintro _ w11 ⟨r7, m10, z3⟩
 have r8 : Row w11 w.heap.size 0 [vS b'1 0 nR c'1, vS bL 0 nL cL, vS bS 0 nS cS, vI k, vF kc0, vF kc1, vF kc2, vF ks0, vF ks1, .bool op, vF lo, vF re, vF sl] := Row.congr r7 rfl
 refine WO.det (op_fieldAddr (off' := 1) rfl Try.runUnderlying33 rfl rfl Try.sizeOf25 rfl) rfl (.free rfl) rfl rfl ?_
 refine WO.op0 rfl (.free rfl) rfl (op_store (i := 1) (cs := [vS b'2 0 nL c'2]) rfl rfl rfl Try.sizeOf25 rfl r8 rfl (lB rfl) rfl) ?_
 rintro _ w12 ⟨r9, m11, z4⟩
 have r10 : Row w12 w.heap.size 0 [vS b'1 0 nR c'1, vS b'2 0 nL c'2, vS bS 0 nS cS, vI k, vF kc0, vF kc1, vF kc2, vF ks0, vF ks1, .bool op, vF lo, vF re, vF sl] := Row.congr r9 rfl
 refine WO.det (op_fieldAddr (off' := 2) rfl Try.runUnderlying33 rfl rfl Try.sizeOf26 rfl) rfl (.free rfl) rfl rfl ?_
 refine WO.op0 rfl (.free rfl) rfl (op_store (i := 2) (cs := [vS b'3 0 nS c'3]) rfl rfl rfl Try.sizeOf26 rfl r10 rfl (lB rfl) rfl) ?_
 rintro _ w13 ⟨r11, m12, z5⟩
 have r12 : Row w13 w.heap.size 0 [vS b'1 0 nR c'1, vS b'2 0 nL c'2, vS b'3 0 nS c'3, vI k, vF kc0, vF kc1, vF kc2, vF ks0, vF ks1, .bool op, vF lo, vF re, vF sl] := Row.congr r11 rfl
 refine WO.end (NE.code (CE.seq (CE.region ?_)))
 refine WD (op_loadA (i := 0) (cs := [vS b'1 0 nR c'1, vS b'2 0 nL c'2, vS b'3 0 nS c'3, vI k, vF kc0, vF kc1, vF kc2, vF ks0, vF ks1, .bool op, vF lo, vF re, vF sl]) rfl Try.isAgg33 Try.sizeOf33 r12.rng rfl rfl rfl) rfl ?_
 have r13 := (((((((((((r2.ext md1).ext m3).ext m4).ext m5).ext m6).ext m7).ext m8).ext m9).mod m10 (nC (lG (lL r1.lt lR)) nN)).mod m11 (nC (lG (lL r1.lt lR)) nN)).mod m12 (nC (lG (lL r1.lt lR)) nN))
 refine WL.op0 (op_store (i := 0) (cs := [vS b'1 0 nR c'1, vS b'2 0 nL c'2, vS b'3 0 nS c'3, vI k, vF kc0, vF kc1, vF kc2, vF ks0, vF ks1, .bool op, vF lo, vF re, vF sl]) rfl rfl rfl Try.sizeOf33 rfl r13 rfl (lB rfl) rfl) rfl rfl ?_
 rintro _ w14 ⟨r14, m13, z6⟩
 have r15 : Row w14 w1.heap.size 0 [vS b'1 0 nR c'1, vS b'2 0 nL c'2, vS b'3 0 nS c'3, vI k, vF kc0, vF kc1, vF kc2, vF ks0, vF ks1, .bool op, vF lo, vF re, vF sl] := Row.congr r14 rfl
 refine WL.end (NE.code (CE.ret' ?_))
 refine XE.leaveC Try.results63 (res_agg (cs := [vS b'1 0 nR c'1, vS b'2 0 nL c'2, vS b'3 0 nS c'3, vI k, vF kc0, vF kc1, vF kc2, vF ks0, vF ks1, .bool op, vF lo, vF re, vF sl]) rfl Try.isAgg33 Try.sizeOf33 r15.rng rfl res_nil) ?_
 have sz1 := (lT (lT m2.size md1.size) m3.size)
 have r16 := (((((((((r3.ext m5).ext m6).ext m7).ext m8).ext m9).mod m10 (nC (lG (lL (lL r1.lt sz1) ge1)) nN)).mod m11 (nC (lG (lL (lL r1.lt sz1) ge1)) nN)).mod m12 (nC (lG (lL (lL r1.lt sz1) ge1)) nN)).mod m13 (nC (lG (lL (lL r2.lt (lT md1.size m3.size)) ge1)) nN))
 have sz2 := (lT (lT sz1 m4.size) m5.size)
 have sz3 := (lT (lT (lT md1.size m3.size) m4.size) m5.size)
 have r17 := (((((((r4.ext m7).ext m8).ext m9).mod m10 (nC (lG (lL (lL r1.lt sz2) ge2)) nN)).mod m11 (nC (lG (lL (lL r1.lt sz2) ge2)) nN)).mod m12 (nC (lG (lL (lL r1.lt sz2) ge2)) nN)).mod m13 (nC (lG (lL (lL r2.lt sz3) ge2)) nN))
 have sz4 := (lT (lT sz2 m6.size) m7.size)
 have sz5 := (lT (lT sz3 m6.size) m7.size)
 have r18 := (((((r5.ext m9).mod m10 (nC (lG (lL (lL r1.lt sz4) ge3)) nN)).mod m11 (nC (lG (lL (lL r1.lt sz4) ge3)) nN)).mod m12 (nC (lG (lL (lL r1.lt sz4) ge3)) nN)).mod m13 (nC (lG (lL (lL r2.lt sz5) ge3)) nN))
 have sz6 := (lT (lT (lT m1.size m2.size) md1.size) m3.size)
 have sz7 := (lT (lT sz6 m4.size) m5.size)
 have sz8 := (lT (lT sz7 m6.size) m7.size)
 have sz9 := (lT (lT m5.size m6.size) m7.size)
 refine ⟨b'1, c'1, P'1, b'2, c'2, P'2, b'3, c'3, rfl, h1, h2, r16, r17, r18, (lT sz6 ge1), (lT sz7 ge2), (lT sz8 ge3), (lE (lL (lL r3.lt m5.size) ge2)), (lE (lL (lL r3.lt sz9) ge3)), (lE (lL (lL r4.lt m7.size) ge3)), (OF.low (((((((((fm1.ext m5).ext m6).ext m7).ext m8).ext m9).mod m10 (fun j hj => (nC (lG (lL (lL r1.lt sz1) (fm1.ge j (lQ (lQ hj lDR) lDR.symm)))) nN))).mod m11 (fun j hj => (nC (lG (lL (lL r1.lt sz1) (fm1.ge j (lQ (lQ hj lDR) lDR.symm)))) nN))).mod m12 (fun j hj => (nC (lG (lL (lL r1.lt sz1) (fm1.ge j (lQ (lQ hj lDR) lDR.symm)))) nN))).mod m13 (fun j hj => (nC (lG (lL (lL r2.lt (lT md1.size m3.size)) (fm1.ge j (lQ (lQ hj lDR) lDR.symm)))) nN))) sz6), (fun j hj => (fn1 j (show j < nR by omega))), (fun j hj => (lE (lL (OF.lt fm1 (lQ (show j < nR by omega) lDR.symm)) (lT m5.size ge2)))), (fun j hj => (lE (lL (OF.lt fm1 (lQ (show j < nR by omega) lDR.symm)) (lT sz9 ge3)))), (fun j q hj hq => (lE (lL (lL (OF.lt fm1 (lQ (show j < nR by omega) lDR.symm)) m5.size) (fm2.ge q (lQ (show q < nL by omega) lDL.symm))))), (OF.low (((((((fm2.ext m7).ext m8).ext m9).mod m10 (fun j hj => (nC (lG (lL (lL r1.lt sz2) (fm2.ge j (lQ (lQ hj lDL) lDL.symm)))) nN))).mod m11 (fun j hj => (nC (lG (lL (lL r1.lt sz2) (fm2.ge j (lQ (lQ hj lDL) lDL.symm)))) nN))).mod m12 (fun j hj => (nC (lG (lL (lL r1.lt sz2) (fm2.ge j (lQ (lQ hj lDL) lDL.symm)))) nN))).mod m13 (fun j hj => (nC (lG (lL (lL r2.lt sz3) (fm2.ge j (lQ (lQ hj lDL) lDL.symm)))) nN))) sz7), (fun j hj => (lG (lL (lL r3.lt m5.size) (fm2.ge j (lQ (show j < nL by omega) lDL.symm))))), (fun j hj => (fn2 j (show j < nL by omega))), (fun j hj => (lE (lL (OF.lt fm2 (lQ (show j < nL by omega) lDL.symm)) (lT m7.size ge3)))), (((((((((((((((Mod.refl [] w).nt m1).nt m2).nt md1).nt m3).nt m4).nt m5).nt m6).nt m7).nt m8).nt m9).then m10 ((aC (.inr lR) aN))).then m11 ((aC (.inr lR) aN))).then m12 ((aC (.inr lR) aN))).then m13 ((aC (.inr (lT m1.size lR)) aN)))⟩

theorem c_l04CopyS (nR : Nat) (GR : List RD) (nL : Nat) (GL : List RD) (nS : Nat) (xS : List Nat) (cR : Nat) (bR : Nat) (PR : List BC) (loR : Nat) (cL : Nat) (bL : Nat) (PL : List BC) (loL : Nat) (cS : Nat) (bS : Nat) (k : Int) (kc0 : Nat) (kc1 : Nat) (kc2 : Nat) (ks0 : Nat) (ks1 : Nat) (op : Bool) (lo : Nat) (re : Nat) (sl : Nat) (p : Nat) (lDR : GR.length = nR) (lDL : GL.length = nL) (lnS : xS.length = nS) (hzR : ∀ i, (GR.getD i RD.d).xs.length ≤ 1048576) (hzL : ∀ i, (GL.getD i RD.d).xs.length ≤ 1048576) (lPR : PR.length = nR) (lPL : PL.length = nL) (mR : nR ≤ 1048576) (mL : nL ≤ 1048576) (mS : nS ≤ 1048576) (h0n : 0 < nR) (h0m : 0 < nL) (hpR : ∀ i, i < nR → 0 < (GR.getD i RD.d).xs.length) (hpL : ∀ i, i < nL → 0 < (GL.getD i RD.d).xs.length) (h0s : 0 < nS) (w : World) (q : Rng w p 0 [vS bR 0 nR cR, vS bL 0 nL cL, vS bS 0 nS cS, vI k, vF kc0, vF kc1, vF kc2, vF ks0, vF ks1, .bool op, vF lo, vF re, vF sl]) (rR : Rng w bR 0 (olc GR PR)) (rL : Rng w bL 0 (olc GL PL)) (rS : Rng w bS 0 (fl xS))  (FR : OF loR w GR PR) (FL : OF loL w GL PL) : Cl Try.prog 59 #[vP p 0] w fun v w' => ∃ (bR' : Nat) (cR' : Nat) (PR' : List BC) (bL' : Nat) (cL' : Nat) (PL' : List BC) (bS' : Nat) (cS' : Nat), v = .agg #[vS bR' 0 nR cR', vS bL' 0 nL cL', vS bS' 0 nS cS', vI k, vF kc0, vF kc1, vF kc2, vF ks0, vF ks1, .bool op, vF lo, vF re, vF sl] ∧ (PR'.length = nR) ∧ (PL'.length = nL) ∧ Row w' bR' 0 (olc GR PR') ∧ Row w' bL' 0 (olc GL PL') ∧ Row w' bS' 0 (fl xS) ∧ w.heap.size ≤ bR' ∧ w.heap.size ≤ bL' ∧ w.heap.size ≤ bS' ∧ bR' ≠ bL' ∧ bR' ≠ bS' ∧ bL' ≠ bS' ∧ OF w.heap.size w' GR PR' ∧ (∀ i, i < nR → (PR'.getD i BC.d).b ≠ bR') ∧ (∀ i, i < nR → (PR'.getD i BC.d).b ≠ bL') ∧ (∀ i, i < nR → (PR'.getD i BC.d).b ≠ bS') ∧ (∀ i j, i < nR → j < nL → (PR'.getD i BC.d).b ≠ (PL'.getD j BC.d).b) ∧ OF w.heap.size w' GL PL' ∧ (∀ i, i < nL → (PL'.getD i BC.d).b ≠ bR') ∧ (∀ i, i < nL → (PL'.getD i BC.d).b ≠ bL') ∧ (∀ i, i < nL → (PL'.getD i BC.d).b ≠ bS') ∧ Mod [] w w' := by
 refine Cl.of Try.func59 Try.ntmps59 rfl rfl (ρ := [(0, vP p 0)]) rfl ?_
 refine CE.seq (CE.region ?_)
 refine WL.op (op_alloc (cs := [.slice none 0 0, .slice none 0 0, .slice none 0 0, vI 0, vF 0, vF 0, vF 0, vF 0, vF 0, .bool false, vF 0, vF 0, vF 0]) Try.zeroValue33 rfl) rfl rfl (ltb rfl) ?_
 rintro _ w1 ⟨rfl, r1, m1, z1⟩
 refine WL.end (NE.code (CE.seq ?_))
 refine CE.drawF (fun | 4 => some (fun _ wA uA wB => ∃ (b' : Nat) (c' : Nat) (P' : List BC), uA = vS b' 0 nR c' ∧ (P'.length = nR) ∧ Row wB b' 0 (olc GR P') ∧ wA.heap.size ≤ b' ∧ OF wA.heap.size wB GR P' ∧ (∀ i, i < nR → (P'.getD i BC.d).b ≠ b') ∧ Mod [] wA wB) | 9 => some (fun _ wA uA wB => ∃ (b' : Nat) (c' : Nat) (P' : List BC), uA = vS b' 0 nL c' ∧ (P'.length = nL) ∧ Row wB b' 0 (olc GL P') ∧ wA.heap.size ≤ b' ∧ OF wA.heap.size wB GL P' ∧ (∀ i, i < nL → (P'.getD i BC.d).b ≠ b') ∧ Mod [] wA wB) | _ => none) [0, 1, 2, 3, 4, 5, 6, 7, 8, 9, 10, 11, 12, 13, 14, 15, 16, 17, 18, 19, 20, 21, 22, 23, 24, 25, 26, 27, 28, 29, 30, 31, 32, 33, 34, 35] [36, 37] [] (fun ρ W => ∃ (e1_4_0 : Nat) (e1_4_1 : Nat) (e1_4_2 : List BC) (e1_9_0 : Nat) (e1_9_1 : Nat) (e1_9_2 : List BC) (e1_10_0 : Nat) (e1_15_0 : Nat) (e1_15_1 : Nat), ρ = [(2, vP w.heap.size 0), (7, vS e1_4_0 0 nR e1_4_1), (12, vS e1_9_0 0 nL e1_9_1), (18, vS e1_15_0 0 nS e1_15_1), (22, .agg #[vI k, vF kc0, vF kc1, vF kc2, vF ks0, vF ks1]), (26, .bool op), (30, vF lo), (34, vF re), (38, vF sl)] ∧ Row W e1_4_0 0 (olc GR e1_4_2) ∧ Row W e1_9_0 0 (olc GL e1_9_2) ∧ Row W e1_10_0 0 [] ∧ Row W e1_15_0 0 (fl xS) ∧ w1.heap.size ≤ e1_4_0 ∧ w1.heap.size ≤ e1_9_0 ∧ w1.heap.size ≤ e1_10_0 ∧ w1.heap.size ≤ e1_15_0 ∧ e1_4_0 ≠ e1_9_0 ∧ e1_4_0 ≠ e1_10_0 ∧ e1_4_0 ≠ e1_15_0 ∧ e1_9_0 ≠ e1_10_0 ∧ e1_9_0 ≠ e1_15_0 ∧ e1_10_0 ≠ e1_15_0 ∧ (e1_4_2.length = nR) ∧ (e1_9_2.length = nL) ∧ OF w1.heap.size W GR e1_4_2 ∧ (∀ i, i < nR → (e1_4_2.getD i BC.d).b ≠ e1_4_0) ∧ (∀ i, i < nR → (e1_4_2.getD i BC.d).b ≠ e1_9_0) ∧ (∀ i, i < nR → (e1_4_2.getD i BC.d).b ≠ e1_10_0) ∧ (∀ i, i < nR → (e1_4_2.getD i BC.d).b ≠ e1_15_0) ∧ (∀ i j, i < nR → j < nL → (e1_4_2.getD i BC.d).b ≠ (e1_9_2.getD j BC.d).b) ∧ OF w1.heap.size W GL e1_9_2 ∧ (∀ i, i < nL → (e1_9_2.getD i BC.d).b ≠ e1_4_0) ∧ (∀ i, i < nL → (e1_9_2.getD i BC.d).b ≠ e1_9_0) ∧ (∀ i, i < nL → (e1_9_2.getD i BC.d).b ≠ e1_10_0) ∧ (∀ i, i < nL → (e1_9_2.getD i BC.d).b ≠ e1_15_0) ∧ Mod [] w1 W) (by kernel_rfl) (by kernel_rfl) ?_ ?_
 have md1 : Mod [] w1 w1.drew := (Mod.refl _ _).drew
 generalize w1.drew = w2 at md1 ⊢
 ·refine DD 0 rfl (by kernel_rfl) rfl (fun wD mD => op_move rfl) ?_
  refine DD 1 rfl (by kernel_rfl) rfl (fun wD mD => op_nilCheck rfl) ?_
  refine DD 2 rfl (by kernel_rfl) rfl (fun wD mD => op_fieldAddr (off' := 0) rfl Try.runUnderlying33 rfl rfl Try.sizeOf25 rfl) ?_
  refine DD 3 rfl (by kernel_rfl) rfl (fun wD mD => op_load1 (i := 0) rfl Try.isAgg25 (((q.ext m1).ext md1).ext mD) rfl rfl) ?_
  refine DD 5 rfl (by kernel_rfl) rfl (fun wD mD => op_move rfl) ?_
  refine DD 6 rfl (by kernel_rfl) rfl (fun wD mD => op_nilCheck rfl) ?_
  refine DD 7 rfl (by kernel_rfl) rfl (fun wD mD => op_fieldAddr (off' := 1) rfl Try.runUnderlying33 rfl rfl Try.sizeOf25 rfl) ?_
  refine DD 8 rfl (by kernel_rfl) rfl (fun wD mD => op_load1 (i := 1) rfl Try.isAgg25 (((q.ext m1).ext md1).ext mD) rfl rfl) ?_
  refine DD 11 rfl (by kernel_rfl) rfl (fun wD mD => op_move rfl) ?_
  refine DD 12 rfl (by kernel_rfl) rfl (fun wD mD => op_nilCheck rfl) ?_
  refine DD 13 rfl (by kernel_rfl) rfl (fun wD mD => op_fieldAddr (off' := 2) rfl Try.runUnderlying33 rfl rfl Try.sizeOf26 rfl) ?_
  refine DD 14 rfl (by kernel_rfl) rfl (fun wD mD => op_load1 (i := 2) rfl Try.isAgg26 (((q.ext m1).ext md1).ext mD) rfl rfl) ?_
  refine DD 16 rfl (by kernel_rfl) rfl (fun wD mD => op_move rfl) ?_
  refine DD 17 rfl (by kernel_rfl) rfl (fun wD mD => op_nilCheck rfl) ?_
  refine DD 18 rfl (by kernel_rfl) rfl (fun wD mD => op_fieldAddr (off' := 3) rfl Try.runUnderlying33 rfl rfl Try.sizeOf31 rfl) ?_
  refine DD 19 rfl (by kernel_rfl) rfl (fun wD mD => op_loadA (i := 3) (cs := [vI k, vF kc0, vF kc1, vF kc2, vF ks0, vF ks1]) rfl Try.isAgg31 Try.sizeOf31 (((q.ext m1).ext md1).ext mD) rfl rfl rfl) ?_
  refine DD 20 rfl (by kernel_rfl) rfl (fun wD mD => op_move rfl) ?_
  refine DD 21 rfl (by kernel_rfl) rfl (fun wD mD => op_nilCheck rfl) ?_
  refine DD 22 rfl (by kernel_rfl) rfl (fun wD mD => op_fieldAddr (off' := 9) rfl Try.runUnderlying33 rfl rfl Try.sizeOf4 rfl) ?_
  refine DD 23 rfl (by kernel_rfl) rfl (fun wD mD => op_load1 (i := 9) rfl Try.isAgg4 (((q.ext m1).ext md1).ext mD) rfl rfl) ?_
  refine DD 24 rfl (by kernel_rfl) rfl (fun wD mD => op_move rfl) ?_
  refine DD 25 rfl (by kernel_rfl) rfl (fun wD mD => op_nilCheck rfl) ?_
  refine DD 26 rfl (by kernel_rfl) rfl (fun wD mD => op_fieldAddr (off' := 10) rfl Try.runUnderlying33 rfl rfl Try.sizeOf27 rfl) ?_
  refine DD 27 rfl (by kernel_rfl) rfl (fun wD mD => op_load1 (i := 10) rfl Try.isAgg27 (((q.ext m1).ext md1).ext mD) rfl rfl) ?_
  refine DD 28 rfl (by kernel_rfl) rfl (fun wD mD => op_move rfl) ?_
  refine DD 29 rfl (by kernel_rfl) rfl (fun wD mD => op_nilCheck rfl) ?_
  refine DD 30 rfl (by kernel_rfl) rfl (fun wD mD => op_fieldAddr (off' := 11) rfl Try.runUnderlying33 rfl rfl Try.sizeOf27 rfl) ?_
  refine DD 31 rfl (by kernel_rfl) rfl (fun wD mD => op_load1 (i := 11) rfl Try.isAgg27 (((q.ext m1).ext md1).ext mD) rfl rfl) ?_
  refine DD 32 rfl (by kernel_rfl) rfl (fun wD mD => op_move rfl) ?_
  refine DD 33 rfl (by kernel_rfl) rfl (fun wD mD => op_nilCheck rfl) ?_
  refine DD 34 rfl (by kernel_rfl) rfl (fun wD mD => op_fieldAddr (off' := 12) rfl Try.runUnderlying33 rfl rfl Try.sizeOf27 rfl) ?_
  refine DD 35 rfl (by kernel_rfl) rfl (fun wD mD => op_load1 (i := 12) rfl Try.isAgg27 (((q.ext m1).ext md1).ext mD) rfl rfl) ?_
  refine DR.fork (is := [4, 10]) (by kernel_rfl) (by decide) (all2 ?_ ?_)
  ·refine DP.call (i := 4) rfl rfl (.free rfl) rfl (ltb rfl) (vs := [.func (.func 111) #[] #[], vS bR 0 nR cR]) rfl ?_
   intro w3 m2
   refine ⟨oc_call (vs := [vS bR 0 nR cR]) (cap := []) rfl rfl rfl Try.call111 (c_l04CopiesS nR cR bR GR PR loR lDR lPR (by first | assumption | exact rd_small (by assumption) (by assumption) | exact markD_small (by first | assumption | exact rd_small (by assumption) (by assumption)) _) (by omega) (by omega) (by first | assumption | exact vRings_pos (by assumption)) w3 (((rR.ext m1).ext md1).ext m2) (((FR.ext m1).ext md1).ext m2)), ?_⟩
   rintro _ w4 ⟨b'1, c'1, P'1, rfl, h1, r2, ge1, fm1, fn1, m3⟩
   refine ⟨(((Mod.refl [] w2).nt m2).nt m3), ?_⟩
   refine DR.rebase ?_
   refine DR.fork (is := [9, 10]) (by kernel_rfl) (by decide) (all2 ?_ ?_)
   ·refine DP.call (i := 9) rfl rfl (.free rfl) rfl (ltb rfl) (vs := [.func (.func 111) #[] #[], vS bL 0 nL cL]) rfl ?_
    intro w5 m4
    refine ⟨oc_call (vs := [vS bL 0 nL cL]) (cap := []) rfl rfl rfl Try.call111 (c_l04CopiesS nL cL bL GL PL loL lDL lPL (by first | assumption | exact rd_small (by assumption) (by assumption) | exact markD_small (by first | assumption | exact rd_small (by assumption) (by assumption)) _) (by omega) (by omega) (by first | assumption | exact vRings_pos (by assumption)) w5 (((((rL.ext m1).ext md1).ext m2).ext m3).ext m4) (((((FL.ext m1).ext md1).ext m2).ext m3).ext m4)), ?_⟩
    rintro _ w6 ⟨b'2, c'2, P'2, rfl, h2, r3, ge2, fm2, fn2, m5⟩
    refine ⟨(((Mod.refl [] w4).nt m4).nt m5), ?_⟩
    refine DR.rebase ?_
    refine DR.one1 (i := 10) rfl rfl (by kernel_rfl) (.free rfl) rfl (ltb rfl) ?_
    intro w7 m6
    refine Op1.mono (op_emptySl rfl Try.runUnderlying26 Try.sizeOf27) ?_
    rintro _ w8 ⟨rfl, r4, m7, z2⟩
    refine ⟨(((Mod.refl [] w6).nt m6).nt m7), ?_⟩
    refine DR.rebase ?_
    refine DR.one1 (i := 15) rfl rfl (by kernel_rfl) (.free rfl) rfl (ltb rfl) ?_
    intro w9 m8
    refine Op1.mono (op_appendF (i := Try.t27) rfl rfl Try.underlying26 rfl rfl rfl rfl (((((((((rS.ext m1).ext md1).ext m2).ext m3).ext m4).ext m5).ext m6).ext m7).ext m8) lnS (by omega) (by omega)) ?_
    rintro _ w10 ⟨b1, c1, rfl, ge3, r5, m9⟩
    refine ⟨(((Mod.refl [] w8).nt m8).nt m9), ?_⟩
    refine DR.sub [(2, vP w.heap.size 0), (7, vS b'1 0 nR c'1), (12, vS b'2 0 nL c'2), (18, vS b1 0 nS c1), (22, .agg #[vI k, vF kc0, vF kc1, vF kc2, vF ks0, vF ks1]), (26, .bool op), (30, vF lo), (34, vF re), (38, vF sl)] ⟨rfl, rfl, rfl, rfl, rfl, rfl, rfl, rfl, rfl, trivial⟩ ?_
    refine DR.meet rfl ?_
    intro w11 m10
    have r6 := (((((((r2.ext m4).ext m5).ext m6).ext m7).ext m8).ext m9).ext m10)
    have r7 := (((((r3.ext m6).ext m7).ext m8).ext m9).ext m10)
    have r8 := (((r4.ext m8).ext m9).ext m10)
    have sz1 := (lT (lT (lT md1.size m2.size) m3.size) m4.size)
    have sz2 := (lT (lT sz1 m5.size) m6.size)
    have sz3 := (lT (lT sz2 m7.size) m8.size)
    have sz4 := (lT (lT m4.size m5.size) m6.size)
    have sz5 := (lT (lT sz4 m7.size) m8.size)
    have sz6 := (lT (lT m6.size m7.size) m8.size)
    exact ⟨b'1, c'1, P'1, b'2, c'2, P'2, w7.heap.size, b1, c1, rfl, r6, r7, r8, (r5.ext m10), (lT (lT md1.size m2.size) ge1), (lT sz1 ge2), (lT sz2 lR), (lT sz3 ge3), (lE (lL (lL r2.lt m4.size) ge2)), (lE (lL (lL r2.lt sz4) lR)), (lE (lL (lL r2.lt sz5) ge3)), (lE (lL (lL r3.lt m6.size) lR)), (lE (lL (lL r3.lt sz6) ge3)), (lE (lL (lL r4.lt m8.size) ge3)), h1, h2, (OF.low (((((((fm1.ext m4).ext m5).ext m6).ext m7).ext m8).ext m9).ext m10) (lT md1.size m2.size)), (fun j hj => (fn1 j (show j < nR by omega))), (fun j hj => (lE (lL (OF.lt fm1 (lQ (show j < nR by omega) lDR.symm)) (lT m4.size ge2)))), (fun j hj => (lE (lL (OF.lt fm1 (lQ (show j < nR by omega) lDR.symm)) (lT sz4 lR)))), (fun j hj => (lE (lL (OF.lt fm1 (lQ (show j < nR by omega) lDR.symm)) (lT sz5 ge3)))), (fun j q hj hq => (lE (lL (lL (OF.lt fm1 (lQ (show j < nR by omega) lDR.symm)) m4.size) (fm2.ge q (lQ (show q < nL by omega) lDL.symm))))), (OF.low (((((fm2.ext m6).ext m7).ext m8).ext m9).ext m10) sz1), (fun j hj => (lG (lL (lL r2.lt m4.size) (fm2.ge j (lQ (show j < nL by omega) lDL.symm))))), (fun j hj => (fn2 j (show j < nL by omega))), (fun j hj => (lE (lL (OF.lt fm2 (lQ (show j < nL by omega) lDL.symm)) (lT m6.size lR)))), (fun j hj => (lE (lL (OF.lt fm2 (lQ (show j < nL by omega) lDL.symm)) (lT sz6 ge3)))), (((((((((((Mod.refl [] w1).nt md1).nt m2).nt m3).nt m4).nt m5).nt m6).nt m7).nt m8).nt m9).nt m10)⟩
   ·refine DP.op (i := 10) rfl rfl (.free rfl) rfl (ltb rfl) ?_
    intro w12 m11
    refine Op1.mono (op_emptySl rfl Try.runUnderlying26 Try.sizeOf27) ?_
    rintro _ w13 ⟨rfl, r9, m12, z3⟩
    refine ⟨(((Mod.refl [] w4).nt m11).nt m12), ?_⟩
    refine DR.rebase ?_
    refine DR.one (i := 9) rfl rfl (by kernel_rfl) (.free rfl) rfl (ltb rfl) (vs := [.func (.func 111) #[] #[], vS bL 0 nL cL]) rfl ?_
    intro w14 m13
    refine ⟨oc_call (vs := [vS bL 0 nL cL]) (cap := []) rfl rfl rfl Try.call111 (c_l04CopiesS nL cL bL GL PL loL lDL lPL (by first | assumption | exact rd_small (by assumption) (by assumption) | exact markD_small (by first | assumption | exact rd_small (by assumption) (by assumption)) _) (by omega) (by omega) (by first | assumption | exact vRings_pos (by assumption)) w14 (((((((rL.ext m1).ext md1).ext m2).ext m3).ext m11).ext m12).ext m13) (((((((FL.ext m1).ext md1).ext m2).ext m3).ext m11).ext m12).ext m13)), ?_⟩
    rintro _ w15 ⟨b'3, c'3, P'3, rfl, h3, r10, ge4, fm3, fn3, m14⟩
    refine ⟨(((Mod.refl [] w13).nt m13).nt m14), ?_⟩
    refine DR.rebase ?_
    refine DR.one1 (i := 15) rfl rfl (by kernel_rfl) (.free rfl) rfl (ltb rfl) ?_
    intro w16 m15
    refine Op1.mono (op_appendF (i := Try.t27) rfl rfl Try.underlying26 rfl rfl rfl rfl (((((((((rS.ext m1).ext md1).ext m2).ext m3).ext m11).ext m12).ext m13).ext m14).ext m15) lnS (by omega) (by omega)) ?_
    rintro _ w17 ⟨b2, c2, rfl, ge5, r11, m16⟩
    refine ⟨(((Mod.refl [] w15).nt m15).nt m16), ?_⟩
    refine DR.sub [(2, vP w.heap.size 0), (7, vS b'1 0 nR c'1), (12, vS b'3 0 nL c'3), (18, vS b2 0 nS c2), (22, .agg #[vI k, vF kc0, vF kc1, vF kc2, vF ks0, vF ks1]), (26, .bool op), (30, vF lo), (34, vF re), (38, vF sl)] ⟨rfl, rfl, rfl, rfl, rfl, rfl, rfl, rfl, rfl, trivial⟩ ?_
    refine DR.meet rfl ?_
    intro w18 m17
    have r12 := (((((((r2.ext m11).ext m12).ext m13).ext m14).ext m15).ext m16).ext m17)
    have r13 := (((r10.ext m15).ext m16).ext m17)
    have r14 := (((((r9.ext m13).ext m14).ext m15).ext m16).ext m17)
    have sz7 := (lT (lT (lT (lT (lT md1.size m2.size) m3.size) m11.size) m12.size) m13.size)
    have sz8 := (lT (lT (lT md1.size m2.size) m3.size) m11.size)
    have sz9 := (lT (lT sz7 m14.size) m15.size)
    have sz10 := (lT (lT m11.size m12.size) m13.size)
    have sz11 := (lT (lT sz10 m14.size) m15.size)
    have sz12 := (lT (lT m13.size m14.size) m15.size)
    exact ⟨b'1, c'1, P'1, b'3, c'3, P'3, w12.heap.size, b2, c2, rfl, r12, r13, r14, (r11.ext m17), (lT (lT md1.size m2.size) ge1), (lT sz7 ge4), (lT sz8 lR), (lT sz9 ge5), (lE (lL (lL r2.lt sz10) ge4)), (lE (lL (lL r2.lt m11.size) lR)), (lE (lL (lL r2.lt sz11) ge5)), (lG (lL (lL r9.lt m13.size) ge4)), (lE (lL (lL r10.lt m15.size) ge5)), (lE (lL (lL r9.lt sz12) ge5)), h1, h3, (OF.low (((((((fm1.ext m11).ext m12).ext m13).ext m14).ext m15).ext m16).ext m17) (lT md1.size m2.size)), (fun j hj => (fn1 j (show j < nR by omega))), (fun j hj => (lE (lL (OF.lt fm1 (lQ (show j < nR by omega) lDR.symm)) (lT sz10 ge4)))), (fun j hj => (lE (lL (OF.lt fm1 (lQ (show j < nR by omega) lDR.symm)) (lT m11.size lR)))), (fun j hj => (lE (lL (OF.lt fm1 (lQ (show j < nR by omega) lDR.symm)) (lT sz11 ge5)))), (fun j q hj hq => (lE (lL (lL (OF.lt fm1 (lQ (show j < nR by omega) lDR.symm)) sz10) (fm3.ge q (lQ (show q < nL by omega) lDL.symm))))), (OF.low (((fm3.ext m15).ext m16).ext m17) sz7), (fun j hj => (lG (lL (lL r2.lt sz10) (fm3.ge j (lQ (show j < nL by omega) lDL.symm))))), (fun j hj => (fn3 j (show j < nL by omega))), (fun j hj => (lG (lL (lL r9.lt m13.size) (fm3.ge j (lQ (show j < nL by omega) lDL.symm))))), (fun j hj => (lE (lL (OF.lt fm3 (lQ (show j < nL by omega) lDL.symm)) (lT m15.size ge5)))), (((((((((((Mod.refl [] w1).nt md1).nt m2).nt m3).nt m11).nt m12).nt m13).nt m14).nt m15).nt m16).nt m17)⟩
  ·refine DP.op (i := 10) rfl rfl (.free rfl) rfl (ltb rfl) ?_
   intro w19 m18
   refine Op1.mono (op_emptySl rfl Try.runUnderlying26 Try.sizeOf27) ?_
   rintro _ w20 ⟨rfl, r15, m19, z4⟩
   refine ⟨(((Mod.refl [] w2).nt m18).nt m19), ?_⟩
   refine DR.rebase ?_
   refine DR.one (i := 4) rfl rfl (by kernel_rfl) (.free rfl) rfl (ltb rfl) (vs := [.func (.func 111) #[] #[], vS bR 0 nR cR]) rfl ?_
   intro w21 m20
   refine ⟨oc_call (vs := [vS bR 0 nR cR]) (cap := []) rfl rfl rfl Try.call111 (c_l04CopiesS nR cR bR GR PR loR lDR lPR (by first | assumption | exact rd_small (by assumption) (by assumption) | exact markD_small (by first | assumption | exact rd_small (by assumption) (by assumption)) _) (by omega) (by omega) (by first | assumption | exact vRings_pos (by assumption)) w21 (((((rR.ext m1).ext md1).ext m18).ext m19).ext m20) (((((FR.ext m1).ext md1).ext m18).ext m19).ext m20)), ?_⟩
   rintro _ w22 ⟨b'4, c'4, P'4, rfl, h4, r16, ge6, fm4, fn4, m21⟩
   refine ⟨(((Mod.refl [] w20).nt m20).nt m21), ?_⟩
   refine DR.rebase ?_
   refine DR.one (i := 9) rfl rfl (by kernel_rfl) (.free rfl) rfl (ltb rfl) (vs := [.func (.func 111) #[] #[], vS bL 0 nL cL]) rfl ?_
   intro w23 m22
   refine ⟨oc_call (vs := [vS bL 0 nL cL]) (cap := []) rfl rfl rfl Try.call111 (c_l04CopiesS nL cL bL GL PL loL lDL lPL (by first | assumption | exact rd_small (by assumption) (by assumption) | exact markD_small (by first | assumption | exact rd_small (by assumption) (by assumption)) _) (by omega) (by omega) (by first | assumption | exact vRings_pos (by assumption)) w23 (((((((rL.ext m1).ext md1).ext m18).ext m19).ext m20).ext m21).ext m22) (((((((FL.ext m1).ext md1).ext m18).ext m19).ext m20).ext m21).ext m22)), ?_⟩
   rintro _ w24 ⟨b'5, c'5, P'5, rfl, h5, r17, ge7, fm5, fn5, m23⟩
   refine ⟨(((Mod.refl [] w22).nt m22).nt m23), ?_⟩
   refine DR.rebase ?_
   refine DR.one1 (i := 15) rfl rfl (by kernel_rfl) (.free rfl) rfl (ltb rfl) ?_
   intro w25 m24
   refine Op1.mono (op_appendF (i := Try.t27) rfl rfl Try.underlying26 rfl rfl rfl rfl (((((((((rS.ext m1).ext md1).ext m18).ext m19).ext m20).ext m21).ext m22).ext m23).ext m24) lnS (by omega) (by omega)) ?_
   rintro _ w26 ⟨b3, c3, rfl, ge8, r18, m25⟩
   refine ⟨(((Mod.refl [] w24).nt m24).nt m25), ?_⟩
   refine DR.sub [(2, vP w.heap.size 0), (7, vS b'4 0 nR c'4), (12, vS b'5 0 nL c'5), (18, vS b3 0 nS c3), (22, .agg #[vI k, vF kc0, vF kc1, vF kc2, vF ks0, vF ks1]), (26, .bool op), (30, vF lo), (34, vF re), (38, vF sl)] ⟨rfl, rfl, rfl, rfl, rfl, rfl, rfl, rfl, rfl, trivial⟩ ?_
   refine DR.meet rfl ?_
   intro w27 m26
   have r19 := (((((r16.ext m22).ext m23).ext m24).ext m25).ext m26)
   have r20 := (((r17.ext m24).ext m25).ext m26)
   have r21 := (((((((r15.ext m20).ext m21).ext m22).ext m23).ext m24).ext m25).ext m26)
   have sz13 := (lT (lT (lT md1.size m18.size) m19.size) m20.size)
   have sz14 := (lT (lT sz13 m21.size) m22.size)
   have sz15 := (lT (lT sz14 m23.size) m24.size)
   have sz16 := (lT (lT m22.size m23.size) m24.size)
   have sz17 := (lT (lT m20.size m21.size) m22.size)
   have sz18 := (lT (lT sz17 m23.size) m24.size)
   exact ⟨b'4, c'4, P'4, b'5, c'5, P'5, w19.heap.size, b3, c3, rfl, r19, r20, r21, (r18.ext m26), (lT sz13 ge6), (lT sz14 ge7), (lT (lT md1.size m18.size) lR), (lT sz15 ge8), (lE (lL (lL r16.lt m22.size) ge7)), (lG (lL (lL r15.lt m20.size) ge6)), (lE (lL (lL r16.lt sz16) ge8)), (lG (lL (lL r15.lt sz17) ge7)), (lE (lL (lL r17.lt m24.size) ge8)), (lE (lL (lL r15.lt sz18) ge8)), h4, h5, (OF.low (((((fm4.ext m22).ext m23).ext m24).ext m25).ext m26) sz13), (fun j hj => (fn4 j (show j < nR by omega))), (fun j hj => (lE (lL (OF.lt fm4 (lQ (show j < nR by omega) lDR.symm)) (lT m22.size ge7)))), (fun j hj => (lG (lL (lL r15.lt m20.size) (fm4.ge j (lQ (show j < nR by omega) lDR.symm))))), (fun j hj => (lE (lL (OF.lt fm4 (lQ (show j < nR by omega) lDR.symm)) (lT sz16 ge8)))), (fun j q hj hq => (lE (lL (lL (OF.lt fm4 (lQ (show j < nR by omega) lDR.symm)) m22.size) (fm5.ge q (lQ (show q < nL by omega) lDL.symm))))), (OF.low (((fm5.ext m24).ext m25).ext m26) sz14), (fun j hj => (lG (lL (lL r16.lt m22.size) (fm5.ge j (lQ (show j < nL by omega) lDL.symm))))), (fun j hj => (fn5 j (show j < nL by omega))), (fun j hj => (lG (lL (lL r15.lt sz17) (fm5.ge j (lQ (show j < nL by omega) lDL.symm))))), (fun j hj => (lE (lL (OF.lt fm5 (lQ (show j < nL by omega) lDL.symm)) (lT m24.size ge8)))), (((((((((((Mod.refl [] w1).nt md1).nt m18).nt m19).nt m20).nt m21).nt m22).nt m23).nt m24).nt m25).nt m26)⟩
 ·rintro _ w28 ⟨e1_4_0, e1_4_1, e1_4_2, e1_9_0, e1_9_1, e1_9_2, e1_10_0, e1_15_0, e1_15_1, rfl, rr1_0, rr1_1, rr1_2, rr1_3, ge9, ge10, ge11, ge12, ne1, ne2, ne3, ne4, ne5, ne6, hp1_4_0, hp1_9_0, fr1_0, fa1_0_0, fa1_0_1, fa1_0_2, fa1_0_3, fb1_0_0, fr1_1, fa1_1_0, fa1_1_1, fa1_1_2, fa1_1_3, m27⟩
  refine WO.det (op_build (qs := [(0, vS e1_4_0 0 nR e1_4_1), (1, vS e1_9_0 0 nL e1_9_1), (2, vS e1_15_0 0 nS e1_15_1), (3, .agg #[vI k, vF kc0, vF kc1, vF kc2, vF ks0, vF ks1]), (4, .bool op), (5, vF lo), (6, vF re), (7, vF sl)]) (cells := #[vS e1_4_0 0 nR e1_4_1, vS e1_9_0 0 nL e1_9_1, vS e1_15_0 0 nS e1_15_1, vI k, vF kc0, vF kc1, vF kc2, vF ks0, vF ks1, .bool op, vF lo, vF re, vF sl]) rfl (by kernel_rfl)) rfl (.free rfl) rfl rfl ?_
  refine WO.op0 rfl (.free rfl) rfl (op_store (i := 0) (cs := [vS e1_4_0 0 nR e1_4_1, vS e1_9_0 0 nL e1_9_1, vS e1_15_0 0 nS e1_15_1, vI k, vF kc0, vF kc1, vF kc2, vF ks0, vF ks1, .bool op, vF lo, vF re, vF sl]) rfl rfl rfl Try.sizeOf33 rfl (r1.ext m27) rfl (lB rfl) rfl) ?_
  rintro _ w29 ⟨r22, m28, z5⟩
  have r23 : Row w29 w.heap.size 0 [vS e1_4_0 0 nR e1_4_1, vS e1_9_0 0 nL e1_9_1, vS e1_15_0 0 nS e1_15_1, vI k, vF kc0, vF kc1, vF kc2, vF ks0, vF ks1, .bool op, vF lo, vF re, vF sl] := Row.congr r22 rfl
  refine WO.end (NE.code (CE.ret' ?_))
  refine XE.leaveC Try.results59 (res_agg (cs := [vS e1_4_0 0 nR e1_4_1, vS e1_9_0 0 nL e1_9_1, vS e1_15_0 0 nS e1_15_1, vI k, vF kc0, vF kc1, vF kc2, vF ks0, vF ks1, .bool op, vF lo, vF re, vF sl]) rfl Try.isAgg33 Try.sizeOf33 r23.rng rfl res_nil) ?_
  refine ⟨e1_4_0, e1_4_1, e1_4_2, e1_9_0, e1_9_1, e1_9_2, e1_15_0, e1_15_1, rfl, hp1_4_0, hp1_9_0, (rr1_0.mod m28 (nC (lG (lL r1.lt ge9)) nN)), (rr1_1.mod m28 (nC (lG (lL r1.lt ge10)) nN)), (rr1_3.mod m28 (nC (lG (lL r1.lt ge12)) nN)), (lT m1.size ge9), (lT m1.size ge10), (lT m1.size ge12), ne1, ne3, ne5, (OF.low (fr1_0.mod m28 (fun j hj => (nC (lG (lL r1.lt (fr1_0.ge j (lQ (lQ hj lDR) lDR.symm)))) nN))) m1.size), (fun j hj => (fa1_0_0 j (show j < nR by omega))), (fun j hj => (fa1_0_1 j (show j < nR by omega))), (fun j hj => (fa1_0_3 j (show j < nR by omega))), (fun j q hj hq => (fb1_0_0 j q (show j < nR by omega) (show q < nL by omega))), (OF.low (fr1_1.mod m28 (fun j hj => (nC (lG (lL r1.lt (fr1_1.ge j (lQ (lQ hj lDL) lDL.symm)))) nN))) m1.size), (fun j hj => (fa1_1_0 j (show j < nL by omega))), (fun j hj => (fa1_1_1 j (show j < nL by omega))), (fun j hj => (fa1_1_3 j (show j < nL by omega))), ((((Mod.refl [] w).nt m1).nt m27).then m28 ((aC (.inr lR) aN)))⟩

theorem c_clonePipeS0 (nR : Nat) (GR : List RD) (nL : Nat) (GL : List RD) (xS : List Nat) (cR : Nat) (bR : Nat) (PR : List BC) (loR : Nat) (cL : Nat) (bL : Nat) (PL : List BC) (loL : Nat) (cS : Nat) (bS : Nat) (k : Int) (kc0 : Nat) (kc1 : Nat) (kc2 : Nat) (ks0 : Nat) (ks1 : Nat) (op : Bool) (lo : Nat) (re : Nat) (sl : Nat) (lDR : GR.length = nR) (lDL : GL.length = nL) (lnS : xS.length = 0) (hzR : ∀ i, (GR.getD i RD.d).xs.length ≤ 1048576) (hzL : ∀ i, (GL.getD i RD.d).xs.length ≤ 1048576) (lPR : PR.length = nR) (lPL : PL.length = nL) (mR : nR ≤ 1048576) (mL : nL ≤ 1048576) (h0n : 0 < nR) (h0m : 0 < nL) (hpR : ∀ i, i < nR → 0 < (GR.getD i RD.d).xs.length) (hpL : ∀ i, i < nL → 0 < (GL.getD i RD.d).xs.length) (w : World) (rR : Rng w bR 0 (olc GR PR)) (rL : Rng w bL 0 (olc GL PL)) (rS : Rng w bS 0 (fl xS))  (FR : OF loR w GR PR) (FL : OF loL w GL PL) : Cl Try.prog 63 #[.agg #[vS bR 0 nR cR, vS bL 0 nL cL, vS bS 0 0 cS, vI k, vF kc0, vF kc1, vF kc2, vF ks0, vF ks1, .bool op, vF lo, vF re, vF sl]] w fun v w' => ∃ (bR' : Nat) (cR' : Nat) (PR' : List BC) (bL' : Nat) (cL' : Nat) (PL' : List BC) (bS' : Nat) (cS' : Nat), v = .agg #[vS bR' 0 nR cR', vS bL' 0 nL cL', vS bS' 0 0 cS', vI k, vF kc0, vF kc1, vF kc2, vF ks0, vF ks1, .bool op, vF lo, vF re, vF sl] ∧ (PR'.length = nR) ∧ (PL'.length = nL) ∧ Row w' bR' 0 (olc GR PR') ∧ Row w' bL' 0 (olc GL PL') ∧ Row w' bS' 0 (fl xS) ∧ w.heap.size ≤ bR' ∧ w.heap.size ≤ bL' ∧ w.heap.size ≤ bS' ∧ bR' ≠ bL' ∧ bR' ≠ bS' ∧ bL' ≠ bS' ∧ OF w.heap.size w' GR PR' ∧ (∀ i, i < nR → (PR'.getD i BC.d).b ≠ bR') ∧ (∀ i, i < nR → (PR'.getD i BC.d).b ≠ bL') ∧ (∀ i, i < nR → (PR'.getD i BC.d).b ≠ bS') ∧ (∀ i j, i < nR → j < nL → (PR'.getD i BC.d).b ≠ (PL'.getD j BC.d).b) ∧ OF w.heap.size w' GL PL' ∧ (∀ i, i < nL → (PL'.getD i BC.d).b ≠ bR') ∧ (∀ i, i < nL → (PL'.getD i BC.d).b ≠ bL') ∧ (∀ i, i < nL → (PL'.getD i BC.d).b ≠ bS') ∧ Mod [] w w' := by
 refine Cl.of Try.func63 Try.ntmps63 rfl rfl (ρ := [(0, .agg #[vS bR 0 nR cR, vS bL 0 nL cL, vS bS 0 0 cS, vI k, vF kc0, vF kc1, vF kc2, vF ks0, vF ks1, .bool op, vF lo, vF re, vF sl])]) rfl ?_
 refine CE.seq (CE.region ?_)
 refine WL.op (op_box (cs := [vS bR 0 nR cR, vS bL 0 nL cL, vS bS 0 0 cS, vI k, vF kc0, vF kc1, vF kc2, vF ks0, vF ks1, .bool op, vF lo, vF re, vF sl]) rfl rfl) rfl rfl (ltb rfl) ?_
 rintro _ w1 ⟨rfl, r1, m1, z1⟩
 refine WL.op (op_alloc (cs := [.slice none 0 0, .slice none 0 0, .slice none 0 0, vI 0, vF 0, vF 0, vF 0, vF 0, vF 0, .bool false, vF 0, vF 0, vF 0]) Try.zeroValue33 rfl) rfl rfl (ltb rfl) ?_
 rintro _ w2 ⟨rfl, r2, m2, z2⟩
 refine WL.end (NE.code (CE.seq ?_))
 refine CE.draw (fun | 2 => some (fun _ wA uA wB => ∃ (b' : Nat) (c' : Nat) (P' : List BC), uA = vS b' 0 nR c' ∧ (P'.length = nR) ∧ Row wB b' 0 (olc GR P') ∧ wA.heap.size ≤ b' ∧ OF wA.heap.size wB GR P' ∧ (∀ i, i < nR → (P'.getD i BC.d).b ≠ b') ∧ Mod [] wA wB) | 5 => some (fun _ wA uA wB => ∃ (b' : Nat) (c' : Nat) (P' : List BC), uA = vS b' 0 nL c' ∧ (P'.length = nL) ∧ Row wB b' 0 (olc GL P') ∧ wA.heap.size ≤ b' ∧ OF wA.heap.size wB GL P' ∧ (∀ i, i < nL → (P'.getD i BC.d).b ≠ b') ∧ Mod [] wA wB) | 8 => some (fun _ wA uA wB => ∃ (b' : Nat), uA = vS b' 0 0 0 ∧ Row wB b' 0 (fl xS) ∧ wA.heap.size ≤ b' ∧ Mod [] wA wB) | _ => none) [0, 1, 2, 3, 4, 5, 6, 7, 8, 9] [10, 11, 12, 13, 14] [] (by kernel_rfl) (by kernel_rfl) ?_
 have md1 : Mod [] w2 w2.drew := (Mod.refl _ _).drew
 generalize w2.drew = w3 at md1 ⊢
 refine DD 0 rfl (by kernel_rfl) rfl (fun wD mD => op_fieldAddr (off' := 0) rfl Try.runUnderlying33 rfl rfl Try.sizeOf25 rfl) ?_
 refine DD 1 rfl (by kernel_rfl) rfl (fun wD mD => op_load1 (i := 0) rfl Try.isAgg25 (((r1.ext m2).ext md1).ext mD).rng rfl rfl) ?_
 refine DD 3 rfl (by kernel_rfl) rfl (fun wD mD => op_fieldAddr (off' := 1) rfl Try.runUnderlying33 rfl rfl Try.sizeOf25 rfl) ?_
 refine DD 4 rfl (by kernel_rfl) rfl (fun wD mD => op_load1 (i := 1) rfl Try.isAgg25 (((r1.ext m2).ext md1).ext mD).rng rfl rfl) ?_
 refine DD 6 rfl (by kernel_rfl) rfl (fun wD mD => op_fieldAddr (off' := 2) rfl Try.runUnderlying33 rfl rfl Try.sizeOf26 rfl) ?_
 refine DD 7 rfl (by kernel_rfl) rfl (fun wD mD => op_load1 (i := 2) rfl Try.isAgg26 (((r1.ext m2).ext md1).ext mD).rng rfl rfl) ?_
 refine DR.one (i := 2) rfl rfl (by kernel_rfl) (.free rfl) rfl (ltb rfl) (vs := [.func (.func 116) #[] #[], vS bR 0 nR cR]) rfl ?_
 intro w4 m3
 refine ⟨oc_call (vs := [vS bR 0 nR cR]) (cap := []) rfl rfl rfl Try.call116 (c_cloneRingsS nR cR bR GR PR loR lDR lPR (by first | assumption | exact rd_small (by assumption) (by assumption) | exact markD_small (by first | assumption | exact rd_small (by assumption) (by assumption)) _) (by omega) (by omega) (by first | assumption | exact vRings_pos (by assumption)) w4 ((((rR.ext m1).ext m2).ext md1).ext m3) ((((FR.ext m1).ext m2).ext md1).ext m3)), ?_⟩
 rintro _ w5 ⟨b'1, c'1, P'1, rfl, h1, r3, ge1, fm1, fn1, m4⟩
 refine ⟨(((Mod.refl [] w3).nt m3).nt m4), ?_⟩
 refine DR.rebase ?_
 refine DD 9 rfl (by kernel_rfl) rfl (fun wD mD => op_fieldAddr (off' := 0) rfl Try.runUnderlying33 rfl rfl Try.sizeOf25 rfl) ?_
 refine DR.one (i := 5) rfl rfl (by kernel_rfl) (.free rfl) rfl (ltb rfl) (vs := [.func (.func 116) #[] #[], vS bL 0 nL cL]) rfl ?_
 intro w6 m5
 refine ⟨oc_call (vs := [vS bL 0 nL cL]) (cap := []) rfl rfl rfl Try.call116 (c_cloneRingsS nL cL bL GL PL loL lDL lPL (by first | assumption | exact rd_small (by assumption) (by assumption) | exact markD_small (by first | assumption | exact rd_small (by assumption) (by assumption)) _) (by omega) (by omega) (by first | assumption | exact vRings_pos (by assumption)) w6 ((((((rL.ext m1).ext m2).ext md1).ext m3).ext m4).ext m5) ((((((FL.ext m1).ext m2).ext md1).ext m3).ext m4).ext m5)), ?_⟩
 rintro _ w7 ⟨b'2, c'2, P'2, rfl, h2, r4, ge2, fm2, fn2, m6⟩
 refine ⟨(((Mod.refl [] w5).nt m5).nt m6), ?_⟩
 refine DR.rebase ?_
 refine DR.one (i := 8) rfl rfl (by kernel_rfl) (.free rfl) rfl (ltb rfl) (vs := [.func (.func 75) #[] #[], vS bS 0 0 cS]) rfl ?_
 intro w8 m7
 refine ⟨oc_call (vs := [vS bS 0 0 cS]) (cap := []) rfl rfl rfl Try.call75 (c_Clone32_0 cS bS xS lnS w8 ((((((((rS.ext m1).ext m2).ext md1).ext m3).ext m4).ext m5).ext m6).ext m7)), ?_⟩
 rintro _ w9 ⟨b'3, rfl, r5, ge3, m8⟩
 refine ⟨(((Mod.refl [] w7).nt m7).nt m8), ?_⟩
 refine DR.done rfl ?_
 intro w10 m9
 have r6 := (((((((((r1.ext m2).ext md1).ext m3).ext m4).ext m5).ext m6).ext m7).ext m8).ext m9)
 refine WO.op0 rfl (.free rfl) rfl (op_store (i := 0) (cs := [vS b'1 0 nR c'1]) rfl rfl rfl Try.sizeOf25 rfl r6 rfl (lB rfl) rfl) ?_
 rintro _ w11 ⟨r7, m10, z3⟩
 have r8 : Row w11 w.heap.size 0 [vS b'1 0 nR c'1, vS bL 0 nL cL, vS bS 0 0 cS, vI k, vF kc0, vF kc1, vF kc2, vF ks0, vF ks1, .bool op, vF lo, vF re, vF sl] := Row.congr r7 rfl
 refine WO.det (op_fieldAddr (off' := 1) rfl Try.runUnderlying33 rfl rfl Try.sizeOf25 rfl) rfl (.free rfl) rfl rfl ?_
 refine WO.op0 rfl (.free rfl) rfl (op_store (i := 1) (cs := [vS b'2 0 nL c'2]) rfl rfl rfl Try.sizeOf25 rfl r8 rfl (lB rfl) rfl) ?_
 rintro _ w12 ⟨r9, m11, z4⟩
 have r10 : Row w12 w.heap.size 0 [vS b'1 0 nR c'1, vS b'2 0 nL c'2, vS bS 0 0 cS, vI k, vF kc0, vF kc1, vF kc2, vF ks0, vF ks1, .bool op, vF lo, vF re, vF sl] := Row.congr r9 rfl
 refine WO.det (op_fieldAddr (off' := 2) rfl Try.runUnderlying33 rfl rfl Try.sizeOf26 rfl) rfl (.free rfl) rfl rfl ?_
 refine WO.op0 rfl (.free rfl) rfl (op_store (i := 2) (cs := [vS b'3 0 0 0]) rfl rfl rfl Try.sizeOf26 rfl r10 rfl (lB rfl) rfl) ?_
 rintro _ w13 ⟨r11, m12, z5⟩
 have r12 : Row w13 w.heap.size 0 [vS b'1 0 nR c'1, vS b'2 0 nL c'2, vS b'3 0 0 0, vI k, vF kc0, vF kc1, vF kc2, vF ks0, vF ks1, .bool op, vF lo, vF re, vF sl] := Row.congr r11 rfl
 refine WO.end (NE.code (CE.seq (CE.region ?_)))
 refine WD (op_loadA (i := 0) (cs := [vS b'1 0 nR c'1, vS b'2 0 nL c'2, vS b'3 0 0 0, vI k, vF kc0, vF kc1, vF kc2, vF ks0, vF ks1, .bool op, vF lo, vF re, vF sl]) rfl Try.isAgg33 Try.sizeOf33 r12.rng rfl rfl rfl) rfl ?_
 have r13 := (((((((((((r2.ext md1).ext m3).ext m4).ext m5).ext m6).ext m7).ext m8).ext m9).mod m10 (nC (lG (lL r1.lt lR)) nN)).mod m11 (nC (lG (lL r1.lt lR)) nN)).mod m12 (nC (lG (lL r1.lt lR)) nN))
 refine WL.op0 (op_store (i := 0) (cs := [vS b'1 0 nR c'1, vS b'2 0 nL c'2, vS b'3 0 0 0, vI k, vF kc0, vF kc1, vF kc2, vF ks0, vF ks1, .bool op, vF lo, vF re, vF sl]) rfl rfl rfl Try.sizeOf33 rfl r13 rfl (lB rfl) rfl) rfl rfl ?_
 rintro _ w14 ⟨r14, m13, z6⟩
 have r15 : Row w14 w1.heap.size 0 [vS b'1 0 nR c'1, vS b'2 0 nL c'2, vS b'3 0 0 0, vI k, vF kc0, vF kc1, vF kc2, vF ks0, vF ks1, .bool op, vF lo, vF re, vF sl] := Row.congr r14 rfl
 refine WL.end (NE.code (CE.ret' ?_))
 refine XE.leaveC Try.results63 (res_agg (cs := [vS b'1 0 nR c'1, vS b'2 0 nL c'2, vS b'3 0 0 0, vI k, vF kc0, vF kc1, vF kc2, vF ks0, vF ks1, .bool op, vF lo, vF re, vF sl]) rfl Try.isAgg33 Try.sizeOf33 r15.rng rfl res_nil) ?_
 have sz1 := (lT (lT m2.size md1.size) m3.size)
 have r16 := (((((((((r3.ext m5).ext m6).ext m7).ext m8).ext m9).mod m10 (nC (lG (lL (lL r1.lt sz1) ge1)) nN)).mod m11 (nC (lG (lL (lL r1.lt sz1) ge1)) nN)).mod m12 (nC (lG (lL (lL r1.lt sz1) ge1)) nN)).mod m13 (nC (lG (lL (lL r2.lt (lT md1.size m3.size)) ge1)) nN))
 have sz2 := (lT (lT sz1 m4.size) m5.size)
 have sz3 := (lT (lT (lT md1.size m3.size) m4.size) m5.size)
 have r17 := (((((((r4.ext m7).ext m8).ext m9).mod m10 (nC (lG (lL (lL r1.lt sz2) ge2)) nN)).mod m11 (nC (lG (lL (lL r1.lt sz2) ge2)) nN)).mod m12 (nC (lG (lL (lL r1.lt sz2) ge2)) nN)).mod m13 (nC (lG (lL (lL r2.lt sz3) ge2)) nN))
 have sz4 := (lT (lT sz2 m6.size) m7.size)
 have sz5 := (lT (lT sz3 m6.size) m7.size)
 have r18 := (((((r5.ext m9).mod m10 (nC (lG (lL (lL r1.lt sz4) ge3)) nN)).mod m11 (nC (lG (lL (lL r1.lt sz4) ge3)) nN)).mod m12 (nC (lG (lL (lL r1.lt sz4) ge3)) nN)).mod m13 (nC (lG (lL (lL r2.lt sz5) ge3)) nN))
 have sz6 := (lT (lT (lT m1.size m2.size) md1.size) m3.size)
 have sz7 := (lT (lT sz6 m4.size) m5.size)
 have sz8 := (lT (lT sz7 m6.size) m7.size)
 have sz9 := (lT (lT m5.size m6.size) m7.size)
 refine ⟨b'1, c'1, P'1, b'2, c'2, P'2, b'3, 0, rfl, h1, h2, r16, r17, r18, (lT sz6 ge1), (lT sz7 ge2), (lT sz8 ge3), (lE (lL (lL r3.lt m5.size) ge2)), (lE (lL (lL r3.lt sz9) ge3)), (lE (lL (lL r4.lt m7.size) ge3)), (OF.low (((((((((fm1.ext m5).ext m6).ext m7).ext m8).ext m9).mod m10 (fun j hj => (nC (lG (lL (lL r1.lt sz1) (fm1.ge j (lQ (lQ hj lDR) lDR.symm)))) nN))).mod m11 (fun j hj => (nC (lG (lL (lL r1.lt sz1) (fm1.ge j (lQ (lQ hj lDR) lDR.symm)))) nN))).mod m12 (fun j hj => (nC (lG (lL (lL r1.lt sz1) (fm1.ge j (lQ (lQ hj lDR) lDR.symm)))) nN))).mod m13 (fun j hj => (nC (lG (lL (lL r2.lt (lT md1.size m3.size)) (fm1.ge j (lQ (lQ hj lDR) lDR.symm)))) nN))) sz6), (fun j hj => (fn1 j (show j < nR by omega))), (fun j hj => (lE (lL (OF.lt fm1 (lQ (show j < nR by omega) lDR.symm)) (lT m5.size ge2)))), (fun j hj => (lE (lL (OF.lt fm1 (lQ (show j < nR by omega) lDR.symm)) (lT sz9 ge3)))), (fun j q hj hq => (lE (lL (lL (OF.lt fm1 (lQ (show j < nR by omega) lDR.symm)) m5.size) (fm2.ge q (lQ (show q < nL by omega) lDL.symm))))), (OF.low (((((((fm2.ext m7).ext m8).ext m9).mod m10 (fun j hj => (nC (lG (lL (lL r1.lt sz2) (fm2.ge j (lQ (lQ hj lDL) lDL.symm)))) nN))).mod m11 (fun j hj => (nC (lG (lL (lL r1.lt sz2) (fm2.ge j (lQ (lQ hj lDL) lDL.symm)))) nN))).mod m12 (fun j hj => (nC (lG (lL (lL r1.lt sz2) (fm2.ge j (lQ (lQ hj lDL) lDL.symm)))) nN))).mod m13 (fun j hj => (nC (lG (lL (lL r2.lt sz3) (fm2.ge j (lQ (lQ hj lDL) lDL.symm)))) nN))) sz7), (fun j hj => (lG (lL (lL r3.lt m5.size) (fm2.ge j (lQ (show j < nL by omega) lDL.symm))))), (fun j hj => (fn2 j (show j < nL by omega))), (fun j hj => (lE (lL (OF.lt fm2 (lQ (show j < nL by omega) lDL.symm)) (lT m7.size ge3)))), (((((((((((((((Mod.refl [] w).nt m1).nt m2).nt md1).nt m3).nt m4).nt m5).nt m6).nt m7).nt m8).nt m9).then m10 ((aC (.inr lR) aN))).then m11 ((aC (.inr lR) aN))).then m12 ((aC (.inr lR) aN))).then m13 ((aC (.inr (lT m1.size lR)) aN)))⟩

theorem c_l04CopyS0 (nR : Nat) (GR : List RD) (nL : Nat) (GL : List RD) (xS : List Nat) (cR : Nat) (bR : Nat) (PR : List BC) (loR : Nat) (cL : Nat) (bL : Nat) (PL : List BC) (loL : Nat) (cS : Nat) (bS : Nat) (k : Int) (kc0 : Nat) (kc1 : Nat) (kc2 : Nat) (ks0 : Nat) (ks1 : Nat) (op : Bool) (lo : Nat) (re : Nat) (sl : Nat) (p : Nat) (lDR : GR.length = nR) (lDL : GL.length = nL) (lnS : xS.length = 0) (hzR : ∀ i, (GR.getD i RD.d).xs.length ≤ 1048576) (hzL : ∀ i, (GL.getD i RD.d).xs.length ≤ 1048576) (lPR : PR.length = nR) (lPL : PL.length = nL) (mR : nR ≤ 1048576) (mL : nL ≤ 1048576) (h0n : 0 < nR) (h0m : 0 < nL) (hpR : ∀ i, i < nR → 0 < (GR.getD i RD.d).xs.length) (hpL : ∀ i, i < nL → 0 < (GL.getD i RD.d).xs.length) (w : World) (q : Rng w p 0 [vS bR 0 nR cR, vS bL 0 nL cL, vS bS 0 0 cS, vI k, vF kc0, vF kc1, vF kc2, vF ks0, vF ks1, .bool op, vF lo, vF re, vF sl]) (rR : Rng w bR 0 (olc GR PR)) (rL : Rng w bL 0 (olc GL PL)) (rS : Rng w bS 0 (fl xS))  (FR : OF loR w GR PR) (FL : OF loL w GL PL) : Cl Try.prog 59 #[vP p 0] w fun v w' => ∃ (bR' : Nat) (cR' : Nat) (PR' : List BC) (bL' : Nat) (cL' : Nat) (PL' : List BC) (bS' : Nat) (cS' : Nat), v = .agg #[vS bR' 0 nR cR', vS bL' 0 nL cL', vS bS' 0 0 cS', vI k, vF kc0, vF kc1, vF kc2, vF ks0, vF ks1, .bool op, vF lo, vF re, vF sl] ∧ (PR'.length = nR) ∧ (PL'.length = nL) ∧ Row w' bR' 0 (olc GR PR') ∧ Row w' bL' 0 (olc GL PL') ∧ Row w' bS' 0 (fl xS) ∧ w.heap.size ≤ bR' ∧ w.heap.size ≤ bL' ∧ w.heap.size ≤ bS' ∧ bR' ≠ bL' ∧ bR' ≠ bS' ∧ bL' ≠ bS' ∧ OF w.heap.size w' GR PR' ∧ (∀ i, i < nR → (PR'.getD i BC.d).b ≠ bR') ∧ (∀ i, i < nR → (PR'.getD i BC.d).b ≠ bL') ∧ (∀ i, i < nR → (PR'.getD i BC.d).b ≠ bS') ∧ (∀ i j, i < nR → j < nL → (PR'.getD i BC.d).b ≠ (PL'.getD j BC.d).b) ∧ OF w.heap.size w' GL PL' ∧ (∀ i, i < nL → (PL'.getD i BC.d).b ≠ bR') ∧ (∀ i, i < nL → (PL'.getD i BC.d).b ≠ bL') ∧ (∀ i, i < nL → (PL'.getD i BC.d).b ≠ bS') ∧ Mod [] w w' := by
 refine Cl.of Try.func59 Try.ntmps59 rfl rfl (ρ := [(0, vP p 0)]) rfl ?_
 refine CE.seq (CE.region ?_)
 refine WL.op (op_alloc (cs := [.slice none 0 0, .slice none 0 0, .slice none 0 0, vI 0, vF 0, vF 0, vF 0, vF 0, vF 0, .bool false, vF 0, vF 0, vF 0]) Try.zeroValue33 rfl) rfl rfl (ltb rfl) ?_
 rintro _ w1 ⟨rfl, r1, m1, z1⟩
 refine WL.end (NE.code (CE.seq ?_))
 refine CE.drawF (fun | 4 => some (fun _ wA uA wB => ∃ (b' : Nat) (c' : Nat) (P' : List BC), uA = vS b' 0 nR c' ∧ (P'.length = nR) ∧ Row wB b' 0 (olc GR P') ∧ wA.heap.size ≤ b' ∧ OF wA.heap.size wB GR P' ∧ (∀ i, i < nR → (P'.getD i BC.d).b ≠ b') ∧ Mod [] wA wB) | 9 => some (fun _ wA uA wB => ∃ (b' : Nat) (c' : Nat) (P' : List BC), uA = vS b' 0 nL c' ∧ (P'.length = nL) ∧ Row wB b' 0 (olc GL P') ∧ wA.heap.size ≤ b' ∧ OF wA.heap.size wB GL P' ∧ (∀ i, i < nL → (P'.getD i BC.d).b ≠ b') ∧ Mod [] wA wB) | _ => none) [0, 1, 2, 3, 4, 5, 6, 7, 8, 9, 10, 11, 12, 13, 14, 15, 16, 17, 18, 19, 20, 21, 22, 23, 24, 25, 26, 27, 28, 29, 30, 31, 32, 33, 34, 35] [36, 37] [] (fun ρ W => ∃ (e1_4_0 : Nat) (e1_4_1 : Nat) (e1_4_2 : List BC) (e1_9_0 : Nat) (e1_9_1 : Nat) (e1_9_2 : List BC) (e1_10_0 : Nat), ρ = [(2, vP w.heap.size 0), (7, vS e1_4_0 0 nR e1_4_1), (12, vS e1_9_0 0 nL e1_9_1), (18, vS e1_10_0 0 0 0), (22, .agg #[vI k, vF kc0, vF kc1, vF kc2, vF ks0, vF ks1]), (26, .bool op), (30, vF lo), (34, vF re), (38, vF sl)] ∧ Row W e1_4_0 0 (olc GR e1_4_2) ∧ Row W e1_9_0 0 (olc GL e1_9_2) ∧ Row W e1_10_0 0 [] ∧ w1.heap.size ≤ e1_4_0 ∧ w1.heap.size ≤ e1_9_0 ∧ w1.heap.size ≤ e1_10_0 ∧ e1_4_0 ≠ e1_9_0 ∧ e1_4_0 ≠ e1_10_0 ∧ e1_9_0 ≠ e1_10_0 ∧ (e1_4_2.length = nR) ∧ (e1_9_2.length = nL) ∧ OF w1.heap.size W GR e1_4_2 ∧ (∀ i, i < nR → (e1_4_2.getD i BC.d).b ≠ e1_4_0) ∧ (∀ i, i < nR → (e1_4_2.getD i BC.d).b ≠ e1_9_0) ∧ (∀ i, i < nR → (e1_4_2.getD i BC.d).b ≠ e1_10_0) ∧ (∀ i j, i < nR → j < nL → (e1_4_2.getD i BC.d).b ≠ (e1_9_2.getD j BC.d).b) ∧ OF w1.heap.size W GL e1_9_2 ∧ (∀ i, i < nL → (e1_9_2.getD i BC.d).b ≠ e1_4_0) ∧ (∀ i, i < nL → (e1_9_2.getD i BC.d).b ≠ e1_9_0) ∧ (∀ i, i < nL → (e1_9_2.getD i BC.d).b ≠ e1_10_0) ∧ Mod [] w1 W) (by kernel_rfl) (by kernel_rfl) ?_ ?_
 have md1 : Mod [] w1 w1.drew := (Mod.refl _ _).drew
 generalize w1.drew = w2 at md1 ⊢
 ·refine DD 0 rfl (by kernel_rfl) rfl (fun wD mD => op_move rfl) ?_
  refine DD 1 rfl (by kernel_rfl) rfl (fun wD mD => op_nilCheck rfl) ?_
  refine DD 2 rfl (by kernel_rfl) rfl (fun wD mD => op_fieldAddr (off' := 0) rfl Try.runUnderlying33 rfl rfl Try.sizeOf25 rfl) ?_
  refine DD 3 rfl (by kernel_rfl) rfl (fun wD mD => op_load1 (i := 0) rfl Try.isAgg25 (((q.ext m1).ext md1).ext mD) rfl rfl) ?_
  refine DD 5 rfl (by kernel_rfl) rfl (fun wD mD => op_move rfl) ?_
  refine DD 6 rfl (by kernel_rfl) rfl (fun wD mD => op_nilCheck rfl) ?_
  refine DD 7 rfl (by kernel_rfl) rfl (fun wD mD => op_fieldAddr (off' := 1) rfl Try.runUnderlying33 rfl rfl Try.sizeOf25 rfl) ?_
  refine DD 8 rfl (by kernel_rfl) rfl (fun wD mD => op_load1 (i := 1) rfl Try.isAgg25 (((q.ext m1).ext md1).ext mD) rfl rfl) ?_
  refine DD 11 rfl (by kernel_rfl) rfl (fun wD mD => op_move rfl) ?_
  refine DD 12 rfl (by kernel_rfl) rfl (fun wD mD => op_nilCheck rfl) ?_
  refine DD 13 rfl (by kernel_rfl) rfl (fun wD mD => op_fieldAddr (off' := 2) rfl Try.runUnderlying33 rfl rfl Try.sizeOf26 rfl) ?_
  refine DD 14 rfl (by kernel_rfl) rfl (fun wD mD => op_load1 (i := 2) rfl Try.isAgg26 (((q.ext m1).ext md1).ext mD) rfl rfl) ?_
  refine DD 16 rfl (by kernel_rfl) rfl (fun wD mD => op_move rfl) ?_
  refine DD 17 rfl (by kernel_rfl) rfl (fun wD mD => op_nilCheck rfl) ?_
  refine DD 18 rfl (by kernel_rfl) rfl (fun wD mD => op_fieldAddr (off' := 3) rfl Try.runUnderlying33 rfl rfl Try.sizeOf31 rfl) ?_
  refine DD 19 rfl (by kernel_rfl) rfl (fun wD mD => op_loadA (i := 3) (cs := [vI k, vF kc0, vF kc1, vF kc2, vF ks0, vF ks1]) rfl Try.isAgg31 Try.sizeOf31 (((q.ext m1).ext md1).ext mD) rfl rfl rfl) ?_
  refine DD 20 rfl (by kernel_rfl) rfl (fun wD mD => op_move rfl) ?_
  refine DD 21 rfl (by kernel_rfl) rfl (fun wD mD => op_nilCheck rfl) ?_
  refine DD 22 rfl (by kernel_rfl) rfl (fun wD mD => op_fieldAddr (off' := 9) rfl Try.runUnderlying33 rfl rfl Try.sizeOf4 rfl) ?_
  refine DD 23 rfl (by kernel_rfl) rfl (fun wD mD => op_load1 (i := 9) rfl Try.isAgg4 (((q.ext m1).ext md1).ext mD) rfl rfl) ?_
  refine DD 24 rfl (by kernel_rfl) rfl (fun wD mD => op_move rfl) ?_
  refine DD 25 rfl (by kernel_rfl) rfl (fun wD mD => op_nilCheck rfl) ?_
  refine DD 26 rfl (by kernel_rfl) rfl (fun wD mD => op_fieldAddr (off' := 10) rfl Try.runUnderlying33 rfl rfl Try.sizeOf27 rfl) ?_
  refine DD 27 rfl (by kernel_rfl) rfl (fun wD mD => op_load1 (i := 10) rfl Try.isAgg27 (((q.ext m1).ext md1).ext mD) rfl rfl) ?_
  refine DD 28 rfl (by kernel_rfl) rfl (fun wD mD => op_move rfl) ?_
  refine DD 29 rfl (by kernel_rfl) rfl (fun wD mD => op_nilCheck rfl) ?_
  refine DD 30 rfl (by kernel_rfl) rfl (fun wD mD => op_fieldAddr (off' := 11) rfl Try.runUnderlying33 rfl rfl Try.sizeOf27 rfl) ?_
  refine DD 31 rfl (by kernel_rfl) rfl (fun wD mD => op_load1 (i := 11) rfl Try.isAgg27 (((q.ext m1).ext md1).ext mD) rfl rfl) ?_
  refine DD 32 rfl (by kernel_rfl) rfl (fun wD mD => op_move rfl) ?_
  refine DD 33 rfl (by kernel_rfl) rfl (fun wD mD => op_nilCheck rfl) ?_
  refine DD 34 rfl (by kernel_rfl) rfl (fun wD mD => op_fieldAddr (off' := 12) rfl Try.runUnderlying33 rfl rfl Try.sizeOf27 rfl) ?_
  refine DD 35 rfl (by kernel_rfl) rfl (fun wD mD => op_load1 (i := 12) rfl Try.isAgg27 (((q.ext m1).ext md1).ext mD) rfl rfl) ?_
  refine DR.fork (is := [4, 10]) (by kernel_rfl) (by decide) (all2 ?_ ?_)
  ·refine DP.call (i := 4) rfl rfl (.free rfl) rfl (ltb rfl) (vs := [.func (.func 111) #[] #[], vS bR 0 nR cR]) rfl ?_
   intro w3 m2
   refine ⟨oc_call (vs := [vS bR 0 nR cR]) (cap := []) rfl rfl rfl Try.call111 (c_l04CopiesS nR cR bR GR PR loR lDR lPR (by first | assumption | exact rd_small (by assumption) (by assumption) | exact markD_small (by first | assumption | exact rd_small (by assumption) (by assumption)) _) (by omega) (by omega) (by first | assumption | exact vRings_pos (by assumption)) w3 (((rR.ext m1).ext md1).ext m2) (((FR.ext m1).ext md1).ext m2)), ?_⟩
   rintro _ w4 ⟨b'1, c'1, P'1, rfl, h1, r2, ge1, fm1, fn1, m3⟩
   refine ⟨(((Mod.refl [] w2).nt m2).nt m3), ?_⟩
   refine DR.rebase ?_
   refine DR.fork (is := [9, 10]) (by kernel_rfl) (by decide) (all2 ?_ ?_)
   ·refine DP.call (i := 9) rfl rfl (.free rfl) rfl (ltb rfl) (vs := [.func (.func 111) #[] #[], vS bL 0 nL cL]) rfl ?_
    intro w5 m4
    refine ⟨oc_call (vs := [vS bL 0 nL cL]) (cap := []) rfl rfl rfl Try.call111 (c_l04CopiesS nL cL bL GL PL loL lDL lPL (by first | assumption | exact rd_small (by assumption) (by assumption) | exact markD_small (by first | assumption | exact rd_small (by assumption) (by assumption)) _) (by omega) (by omega) (by first | assumption | exact vRings_pos (by assumption)) w5 (((((rL.ext m1).ext md1).ext m2).ext m3).ext m4) (((((FL.ext m1).ext md1).ext m2).ext m3).ext m4)), ?_⟩
    rintro _ w6 ⟨b'2, c'2, P'2, rfl, h2, r3, ge2, fm2, fn2, m5⟩
    refine ⟨(((Mod.refl [] w4).nt m4).nt m5), ?_⟩
    refine DR.rebase ?_
    refine DR.one1 (i := 10) rfl rfl (by kernel_rfl) (.free rfl) rfl (ltb rfl) ?_
    intro w7 m6
    refine Op1.mono (op_emptySl rfl Try.runUnderlying26 Try.sizeOf27) ?_
    rintro _ w8 ⟨rfl, r4, m7, z2⟩
    refine ⟨(((Mod.refl [] w6).nt m6).nt m7), ?_⟩
    refine DR.rebase ?_
    refine DD 15 rfl (by kernel_rfl) rfl (fun wD mD => op_appN (i := Try.t27) rfl rfl (by decide) Try.underlying26 rfl) ?_
    refine DR.sub [(2, vP w.heap.size 0), (7, vS b'1 0 nR c'1), (12, vS b'2 0 nL c'2), (18, vS w7.heap.size 0 0 0), (22, .agg #[vI k, vF kc0, vF kc1, vF kc2, vF ks0, vF ks1]), (26, .bool op), (30, vF lo), (34, vF re), (38, vF sl)] ⟨rfl, rfl, rfl, rfl, rfl, rfl, rfl, rfl, rfl, trivial⟩ ?_
    refine DR.meet rfl ?_
    intro w9 m8
    have r5 := (((((r2.ext m4).ext m5).ext m6).ext m7).ext m8)
    have r6 := (((r3.ext m6).ext m7).ext m8)
    have sz1 := (lT (lT (lT md1.size m2.size) m3.size) m4.size)
    have sz2 := (lT (lT sz1 m5.size) m6.size)
    have sz3 := (lT (lT m4.size m5.size) m6.size)
    exact ⟨b'1, c'1, P'1, b'2, c'2, P'2, w7.heap.size, rfl, r5, r6, (r4.ext m8), (lT (lT md1.size m2.size) ge1), (lT sz1 ge2), (lT sz2 lR), (lE (lL (lL r2.lt m4.size) ge2)), (lE (lL (lL r2.lt sz3) lR)), (lE (lL (lL r3.lt m6.size) lR)), h1, h2, (OF.low (((((fm1.ext m4).ext m5).ext m6).ext m7).ext m8) (lT md1.size m2.size)), (fun j hj => (fn1 j (show j < nR by omega))), (fun j hj => (lE (lL (OF.lt fm1 (lQ (show j < nR by omega) lDR.symm)) (lT m4.size ge2)))), (fun j hj => (lE (lL (OF.lt fm1 (lQ (show j < nR by omega) lDR.symm)) (lT sz3 lR)))), (fun j q hj hq => (lE (lL (lL (OF.lt fm1 (lQ (show j < nR by omega) lDR.symm)) m4.size) (fm2.ge q (lQ (show q < nL by omega) lDL.symm))))), (OF.low (((fm2.ext m6).ext m7).ext m8) sz1), (fun j hj => (lG (lL (lL r2.lt m4.size) (fm2.ge j (lQ (show j < nL by omega) lDL.symm))))), (fun j hj => (fn2 j (show j < nL by omega))), (fun j hj => (lE (lL (OF.lt fm2 (lQ (show j < nL by omega) lDL.symm)) (lT m6.size lR)))), (((((((((Mod.refl [] w1).nt md1).nt m2).nt m3).nt m4).nt m5).nt m6).nt m7).nt m8)⟩
   ·refine DP.op (i := 10) rfl rfl (.free rfl) rfl (ltb rfl) ?_
    intro w10 m9
    refine Op1.mono (op_emptySl rfl Try.runUnderlying26 Try.sizeOf27) ?_
    rintro _ w11 ⟨rfl, r7, m10, z3⟩
    refine ⟨(((Mod.refl [] w4).nt m9).nt m10), ?_⟩
    refine DR.rebase ?_
    refine DR.one (i := 9) rfl rfl (by kernel_rfl) (.free rfl) rfl (ltb rfl) (vs := [.func (.func 111) #[] #[], vS bL 0 nL cL]) rfl ?_
    intro w12 m11
    refine ⟨oc_call (vs := [vS bL 0 nL cL]) (cap := []) rfl rfl rfl Try.call111 (c_l04CopiesS nL cL bL GL PL loL lDL lPL (by first | assumption | exact rd_small (by assumption) (by assumption) | exact markD_small (by first | assumption | exact rd_small (by assumption) (by assumption)) _) (by omega) (by omega) (by first | assumption | exact vRings_pos (by assumption)) w12 (((((((rL.ext m1).ext md1).ext m2).ext m3).ext m9).ext m10).ext m11) (((((((FL.ext m1).ext md1).ext m2).ext m3).ext m9).ext m10).ext m11)), ?_⟩
    rintro _ w13 ⟨b'3, c'3, P'3, rfl, h3, r8, ge3, fm3, fn3, m12⟩
    refine ⟨(((Mod.refl [] w11).nt m11).nt m12), ?_⟩
    refine DR.rebase ?_
    refine DD 15 rfl (by kernel_rfl) rfl (fun wD mD => op_appN (i := Try.t27) rfl rfl (by decide) Try.underlying26 rfl) ?_
    refine DR.sub [(2, vP w.heap.size 0), (7, vS b'1 0 nR c'1), (12, vS b'3 0 nL c'3), (18, vS w10.heap.size 0 0 0), (22, .agg #[vI k, vF kc0, vF kc1, vF kc2, vF ks0, vF ks1]), (26, .bool op), (30, vF lo), (34, vF re), (38, vF sl)] ⟨rfl, rfl, rfl, rfl, rfl, rfl, rfl, rfl, rfl, trivial⟩ ?_
    refine DR.meet rfl ?_
    intro w14 m13
    have r9 := (((((r2.ext m9).ext m10).ext m11).ext m12).ext m13)
    have r10 := (((r7.ext m11).ext m12).ext m13)
    have sz4 := (lT (lT (lT (lT (lT md1.size m2.size) m3.size) m9.size) m10.size) m11.size)
    have sz5 := (lT (lT (lT md1.size m2.size) m3.size) m9.size)
    have sz6 := (lT (lT m9.size m10.size) m11.size)
    exact ⟨b'1, c'1, P'1, b'3, c'3, P'3, w10.heap.size, rfl, r9, (r8.ext m13), r10, (lT (lT md1.size m2.size) ge1), (lT sz4 ge3), (lT sz5 lR), (lE (lL (lL r2.lt sz6) ge3)), (lE (lL (lL r2.lt m9.size) lR)), (lG (lL (lL r7.lt m11.size) ge3)), h1, h3, (OF.low (((((fm1.ext m9).ext m10).ext m11).ext m12).ext m13) (lT md1.size m2.size)), (fun j hj => (fn1 j (show j < nR by omega))), (fun j hj => (lE (lL (OF.lt fm1 (lQ (show j < nR by omega) lDR.symm)) (lT sz6 ge3)))), (fun j hj => (lE (lL (OF.lt fm1 (lQ (show j < nR by omega) lDR.symm)) (lT m9.size lR)))), (fun j q hj hq => (lE (lL (lL (OF.lt fm1 (lQ (show j < nR by omega) lDR.symm)) sz6) (fm3.ge q (lQ (show q < nL by omega) lDL.symm))))), (OF.low (fm3.ext m13) sz4), (fun j hj => (lG (lL (lL r2.lt sz6) (fm3.ge j (lQ (show j < nL by omega) lDL.symm))))), (fun j hj => (fn3 j (show j < nL by omega))), (fun j hj => (lG (lL (lL r7.lt m11.size) (fm3.ge j (lQ (show j < nL by omega) lDL.symm))))), (((((((((Mod.refl [] w1).nt md1).nt m2).nt m3).nt m9).nt m10).nt m11).nt m12).nt m13)⟩
  ·refine DP.op (i := 10) rfl rfl (.free rfl) rfl (ltb rfl) ?_
   intro w15 m14
   refine Op1.mono (op_emptySl rfl Try.runUnderlying26 Try.sizeOf27) ?_
   rintro _ w16 ⟨rfl, r11, m15, z4⟩
   refine ⟨(((Mod.refl [] w2).nt m14).nt m15), ?_⟩
   refine DR.rebase ?_
   refine DR.one (i := 4) rfl rfl (by kernel_rfl) (.free rfl) rfl (ltb rfl) (vs := [.func (.func 111) #[] #[], vS bR 0 nR cR]) rfl ?_
   intro w17 m16
   refine ⟨oc_call (vs := [vS bR 0 nR cR]) (cap := []) rfl rfl rfl Try.call111 (c_l04CopiesS nR cR bR GR PR loR lDR lPR (by first | assumption | exact rd_small (by assumption) (by assumption) | exact markD_small (by first | assumption | exact rd_small (by assumption) (by assumption)) _) (by omega) (by omega) (by first | assumption | exact vRings_pos (by assumption)) w17 (((((rR.ext m1).ext md1).ext m14).ext m15).ext m16) (((((FR.ext m1).ext md1).ext m14).ext m15).ext m16)), ?_⟩
   rintro _ w18 ⟨b'4, c'4, P'4, rfl, h4, r12, ge4, fm4, fn4, m17⟩
   refine ⟨(((Mod.refl [] w16).nt m16).nt m17), ?_⟩
   refine DR.rebase ?_
   refine DR.one (i := 9) rfl rfl (by kernel_rfl) (.free rfl) rfl (ltb rfl) (vs := [.func (.func 111) #[] #[], vS bL 0 nL cL]) rfl ?_
   intro w19 m18
   refine ⟨oc_call (vs := [vS bL 0 nL cL]) (cap := []) rfl rfl rfl Try.call111 (c_l04CopiesS nL cL bL GL PL loL lDL lPL (by first | assumption | exact rd_small (by assumption) (by assumption) | exact markD_small (by first | assumption | exact rd_small (by assumption) (by assumption)) _) (by omega) (by omega) (by first | assumption | exact vRings_pos (by assumption)) w19 (((((((rL.ext m1).ext md1).ext m14).ext m15).ext m16).ext m17).ext m18) (((((((FL.ext m1).ext md1).ext m14).ext m15).ext m16).ext m17).ext m18)), ?_⟩
   rintro _ w20 ⟨b'5, c'5, P'5, rfl, h5, r13, ge5, fm5, fn5, m19⟩
   refine ⟨(((Mod.refl [] w18).nt m18).nt m19), ?_⟩
   refine DR.rebase ?_
   refine DD 15 rfl (by kernel_rfl) rfl (fun wD mD => op_appN (i := Try.t27) rfl rfl (by decide) Try.underlying26 rfl) ?_
   refine DR.sub [(2, vP w.heap.size 0), (7, vS b'4 0 nR c'4), (12, vS b'5 0 nL c'5), (18, vS w15.heap.size 0 0 0), (22, .agg #[vI k, vF kc0, vF kc1, vF kc2, vF ks0, vF ks1]), (26, .bool op), (30, vF lo), (34, vF re), (38, vF sl)] ⟨rfl, rfl, rfl, rfl, rfl, rfl, rfl, rfl, rfl, trivial⟩ ?_
   refine DR.meet rfl ?_
   intro w21 m20
   have r14 := (((r12.ext m18).ext m19).ext m20)
   have r15 := (((((r11.ext m16).ext m17).ext m18).ext m19).ext m20)
   have sz7 := (lT (lT (lT md1.size m14.size) m15.size) m16.size)
   have sz8 := (lT (lT sz7 m17.size) m18.size)
   have sz9 := (lT (lT m16.size m17.size) m18.size)
   exact ⟨b'4, c'4, P'4, b'5, c'5, P'5, w15.heap.size, rfl, r14, (r13.ext m20), r15, (lT sz7 ge4), (lT sz8 ge5), (lT (lT md1.size m14.size) lR), (lE (lL (lL r12.lt m18.size) ge5)), (lG (lL (lL r11.lt m16.size) ge4)), (lG (lL (lL r11.lt sz9) ge5)), h4, h5, (OF.low (((fm4.ext m18).ext m19).ext m20) sz7), (fun j hj => (fn4 j (show j < nR by omega))), (fun j hj => (lE (lL (OF.lt fm4 (lQ (show j < nR by omega) lDR.symm)) (lT m18.size ge5)))), (fun j hj => (lG (lL (lL r11.lt m16.size) (fm4.ge j (lQ (show j < nR by omega) lDR.symm))))), (fun j q hj hq => (lE (lL (lL (OF.lt fm4 (lQ (show j < nR by omega) lDR.symm)) m18.size) (fm5.ge q (lQ (show q < nL by omega) lDL.symm))))), (OF.low (fm5.ext m20) sz8), (fun j hj => (lG (lL (lL r12.lt m18.size) (fm5.ge j (lQ (show j < nL by omega) lDL.symm))))), (fun j hj => (fn5 j (show j < nL by omega))), (fun j hj => (lG (lL (lL r11.lt sz9) (fm5.ge j (lQ (show j < nL by omega) lDL.symm))))), (((((((((Mod.refl [] w1).nt md1).nt m14).nt m15).nt m16).nt m17).nt m18).nt m19).nt m20)⟩
 ·rintro _ w22 ⟨e1_4_0, e1_4_1, e1_4_2, e1_9_0, e1_9_1, e1_9_2, e1_10_0, rfl, rr1_0, rr1_1, rr1_2, ge6, ge7, ge8, ne1, ne2, ne3, hp1_4_0, hp1_9_0, fr1_0, fa1_0_0, fa1_0_1, fa1_0_2, fb1_0_0, fr1_1, fa1_1_0, fa1_1_1, fa1_1_2, m21⟩
  refine WO.det (op_build (qs := [(0, vS e1_4_0 0 nR e1_4_1), (1, vS e1_9_0 0 nL e1_9_1), (2, vS e1_10_0 0 0 0), (3, .agg #[vI k, vF kc0, vF kc1, vF kc2, vF ks0, vF ks1]), (4, .bool op), (5, vF lo), (6, vF re), (7, vF sl)]) (cells := #[vS e1_4_0 0 nR e1_4_1, vS e1_9_0 0 nL e1_9_1, vS e1_10_0 0 0 0, vI k, vF kc0, vF kc1, vF kc2, vF ks0, vF ks1, .bool op, vF lo, vF re, vF sl]) rfl (by kernel_rfl)) rfl (.free rfl) rfl rfl ?_
  refine WO.op0 rfl (.free rfl) rfl (op_store (i := 0) (cs := [vS e1_4_0 0 nR e1_4_1, vS e1_9_0 0 nL e1_9_1, vS e1_10_0 0 0 0, vI k, vF kc0, vF kc1, vF kc2, vF ks0, vF ks1, .bool op, vF lo, vF re, vF sl]) rfl rfl rfl Try.sizeOf33 rfl (r1.ext m21) rfl (lB rfl) rfl) ?_
  rintro _ w23 ⟨r16, m22, z5⟩
  have r17 : Row w23 w.heap.size 0 [vS e1_4_0 0 nR e1_4_1, vS e1_9_0 0 nL e1_9_1, vS e1_10_0 0 0 0, vI k, vF kc0, vF kc1, vF kc2, vF ks0, vF ks1, .bool op, vF lo, vF re, vF sl] := Row.congr r16 rfl
  refine WO.end (NE.code (CE.ret' ?_))
  refine XE.leaveC Try.results59 (res_agg (cs := [vS e1_4_0 0 nR e1_4_1, vS e1_9_0 0 nL e1_9_1, vS e1_10_0 0 0 0, vI k, vF kc0, vF kc1, vF kc2, vF ks0, vF ks1, .bool op, vF lo, vF re, vF sl]) rfl Try.isAgg33 Try.sizeOf33 r17.rng rfl res_nil) ?_
  refine ⟨e1_4_0, e1_4_1, e1_4_2, e1_9_0, e1_9_1, e1_9_2, e1_10_0, 0, rfl, hp1_4_0, hp1_9_0, (rr1_0.mod m22 (nC (lG (lL r1.lt ge6)) nN)), (rr1_1.mod m22 (nC (lG (lL r1.lt ge7)) nN)), (Row.congr (rr1_2.mod m22 (nC (lG (lL r1.lt ge8)) nN)) ?_), (lT m1.size ge6), (lT m1.size ge7), (lT m1.size ge8), ne1, ne2, ne3, (OF.low (fr1_0.mod m22 (fun j hj => (nC (lG (lL r1.lt (fr1_0.ge j (lQ (lQ hj lDR) lDR.symm)))) nN))) m1.size), (fun j hj => (fa1_0_0 j (show j < nR by omega))), (fun j hj => (fa1_0_1 j (show j < nR by omega))), (fun j hj => (fa1_0_2 j (show j < nR by omega))), (fun j q hj hq => (fb1_0_0 j q (show j < nR by omega) (show q < nL by omega))), (OF.low (fr1_1.mod m22 (fun j hj => (nC (lG (lL r1.lt (fr1_1.ge j (lQ (lQ hj lDL) lDL.symm)))) nN))) m1.size), (fun j hj => (fa1_1_0 j (show j < nL by omega))), (fun j hj => (fa1_1_1 j (show j < nL by omega))), (fun j hj => (fa1_1_2 j (show j < nL by omega))), ((((Mod.refl [] w).nt m1).nt m21).then m22 ((aC (.inr lR) aN)))⟩
  all_goals first | rfl | (rw [List.eq_nil_of_length_eq_zero lnS]; rfl)

end Go.Proofs.Ytnahhdnkbbdceaa
