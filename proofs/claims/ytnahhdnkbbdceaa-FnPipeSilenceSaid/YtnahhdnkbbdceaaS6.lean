/- What giving a pipe another reed does. -/
import Derived.Test.YtnahhdnkbbdceaaS3
set_option linter.unusedVariables false
set_option linter.unusedSimpArgs false
namespace Go.Proofs.Ytnahhdnkbbdceaa

set_option maxRecDepth 100000 in
set_option maxHeartbeats 2000000 in
theorem c_sReedS0 (nR : Nat) (GR : List RD) (nL : Nat) (GL : List RD) (xS : List Nat) (cR : Nat) (bR : Nat) (PR : List BC) (loR : Nat) (cL : Nat) (bL : Nat) (PL : List BC) (loL : Nat) (cS : Nat) (bS : Nat) (k : Int) (kc0 : Nat) (kc1 : Nat) (kc2 : Nat) (ks0 : Nat) (ks1 : Nat) (op : Bool) (lo : Nat) (re : Nat) (sl : Nat) (a : Nat) (b : Nat) (lDR : GR.length = nR) (lDL : GL.length = nL) (lnS : xS.length = 0) (hzR : ∀ i, (GR.getD i RD.d).xs.length ≤ 1048576) (hzL : ∀ i, (GL.getD i RD.d).xs.length ≤ 1048576) (lPR : PR.length = nR) (lPL : PL.length = nL) (mR : nR ≤ 1048576) (mL : nL ≤ 1048576) (h0n : 0 < nR) (h0m : 0 < nL) (hpR : ∀ i, i < nR → 0 < (GR.getD i RD.d).xs.length) (hpL : ∀ i, i < nL → 0 < (GL.getD i RD.d).xs.length) (hs : 1 ≤ nR ∧ nR ≤ 3 ∧ nL = nR ∧ 0 + 1 = nR) (hv : vPipe nR nL 0 GR GL xS k kc0 kc1 kc2 ks0 ks1 lo re sl = true) (hfa : finF a = true) (hfb : finF b = true) (w : World) (rR : Rng w bR 0 (olc GR PR)) (rL : Rng w bL 0 (olc GL PL)) (rS : Rng w bS 0 (fl xS))  (FR : OF loR w GR PR) (FL : OF loL w GL PL) : Cl Try.prog 16 #[.agg #[vS bR 0 nR cR, vS bL 0 nL cL, vS bS 0 0 cS, vI k, vF kc0, vF kc1, vF kc2, vF ks0, vF ks1, .bool op, vF lo, vF re, vF sl], vF a, vF b] w fun v w' => ∃ (bR' : Nat) (cR' : Nat) (PR' : List BC) (bL' : Nat) (cL' : Nat) (PL' : List BC) (bS' : Nat) (cS' : Nat), v = .tuple #[.agg #[vS bR' 0 nR cR', vS bL' 0 nL cL', vS bS' 0 0 cS', vI k, vF kc0, vF kc1, vF kc2, vF ks0, vF ks1, .bool op, vF lo, vF a, vF b], vI 0] ∧ (PR'.length = nR) ∧ (PL'.length = nL) ∧ Row w' bR' 0 (olc GR PR') ∧ Row w' bL' 0 (olc GL PL') ∧ Row w' bS' 0 (fl xS) ∧ w.heap.size ≤ bR' ∧ w.heap.size ≤ bL' ∧ w.heap.size ≤ bS' ∧ bR' ≠ bL' ∧ bR' ≠ bS' ∧ bL' ≠ bS' ∧ OF w.heap.size w' GR PR' ∧ (∀ i, i < nR → (PR'.getD i BC.d).b ≠ bR') ∧ (∀ i, i < nR → (PR'.getD i BC.d).b ≠ bL') ∧ (∀ i, i < nR → (PR'.getD i BC.d).b ≠ bS') ∧ (∀ i j, i < nR → j < nL → (PR'.getD i BC.d).b ≠ (PL'.getD j BC.d).b) ∧ OF w.heap.size w' GL PL' ∧ (∀ i, i < nL → (PL'.getD i BC.d).b ≠ bR') ∧ (∀ i, i < nL → (PL'.getD i BC.d).b ≠ bL') ∧ (∀ i, i < nL → (PL'.getD i BC.d).b ≠ bS') ∧ Mod [] w w' := by
  refine Cl.of Try.func16 Try.ntmps16 rfl rfl (ρ := [(0, .agg #[vS bR 0 nR cR, vS bL 0 nL cL, vS bS 0 0 cS, vI k, vF kc0, vF kc1, vF kc2, vF ks0, vF ks1, .bool op, vF lo, vF re, vF sl]), (1, vF a), (2, vF b)]) rfl ?_
  refine CE.seq ?_
  refine CE.region ?_
  refine WL.op (op_box (cs := [vS bR 0 nR cR, vS bL 0 nL cL, vS bS 0 0 cS, vI k, vF kc0, vF kc1, vF kc2, vF ks0, vF ks1, .bool op, vF lo, vF re, vF sl]) rfl rfl) rfl rfl (ltb rfl) ?_
  rintro _ w1 ⟨rfl, r1, m1, z1⟩
  refine WL.op (op_alloc (cs := [.slice none 0 0, .slice none 0 0, .slice none 0 0, vI 0, vF 0, vF 0, vF 0, vF 0, vF 0, .bool false, vF 0, vF 0, vF 0]) Try.zeroValue33 rfl) rfl rfl (ltb rfl) ?_
  rintro _ w2 ⟨rfl, r2, m2, z2⟩
  refine WL.det (op_assign rfl) rfl rfl rfl ?_
  refine WL.end ?_
  refine NE.code ?_
  iterate 2 refine CE.seq ?_
  refine CE.region ?_
  refine WL.call (oc_call (vs := [vP w.heap.size 0]) (cap := []) rfl rfl rfl Try.call57 (c_l04OkS nR GR nL GL 0 xS cR bR PR loR cL bL PL loL cS bS k kc0 kc1 kc2 ks0 ks1 op lo re sl w.heap.size lDR lDL lnS (by first | assumption | exact rd_small (by assumption) (by assumption)) (by first | assumption | exact rd_small (by assumption) (by assumption)) lPR lPL (by omega) (by omega) (by omega) (by omega) w2 (r1.ext m2).rng ((rR.ext m1).ext m2) ((rL.ext m1).ext m2) ((rS.ext m1).ext m2) ((FR.ext m1).ext m2) ((FL.ext m1).ext m2))) rfl rfl (ltb rfl) ?_
  rintro _ w3 ⟨rfl, m3⟩
  refine WL.det (op_not rfl) rfl rfl rfl ?_
  refine WL.end ?_
  refine NE.code ?_
  refine CE.cond_f rfl (bnot_t hv) ?_
  refine CE.skip' ?_
  refine NE.code ?_
  iterate 2 refine CE.seq ?_
  refine CE.region ?_
  refine WL.det (op_move rfl) rfl rfl rfl ?_
  refine WL.call (oc_call (vs := [vF a]) (cap := []) rfl rfl rfl Try.call58 (c_l01Finite a a rfl w3)) rfl rfl (ltb rfl) ?_
  rintro _ w4 ⟨rfl, m4⟩
  refine WL.det (op_not rfl) rfl rfl rfl ?_
  refine WL.det (op_move rfl) rfl rfl rfl ?_
  refine WL.yes rfl rfl rfl (ltb rfl) rfl (bnot_t hfa) ?_
  refine WL.det (op_move rfl) rfl rfl rfl ?_
  refine WL.yes rfl rfl rfl (ltb rfl) rfl (bnot_t hfa) ?_
  refine WL.call (oc_call (vs := [vF b]) (cap := []) rfl rfl rfl Try.call58 (c_l01Finite b b rfl w4)) rfl rfl (ltb rfl) ?_
  rintro _ w5 ⟨rfl, m5⟩
  refine WL.yes rfl rfl rfl (ltb rfl) rfl (bnot_t hfa) ?_
  refine WL.det (op_not rfl) rfl rfl rfl ?_
  refine WL.det (op_pick_f rfl (bnot_t hfa) rfl) rfl rfl rfl ?_
  refine WL.end ?_
  refine NE.code ?_
  refine CE.cond_f rfl (bnot_t hfb) ?_
  refine CE.skip' ?_
  refine NE.code ?_
  refine CE.seq ?_
  refine CE.region ?_
  have r3 := ((((r1.ext m2).ext m3).ext m4).ext m5)
  have r4 := (((((rR.ext m1).ext m2).ext m3).ext m4).ext m5)
  have r5 := (((((rL.ext m1).ext m2).ext m3).ext m4).ext m5)
  have r6 := (((((rS.ext m1).ext m2).ext m3).ext m4).ext m5)
  refine WL.call (oc_call (vs := [vP w.heap.size 0]) (cap := []) rfl rfl rfl Try.call59 (c_l04CopyS0 nR GR nL GL xS cR bR PR loR cL bL PL loL cS bS k kc0 kc1 kc2 ks0 ks1 op lo re sl w.heap.size lDR lDL lnS (by first | assumption | exact rd_small (by assumption) (by assumption)) (by first | assumption | exact rd_small (by assumption) (by assumption)) lPR lPL (by omega) (by omega) (by omega) (by omega) (by first | assumption | exact vRings_pos (by assumption)) (by first | assumption | exact vRings_pos (by assumption)) w5 r3.rng r4 r5 r6 (((((FR.ext m1).ext m2).ext m3).ext m4).ext m5) (((((FL.ext m1).ext m2).ext m3).ext m4).ext m5))) rfl rfl (ltb rfl) ?_
  rintro _ w6 ⟨bR'1, cR'1, PR'1, bL'1, cL'1, PL'1, bS'1, cS'1, rfl, h1, h2, r7, r8, r9, ge1, ge2, ge3, ne1, ne2, ne3, fm1, fn1, fn2, fn3, fn4, fm2, fn5, fn6, fn7, m6⟩
  refine WL.op (op_alloc (cs := [.slice none 0 0, .slice none 0 0, .slice none 0 0, vI 0, vF 0, vF 0, vF 0, vF 0, vF 0, .bool false, vF 0, vF 0, vF 0]) Try.zeroValue33 rfl) rfl rfl (ltb rfl) ?_
  rintro _ w7 ⟨rfl, r10, m7, z3⟩
  refine WL.op0 (op_store (i := 0) (cs := [vS bR'1 0 nR cR'1, vS bL'1 0 nL cL'1, vS bS'1 0 0 cS'1, vI k, vF kc0, vF kc1, vF kc2, vF ks0, vF ks1, .bool op, vF lo, vF re, vF sl]) rfl rfl rfl Try.sizeOf33 rfl r10 rfl (lB rfl) rfl) rfl rfl ?_
  rintro _ w8 ⟨r11, m8, z4⟩
  have r12 : Row w8 w6.heap.size 0 [vS bR'1 0 nR cR'1, vS bL'1 0 nL cL'1, vS bS'1 0 0 cS'1, vI k, vF kc0, vF kc1, vF kc2, vF ks0, vF ks1, .bool op, vF lo, vF re, vF sl] := Row.congr r11 rfl
  refine WL.end ?_
  refine NE.code ?_
  refine CE.seq ?_
  refine CE.region ?_
  refine WL.det (op_move rfl) rfl rfl rfl ?_
  refine WL.det (op_fieldAddr (off' := 11) rfl Try.runUnderlying33 rfl rfl Try.sizeOf27 rfl) rfl rfl rfl ?_
  refine WL.op0 (op_store (i := 11) (cs := [vF a]) rfl rfl rfl Try.sizeOf27 rfl r12 rfl (lB rfl) rfl) rfl rfl ?_
  rintro _ w9 ⟨r13, m9, z5⟩
  have r14 : Row w9 w6.heap.size 0 [vS bR'1 0 nR cR'1, vS bL'1 0 nL cL'1, vS bS'1 0 0 cS'1, vI k, vF kc0, vF kc1, vF kc2, vF ks0, vF ks1, .bool op, vF lo, vF a, vF sl] := Row.congr r13 rfl
  refine WL.end ?_
  refine NE.code ?_
  refine CE.seq ?_
  refine CE.region ?_
  refine WL.det (op_move rfl) rfl rfl rfl ?_
  refine WL.det (op_fieldAddr (off' := 12) rfl Try.runUnderlying33 rfl rfl Try.sizeOf27 rfl) rfl rfl rfl ?_
  refine WL.op0 (op_store (i := 12) (cs := [vF b]) rfl rfl rfl Try.sizeOf27 rfl r14 rfl (lB rfl) rfl) rfl rfl ?_
  rintro _ w10 ⟨r15, m10, z6⟩
  have r16 : Row w10 w6.heap.size 0 [vS bR'1 0 nR cR'1, vS bL'1 0 nL cL'1, vS bS'1 0 0 cS'1, vI k, vF kc0, vF kc1, vF kc2, vF ks0, vF ks1, .bool op, vF lo, vF a, vF b] := Row.congr r15 rfl
  refine WL.end ?_
  refine NE.code ?_
  refine CE.seq ?_
  refine CE.region ?_
  refine WL.det (op_loadA (i := 0) (cs := [vS bR'1 0 nR cR'1, vS bL'1 0 nL cL'1, vS bS'1 0 0 cS'1, vI k, vF kc0, vF kc1, vF kc2, vF ks0, vF ks1, .bool op, vF lo, vF a, vF b]) rfl Try.isAgg33 Try.sizeOf33 r16.rng rfl rfl rfl) rfl rfl rfl ?_
  have sz1 := (lT (lT (lT m3.size m4.size) m5.size) m6.size)
  have r17 := ((((((((r2.ext m3).ext m4).ext m5).ext m6).ext m7).mod m8 (nC (lE (lL (lL r2.lt sz1) lR)) nN)).mod m9 (nC (lE (lL (lL r2.lt sz1) lR)) nN)).mod m10 (nC (lE (lL (lL r2.lt sz1) lR)) nN))
  refine WL.op0 (op_store (i := 0) (cs := [vS bR'1 0 nR cR'1, vS bL'1 0 nL cL'1, vS bS'1 0 0 cS'1, vI k, vF kc0, vF kc1, vF kc2, vF ks0, vF ks1, .bool op, vF lo, vF a, vF b]) rfl rfl rfl Try.sizeOf33 rfl r17 rfl (lB rfl) rfl) rfl rfl ?_
  rintro _ w11 ⟨r18, m11, z7⟩
  have r19 : Row w11 w1.heap.size 0 [vS bR'1 0 nR cR'1, vS bL'1 0 nL cL'1, vS bS'1 0 0 cS'1, vI k, vF kc0, vF kc1, vF kc2, vF ks0, vF ks1, .bool op, vF lo, vF a, vF b] := Row.congr r18 rfl
  refine WL.det (op_assign rfl) rfl rfl rfl ?_
  refine WL.end ?_
  refine NE.code ?_
  refine CE.ret' ?_
  refine XE.leaveT Try.results16 (res_agg (cs := [vS bR'1 0 nR cR'1, vS bL'1 0 nL cL'1, vS bS'1 0 0 cS'1, vI k, vF kc0, vF kc1, vF kc2, vF ks0, vF ks1, .bool op, vF lo, vF a, vF b]) rfl Try.isAgg33 Try.sizeOf33 r19.rng rfl (res_tmp rfl res_nil)) ?_
  have sz2 := (lT (lT m3.size m4.size) m5.size)
  have r20 := (((((r7.ext m7).mod m8 (nC (lE (lL r7.lt lR)) nN)).mod m9 (nC (lE (lL r7.lt lR)) nN)).mod m10 (nC (lE (lL r7.lt lR)) nN)).mod m11 (nC (lG (lL (lL r2.lt sz2) ge1)) nN))
  have r21 := (((((r8.ext m7).mod m8 (nC (lE (lL r8.lt lR)) nN)).mod m9 (nC (lE (lL r8.lt lR)) nN)).mod m10 (nC (lE (lL r8.lt lR)) nN)).mod m11 (nC (lG (lL (lL r2.lt sz2) ge2)) nN))
  have r22 := (((((r9.ext m7).mod m8 (nC (lE (lL r9.lt lR)) nN)).mod m9 (nC (lE (lL r9.lt lR)) nN)).mod m10 (nC (lE (lL r9.lt lR)) nN)).mod m11 (nC (lG (lL (lL r2.lt sz2) ge3)) nN))
  have sz3 := (lT (lT (lT (lT m1.size m2.size) m3.size) m4.size) m5.size)
  refine ⟨bR'1, cR'1, PR'1, bL'1, cL'1, PL'1, bS'1, cS'1, rfl, h1, h2, r20, r21, r22, (lT sz3 ge1), (lT sz3 ge2), (lT sz3 ge3), ne1, ne2, ne3, (OF.low (((((fm1.ext m7).mod m8 (fun j hj => (nC (lE (lL (OF.lt fm1 (Nat.lt_of_lt_of_eq (Nat.lt_of_lt_of_eq hj lDR) lDR.symm)) lR)) nN))).mod m9 (fun j hj => (nC (lE (lL (OF.lt fm1 (Nat.lt_of_lt_of_eq (Nat.lt_of_lt_of_eq hj lDR) lDR.symm)) lR)) nN))).mod m10 (fun j hj => (nC (lE (lL (OF.lt fm1 (Nat.lt_of_lt_of_eq (Nat.lt_of_lt_of_eq hj lDR) lDR.symm)) lR)) nN))).mod m11 (fun j hj => (nC (lG (lL (lL r2.lt sz2) (fm1.ge j (Nat.lt_of_lt_of_eq (Nat.lt_of_lt_of_eq hj lDR) lDR.symm)))) nN))) sz3), (fun j hj => (fn1 j (show j < nR by omega))), (fun j hj => (fn2 j (show j < nR by omega))), (fun j hj => (fn3 j (show j < nR by omega))), (fun j q hj hq => (fn4 j q (show j < nR by omega) (show q < nL by omega))), (OF.low (((((fm2.ext m7).mod m8 (fun j hj => (nC (lE (lL (OF.lt fm2 (Nat.lt_of_lt_of_eq (Nat.lt_of_lt_of_eq hj lDL) lDL.symm)) lR)) nN))).mod m9 (fun j hj => (nC (lE (lL (OF.lt fm2 (Nat.lt_of_lt_of_eq (Nat.lt_of_lt_of_eq hj lDL) lDL.symm)) lR)) nN))).mod m10 (fun j hj => (nC (lE (lL (OF.lt fm2 (Nat.lt_of_lt_of_eq (Nat.lt_of_lt_of_eq hj lDL) lDL.symm)) lR)) nN))).mod m11 (fun j hj => (nC (lG (lL (lL r2.lt sz2) (fm2.ge j (Nat.lt_of_lt_of_eq (Nat.lt_of_lt_of_eq hj lDL) lDL.symm)))) nN))) sz3), (fun j hj => (fn5 j (show j < nL by omega))), (fun j hj => (fn6 j (show j < nL by omega))), (fun j hj => (fn7 j (show j < nL by omega))), ((((((((((((Mod.refl [] w).nt m1).nt m2).nt m3).nt m4).nt m5).nt m6).nt m7).then m8 ((aC (.inr (lT (lT sz3 m6.size) lR)) aN))).then m9 ((aC (.inr (lT (lT sz3 m6.size) lR)) aN))).then m10 ((aC (.inr (lT (lT sz3 m6.size) lR)) aN))).then m11 ((aC (.inr (lT m1.size lR)) aN)))⟩

end Go.Proofs.Ytnahhdnkbbdceaa
