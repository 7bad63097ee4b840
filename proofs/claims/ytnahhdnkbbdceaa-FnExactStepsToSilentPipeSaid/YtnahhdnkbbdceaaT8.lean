/- When a pipe of three sections is silent: the program. -/
import Derived.Test.YtnahhdnkbbdceaaT7
set_option linter.unusedVariables false
set_option linter.unusedSimpArgs false
set_option maxRecDepth 100000
set_option maxHeartbeats 8000000
namespace Go.Proofs.Ytnahhdnkbbdceaa

theorem c_stepsP3 (GR : List RD) (GL : List RD) (xS : List Nat) (cR : Nat) (bR : Nat) (PR : List BC) (loR : Nat) (cL : Nat) (bL : Nat) (PL : List BC) (loL : Nat) (cS : Nat) (bS : Nat) (k : Int) (kc0 : Nat) (kc1 : Nat) (kc2 : Nat) (ks0 : Nat) (ks1 : Nat) (op : Bool) (lo : Nat) (re : Nat) (sl : Nat) (p : Nat) (e : Nat) (ce : Nat) (most : Nat) (rv : Int × Int) (lDR : GR.length = 3) (lDL : GL.length = 3) (lnS : xS.length = 2) (hzR : ∀ i, (GR.getD i RD.d).xs.length ≤ 1048576) (hzL : ∀ i, (GL.getD i RD.d).xs.length ≤ 1048576) (lPR : PR.length = 3) (lPL : PL.length = 3) (gR : GoodD GR 3) (gL : GoodD GL 3) (lks0 : ks0 < wid .f32) (lks1 : ks1 < wid .f32) (hm : most ≤ 100000) (erv : rv = silG (fun ii => pipeSil 3 3 (pipeAt 3 2 xS k kc0 kc1 kc2 op lo re sl (PipeSt.mk GR GL ks0 ks1) (fun _ => 0) ii)) (most + 1) 0) (w : World) (q : Row w p 0 [vS bR 0 3 cR, vS bL 0 3 cL, vS bS 0 2 cS, vI k, vF kc0, vF kc1, vF kc2, vF ks0, vF ks1, .bool op, vF lo, vF re, vF sl]) (rR : Row w bR 0 (olc GR PR)) (rL : Row w bL 0 (olc GL PL)) (rS : Rng w bS 0 (fl xS)) (rE : Rng w e 0 [vP bR 0, vP bL 0, vP bR 2, vP bL 2, vP bR 4, vP bL 4]) (n1 : p ≠ bR) (n2 : p ≠ bL) (n3 : p ≠ bS) (n4 : bR ≠ bL) (n5 : bR ≠ bS) (n6 : bL ≠ bS) (n7 : e ≠ p) (n8 : e ≠ bR) (n9 : e ≠ bL) (n10 : e ≠ bS)  (FR : OF loR w GR PR) (gRp : (∀ i, i < 3 → (PR.getD i BC.d).b ≠ p)) (gRR : (∀ i, i < 3 → (PR.getD i BC.d).b ≠ bR)) (gRL : (∀ i, i < 3 → (PR.getD i BC.d).b ≠ bL)) (gRS : (∀ i, i < 3 → (PR.getD i BC.d).b ≠ bS)) (gRe : (∀ i, i < 3 → (PR.getD i BC.d).b ≠ e)) (gPP : (∀ i j, i < 3 → j < 3 → (PR.getD i BC.d).b ≠ (PL.getD j BC.d).b)) (FL : OF loL w GL PL) (gLp : (∀ i, i < 3 → (PL.getD i BC.d).b ≠ p)) (gLR : (∀ i, i < 3 → (PL.getD i BC.d).b ≠ bR)) (gLL : (∀ i, i < 3 → (PL.getD i BC.d).b ≠ bL)) (gLS : (∀ i, i < 3 → (PL.getD i BC.d).b ≠ bS)) (gLe : (∀ i, i < 3 → (PL.getD i BC.d).b ≠ e)) : Cl Try.prog 64 #[vI ((most : Nat) : Int), vS e 0 6 ce, .func (.func 66) #[] #[vP p 0], .func (.func 68) #[] #[vP p 0]] w fun v w' => v = .tuple #[vI rv.1, vI rv.2] ∧ Mod (p :: bR :: bL :: (PR.map BC.b ++ (PL.map BC.b ++ []))) w w' := by
 refine Cl.of Try.func64 Try.ntmps64 rfl rfl (ρ := [(0, vI ((most : Nat) : Int)), (1, vS e 0 6 ce), (2, .func (.func 66) #[] #[vP p 0]), (3, .func (.func 68) #[] #[vP p 0])]) rfl ?_
 refine CE.seq (CE.region ?_)
 iterate 2 refine WL.det (op_assign rfl) rfl rfl rfl ?_
 refine WL.end (NE.code (CE.seq (CE.region ?_)))
 refine WL.det (op_move rfl) rfl rfl rfl ?_
 refine WL.det (op_len rfl Try.runUnderlying97) rfl rfl rfl ?_
 refine WL.op (op_makeI (i := Try.t2) (m := 6) rfl rfl rfl rfl Try.underlying36 rfl rfl rfl rfl (by omega)) rfl rfl (ltb rfl) ?_
 rintro _ w1 ⟨rfl, r1, m1, z1⟩
 refine WL.det (op_assign rfl) rfl rfl rfl ?_
 refine WL.end (NE.code (CE.seq (CE.seq (CE.region ?_))))
 refine WL.det (op_move rfl) rfl rfl rfl ?_
 refine WL.det (op_len rfl Try.runUnderlying97) rfl rfl rfl ?_
 refine WL.det (op_move rfl) rfl rfl rfl ?_
 refine WL.end (NE.code (CE.block ?_))
 refine CE.rounds 7 ?_
 refine RN.one (CE.seq (CE.region ?_))
 refine WL.det (op_lti rfl rfl) rfl rfl rfl ?_
 refine WL.end (NE.code (CE.seq ?_))
 refine CE.cond_t rfl rfl ?_
 refine CE.skip' (NE.code (CE.seq (CE.block (CE.seq (CE.region ?_)))))
 refine WL.det (op_move rfl) rfl rfl rfl ?_
 refine WL.det (op_indexSl (off' := 0) rfl rfl rfl Try.runUnderlying97 Try.sizeOf112 (by omega) (by omega) rfl) rfl rfl rfl ?_
 refine WL.det (op_load1 (i := 0) rfl Try.isAgg112 (rE.ext m1) rfl rfl) rfl rfl rfl ?_
 iterate 2 refine WL.det (op_assign rfl) rfl rfl rfl ?_
 refine WL.end (NE.code (CE.region ?_))
 iterate 3 refine WL.det (op_move rfl) rfl rfl rfl ?_
 refine WL.det (op_nilCheck rfl) rfl rfl rfl ?_
 refine WL.det (op_loadA (i := 0 * 2) (cs := [vS ((PR.getD 0 BC.d).b) 0 ((GR.getD 0 RD.d).xs.length) ((PR.getD 0 BC.d).c), vI ((GR.getD 0 RD.d).at_)]) rfl Try.isAgg60 Try.sizeOf60 (rR.ext m1).rng rfl (olc_at lDR lPR (show 0 < 3 by omega)) rfl) rfl rfl rfl ?_
 refine WL.call (oc_call (vs := [.agg #[vS ((PR.getD 0 BC.d).b) 0 ((GR.getD 0 RD.d).xs.length) ((PR.getD 0 BC.d).c), vI ((GR.getD 0 RD.d).at_)]]) (cap := []) rfl rfl rfl Try.call117 (c_quietJ ((GR.getD 0 RD.d).xs.length) ((PR.getD 0 BC.d).c) ((PR.getD 0 BC.d).b) ((GR.getD 0 RD.d).xs) ((GR.getD 0 RD.d).at_) rfl (by first | omega | exact GoodD.ge (by assumption) _ (by omega)) (by first | omega | exact GoodD.lt (by assumption) _ (by omega)) (by first | omega | exact Nat.le_trans (Nat.le_of_eq (stR_lens _ _)) (by first | omega | exact z1 _) | exact Nat.le_trans (Nat.le_of_eq (endL_lens _)) (by first | omega | exact z2 _) | exact zn1 _ | exact zn2 _ | exact hzR _ | exact hzL _) w1 ((OF.row FR 0 (Nat.lt_of_lt_of_eq (show 0 < 3 by omega) lDR.symm)).ext m1).rng)) rfl rfl (ltb rfl) ?_
 rintro _ w2 ⟨r2, rfl, h1, h2, m2⟩
 refine WL.det (op_indexSl (off' := 0) rfl rfl rfl Try.runUnderlying36 Try.sizeOf2 (by omega) (by omega) rfl) rfl rfl rfl ?_
 refine WL.op0 (op_store (i := 0) (cs := [vI ((r2 : Nat) : Int)]) rfl rfl rfl Try.sizeOf2 rfl (r1.ext m2) rfl (lB rfl) rfl) rfl rfl ?_
 rintro _ w3 ⟨r3, m3, z2⟩
 have r4 : Row w3 w.heap.size 0 [vI ((r2 : Nat) : Int), vI 0, vI 0, vI 0, vI 0, vI 0] := Row.congr r3 rfl
 refine WL.end (NE.blk (NE.code (CE.region ?_)))
 refine WL.det (op_add (r := 1) rfl rfl (by decide)) rfl rfl rfl ?_
 refine WL.det (op_move rfl) rfl rfl rfl ?_
 refine WL.end (NE.round (RN.one (CE.seq (CE.region ?_))))
 refine WL.det (op_lti rfl rfl) rfl rfl rfl ?_
 refine WL.end (NE.code (CE.seq ?_))
 refine CE.cond_t rfl rfl ?_
 refine CE.skip' (NE.code (CE.seq (CE.block (CE.seq (CE.region ?_)))))
 refine WL.det (op_move rfl) rfl rfl rfl ?_
 refine WL.det (op_indexSl (off' := 1) rfl rfl rfl Try.runUnderlying97 Try.sizeOf112 (by omega) (by omega) rfl) rfl rfl rfl ?_
 have r5 := (Rng.youngS rE ((rE.ext m1).ext m2) m3 (allge_cons lR allge_nil))
 refine WL.det (op_load1 (i := 1) rfl Try.isAgg112 r5 rfl rfl) rfl rfl rfl ?_
 iterate 2 refine WL.det (op_assign rfl) rfl rfl rfl ?_
 refine WL.end (NE.code (CE.region ?_))
 iterate 3 refine WL.det (op_move rfl) rfl rfl rfl ?_
 refine WL.det (op_nilCheck rfl) rfl rfl rfl ?_
 have r6 := (((rL.ext m1).ext m2).mod m3 (nC (lE (lL rL.lt lR)) nN))
 refine WL.det (op_loadA (i := 0 * 2) (cs := [vS ((PL.getD 0 BC.d).b) 0 ((GL.getD 0 RD.d).xs.length) ((PL.getD 0 BC.d).c), vI ((GL.getD 0 RD.d).at_)]) rfl Try.isAgg60 Try.sizeOf60 r6.rng rfl (olc_at lDL lPL (show 0 < 3 by omega)) rfl) rfl rfl rfl ?_
 have fm1 : OF loL w3 GL PL := (((FL.ext m1).ext m2).mod m3 (fun j hj => (nC (lE (lL (OF.lt FL (Nat.lt_of_lt_of_eq (Nat.lt_of_lt_of_eq hj lDL) lDL.symm)) lR)) nN)))
 refine WL.call (oc_call (vs := [.agg #[vS ((PL.getD 0 BC.d).b) 0 ((GL.getD 0 RD.d).xs.length) ((PL.getD 0 BC.d).c), vI ((GL.getD 0 RD.d).at_)]]) (cap := []) rfl rfl rfl Try.call117 (c_quietJ ((GL.getD 0 RD.d).xs.length) ((PL.getD 0 BC.d).c) ((PL.getD 0 BC.d).b) ((GL.getD 0 RD.d).xs) ((GL.getD 0 RD.d).at_) rfl (by first | omega | exact GoodD.ge (by assumption) _ (by omega)) (by first | omega | exact GoodD.lt (by assumption) _ (by omega)) (by first | omega | exact Nat.le_trans (Nat.le_of_eq (stR_lens _ _)) (by first | omega | exact z1 _) | exact Nat.le_trans (Nat.le_of_eq (endL_lens _)) (by first | omega | exact z2 _) | exact zn1 _ | exact zn2 _ | exact hzR _ | exact hzL _) w3 (OF.row fm1 0 (Nat.lt_of_lt_of_eq (show 0 < 3 by omega) lDL.symm)).rng)) rfl rfl (ltb rfl) ?_
 rintro _ w4 ⟨r7, rfl, h3, h4, m4⟩
 refine WL.det (op_indexSl (off' := 1) rfl rfl rfl Try.runUnderlying36 Try.sizeOf2 (by omega) (by omega) rfl) rfl rfl rfl ?_
 refine WL.op0 (op_store (i := 1) (cs := [vI ((r7 : Nat) : Int)]) rfl rfl rfl Try.sizeOf2 rfl (r4.ext m4) rfl (lB rfl) rfl) rfl rfl ?_
 rintro _ w5 ⟨r8, m5, z3⟩
 have r9 : Row w5 w.heap.size 0 [vI ((r2 : Nat) : Int), vI ((r7 : Nat) : Int), vI 0, vI 0, vI 0, vI 0] := Row.congr r8 rfl
 refine WL.end (NE.blk (NE.code (CE.region ?_)))
 refine WL.det (op_add (r := 2) rfl rfl (by decide)) rfl rfl rfl ?_
 refine WL.det (op_move rfl) rfl rfl rfl ?_
 refine WL.end (NE.round (RN.one (CE.seq (CE.region ?_))))
 refine WL.det (op_lti rfl rfl) rfl rfl rfl ?_
 refine WL.end (NE.code (CE.seq ?_))
 refine CE.cond_t rfl rfl ?_
 refine CE.skip' (NE.code (CE.seq (CE.block (CE.seq (CE.region ?_)))))
 refine WL.det (op_move rfl) rfl rfl rfl ?_
 refine WL.det (op_indexSl (off' := 2) rfl rfl rfl Try.runUnderlying97 Try.sizeOf112 (by omega) (by omega) rfl) rfl rfl rfl ?_
 refine WL.det (op_load1 (i := 2) rfl Try.isAgg112 (Rng.youngS rE (r5.ext m4) m5 (allge_cons lR allge_nil)) rfl rfl) rfl rfl rfl ?_
 iterate 2 refine WL.det (op_assign rfl) rfl rfl rfl ?_
 refine WL.end (NE.code (CE.region ?_))
 iterate 3 refine WL.det (op_move rfl) rfl rfl rfl ?_
 refine WL.det (op_nilCheck rfl) rfl rfl rfl ?_
 have r10 := (((((rR.ext m1).ext m2).mod m3 (nC (lE (lL rR.lt lR)) nN)).ext m4).mod m5 (nC (lE (lL rR.lt lR)) nN))
 refine WL.det (op_loadA (i := 1 * 2) (cs := [vS ((PR.getD 1 BC.d).b) 0 ((GR.getD 1 RD.d).xs.length) ((PR.getD 1 BC.d).c), vI ((GR.getD 1 RD.d).at_)]) rfl Try.isAgg60 Try.sizeOf60 r10.rng rfl (olc_at lDR lPR (show 1 < 3 by omega)) rfl) rfl rfl rfl ?_
 have fm2 : OF loR w5 GR PR := (((((FR.ext m1).ext m2).mod m3 (fun j hj => (nC (lE (lL (OF.lt FR (Nat.lt_of_lt_of_eq (Nat.lt_of_lt_of_eq hj lDR) lDR.symm)) lR)) nN))).ext m4).mod m5 (fun j hj => (nC (lE (lL (OF.lt FR (Nat.lt_of_lt_of_eq (Nat.lt_of_lt_of_eq hj lDR) lDR.symm)) lR)) nN)))
 refine WL.call (oc_call (vs := [.agg #[vS ((PR.getD 1 BC.d).b) 0 ((GR.getD 1 RD.d).xs.length) ((PR.getD 1 BC.d).c), vI ((GR.getD 1 RD.d).at_)]]) (cap := []) rfl rfl rfl Try.call117 (c_quietJ ((GR.getD 1 RD.d).xs.length) ((PR.getD 1 BC.d).c) ((PR.getD 1 BC.d).b) ((GR.getD 1 RD.d).xs) ((GR.getD 1 RD.d).at_) rfl (by first | omega | exact GoodD.ge (by assumption) _ (by omega)) (by first | omega | exact GoodD.lt (by assumption) _ (by omega)) (by first | omega | exact Nat.le_trans (Nat.le_of_eq (stR_lens _ _)) (by first | omega | exact z1 _) | exact Nat.le_trans (Nat.le_of_eq (endL_lens _)) (by first | omega | exact z2 _) | exact zn1 _ | exact zn2 _ | exact hzR _ | exact hzL _) w5 (OF.row fm2 1 (Nat.lt_of_lt_of_eq (show 1 < 3 by omega) lDR.symm)).rng)) rfl rfl (ltb rfl) ?_
 rintro _ w6 ⟨r11, rfl, h5, h6, m6⟩
 refine WL.det (op_indexSl (off' := 2) rfl rfl rfl Try.runUnderlying36 Try.sizeOf2 (by omega) (by omega) rfl) rfl rfl rfl ?_
 refine WL.op0 (op_store (i := 2) (cs := [vI ((r11 : Nat) : Int)]) rfl rfl rfl Try.sizeOf2 rfl (r9.ext m6) rfl (lB rfl) rfl) rfl rfl ?_
 rintro _ w7 ⟨r12, m7, z4⟩
 have r13 : Row w7 w.heap.size 0 [vI ((r2 : Nat) : Int), vI ((r7 : Nat) : Int), vI ((r11 : Nat) : Int), vI 0, vI 0, vI 0] := Row.congr r12 rfl
 refine WL.end (NE.blk (NE.code (CE.region ?_)))
 refine WL.det (op_add (r := 3) rfl rfl (by decide)) rfl rfl rfl ?_
 refine WL.det (op_move rfl) rfl rfl rfl ?_
 refine WL.end (NE.round (RN.one (CE.seq (CE.region ?_))))
 refine WL.det (op_lti rfl rfl) rfl rfl rfl ?_
 refine WL.end (NE.code (CE.seq ?_))
 refine CE.cond_t rfl rfl ?_
 refine CE.skip' (NE.code (CE.seq (CE.block (CE.seq (CE.region ?_)))))
 refine WL.det (op_move rfl) rfl rfl rfl ?_
 refine WL.det (op_indexSl (off' := 3) rfl rfl rfl Try.runUnderlying97 Try.sizeOf112 (by omega) (by omega) rfl) rfl rfl rfl ?_
 have r14 := (Rng.youngS rE ((Rng.youngS rE (r5.ext m4) m5 (allge_cons lR allge_nil)).ext m6) m7 (allge_cons lR allge_nil))
 refine WL.det (op_load1 (i := 3) rfl Try.isAgg112 r14 rfl rfl) rfl rfl rfl ?_
 iterate 2 refine WL.det (op_assign rfl) rfl rfl rfl ?_
 refine WL.end (NE.code (CE.region ?_))
 iterate 3 refine WL.det (op_move rfl) rfl rfl rfl ?_
 refine WL.det (op_nilCheck rfl) rfl rfl rfl ?_
 have r15 := ((((r6.ext m4).mod m5 (nC (lE (lL rL.lt lR)) nN)).ext m6).mod m7 (nC (lE (lL rL.lt lR)) nN))
 refine WL.det (op_loadA (i := 1 * 2) (cs := [vS ((PL.getD 1 BC.d).b) 0 ((GL.getD 1 RD.d).xs.length) ((PL.getD 1 BC.d).c), vI ((GL.getD 1 RD.d).at_)]) rfl Try.isAgg60 Try.sizeOf60 r15.rng rfl (olc_at lDL lPL (show 1 < 3 by omega)) rfl) rfl rfl rfl ?_
 have fm3 : OF loL w7 GL PL := ((((fm1.ext m4).mod m5 (fun j hj => (nC (lE (lL (OF.lt FL (Nat.lt_of_lt_of_eq (Nat.lt_of_lt_of_eq hj lDL) lDL.symm)) lR)) nN))).ext m6).mod m7 (fun j hj => (nC (lE (lL (OF.lt FL (Nat.lt_of_lt_of_eq (Nat.lt_of_lt_of_eq hj lDL) lDL.symm)) lR)) nN)))
 refine WL.call (oc_call (vs := [.agg #[vS ((PL.getD 1 BC.d).b) 0 ((GL.getD 1 RD.d).xs.length) ((PL.getD 1 BC.d).c), vI ((GL.getD 1 RD.d).at_)]]) (cap := []) rfl rfl rfl Try.call117 (c_quietJ ((GL.getD 1 RD.d).xs.length) ((PL.getD 1 BC.d).c) ((PL.getD 1 BC.d).b) ((GL.getD 1 RD.d).xs) ((GL.getD 1 RD.d).at_) rfl (by first | omega | exact GoodD.ge (by assumption) _ (by omega)) (by first | omega | exact GoodD.lt (by assumption) _ (by omega)) (by first | omega | exact Nat.le_trans (Nat.le_of_eq (stR_lens _ _)) (by first | omega | exact z1 _) | exact Nat.le_trans (Nat.le_of_eq (endL_lens _)) (by first | omega | exact z2 _) | exact zn1 _ | exact zn2 _ | exact hzR _ | exact hzL _) w7 (OF.row fm3 1 (Nat.lt_of_lt_of_eq (show 1 < 3 by omega) lDL.symm)).rng)) rfl rfl (ltb rfl) ?_
 rintro _ w8 ⟨r16, rfl, h7, h8, m8⟩
 refine WL.det (op_indexSl (off' := 3) rfl rfl rfl Try.runUnderlying36 Try.sizeOf2 (by omega) (by omega) rfl) rfl rfl rfl ?_
 refine WL.op0 (op_store (i := 3) (cs := [vI ((r16 : Nat) : Int)]) rfl rfl rfl Try.sizeOf2 rfl (r13.ext m8) rfl (lB rfl) rfl) rfl rfl ?_
 rintro _ w9 ⟨r17, m9, z5⟩
 have r18 : Row w9 w.heap.size 0 [vI ((r2 : Nat) : Int), vI ((r7 : Nat) : Int), vI ((r11 : Nat) : Int), vI ((r16 : Nat) : Int), vI 0, vI 0] := Row.congr r17 rfl
 refine WL.end (NE.blk (NE.code (CE.region ?_)))
 refine WL.det (op_add (r := 4) rfl rfl (by decide)) rfl rfl rfl ?_
 refine WL.det (op_move rfl) rfl rfl rfl ?_
 refine WL.end (NE.round (RN.one (CE.seq (CE.region ?_))))
 refine WL.det (op_lti rfl rfl) rfl rfl rfl ?_
 refine WL.end (NE.code (CE.seq ?_))
 refine CE.cond_t rfl rfl ?_
 refine CE.skip' (NE.code (CE.seq (CE.block (CE.seq (CE.region ?_)))))
 refine WL.det (op_move rfl) rfl rfl rfl ?_
 refine WL.det (op_indexSl (off' := 4) rfl rfl rfl Try.runUnderlying97 Try.sizeOf112 (by omega) (by omega) rfl) rfl rfl rfl ?_
 refine WL.det (op_load1 (i := 4) rfl Try.isAgg112 (Rng.youngS rE (r14.ext m8) m9 (allge_cons lR allge_nil)) rfl rfl) rfl rfl rfl ?_
 iterate 2 refine WL.det (op_assign rfl) rfl rfl rfl ?_
 refine WL.end (NE.code (CE.region ?_))
 iterate 3 refine WL.det (op_move rfl) rfl rfl rfl ?_
 refine WL.det (op_nilCheck rfl) rfl rfl rfl ?_
 have r19 := ((((r10.ext m6).mod m7 (nC (lE (lL rR.lt lR)) nN)).ext m8).mod m9 (nC (lE (lL rR.lt lR)) nN))
 refine WL.det (op_loadA (i := 2 * 2) (cs := [vS ((PR.getD 2 BC.d).b) 0 ((GR.getD 2 RD.d).xs.length) ((PR.getD 2 BC.d).c), vI ((GR.getD 2 RD.d).at_)]) rfl Try.isAgg60 Try.sizeOf60 r19.rng rfl (olc_at lDR lPR (show 2 < 3 by omega)) rfl) rfl rfl rfl ?_
 have fm4 : OF loR w9 GR PR := ((((fm2.ext m6).mod m7 (fun j hj => (nC (lE (lL (OF.lt FR (Nat.lt_of_lt_of_eq (Nat.lt_of_lt_of_eq hj lDR) lDR.symm)) lR)) nN))).ext m8).mod m9 (fun j hj => (nC (lE (lL (OF.lt FR (Nat.lt_of_lt_of_eq (Nat.lt_of_lt_of_eq hj lDR) lDR.symm)) lR)) nN)))
 refine WL.call (oc_call (vs := [.agg #[vS ((PR.getD 2 BC.d).b) 0 ((GR.getD 2 RD.d).xs.length) ((PR.getD 2 BC.d).c), vI ((GR.getD 2 RD.d).at_)]]) (cap := []) rfl rfl rfl Try.call117 (c_quietJ ((GR.getD 2 RD.d).xs.length) ((PR.getD 2 BC.d).c) ((PR.getD 2 BC.d).b) ((GR.getD 2 RD.d).xs) ((GR.getD 2 RD.d).at_) rfl (by first | omega | exact GoodD.ge (by assumption) _ (by omega)) (by first | omega | exact GoodD.lt (by assumption) _ (by omega)) (by first | omega | exact Nat.le_trans (Nat.le_of_eq (stR_lens _ _)) (by first | omega | exact z1 _) | exact Nat.le_trans (Nat.le_of_eq (endL_lens _)) (by first | omega | exact z2 _) | exact zn1 _ | exact zn2 _ | exact hzR _ | exact hzL _) w9 (OF.row fm4 2 (Nat.lt_of_lt_of_eq (show 2 < 3 by omega) lDR.symm)).rng)) rfl rfl (ltb rfl) ?_
 rintro _ w10 ⟨r20, rfl, h9, h10, m10⟩
 refine WL.det (op_indexSl (off' := 4) rfl rfl rfl Try.runUnderlying36 Try.sizeOf2 (by omega) (by omega) rfl) rfl rfl rfl ?_
 refine WL.op0 (op_store (i := 4) (cs := [vI ((r20 : Nat) : Int)]) rfl rfl rfl Try.sizeOf2 rfl (r18.ext m10) rfl (lB rfl) rfl) rfl rfl ?_
 rintro _ w11 ⟨r21, m11, z6⟩
 have r22 : Row w11 w.heap.size 0 [vI ((r2 : Nat) : Int), vI ((r7 : Nat) : Int), vI ((r11 : Nat) : Int), vI ((r16 : Nat) : Int), vI ((r20 : Nat) : Int), vI 0] := Row.congr r21 rfl
 refine WL.end (NE.blk (NE.code (CE.region ?_)))
 refine WL.det (op_add (r := 5) rfl rfl (by decide)) rfl rfl rfl ?_
 refine WL.det (op_move rfl) rfl rfl rfl ?_
 refine WL.end (NE.round (RN.one (CE.seq (CE.region ?_))))
 refine WL.det (op_lti rfl rfl) rfl rfl rfl ?_
 refine WL.end (NE.code (CE.seq ?_))
 refine CE.cond_t rfl rfl ?_
 refine CE.skip' (NE.code (CE.seq (CE.block (CE.seq (CE.region ?_)))))
 refine WL.det (op_move rfl) rfl rfl rfl ?_
 refine WL.det (op_indexSl (off' := 5) rfl rfl rfl Try.runUnderlying97 Try.sizeOf112 (by omega) (by omega) rfl) rfl rfl rfl ?_
 have r23 := (Rng.youngS rE ((Rng.youngS rE (r14.ext m8) m9 (allge_cons lR allge_nil)).ext m10) m11 (allge_cons lR allge_nil))
 refine WL.det (op_load1 (i := 5) rfl Try.isAgg112 r23 rfl rfl) rfl rfl rfl ?_
 iterate 2 refine WL.det (op_assign rfl) rfl rfl rfl ?_
 refine WL.end (NE.code (CE.region ?_))
 iterate 3 refine WL.det (op_move rfl) rfl rfl rfl ?_
 refine WL.det (op_nilCheck rfl) rfl rfl rfl ?_
 have r24 := ((((r15.ext m8).mod m9 (nC (lE (lL rL.lt lR)) nN)).ext m10).mod m11 (nC (lE (lL rL.lt lR)) nN))
 refine WL.det (op_loadA (i := 2 * 2) (cs := [vS ((PL.getD 2 BC.d).b) 0 ((GL.getD 2 RD.d).xs.length) ((PL.getD 2 BC.d).c), vI ((GL.getD 2 RD.d).at_)]) rfl Try.isAgg60 Try.sizeOf60 r24.rng rfl (olc_at lDL lPL (show 2 < 3 by omega)) rfl) rfl rfl rfl ?_
 have fm5 : OF loL w11 GL PL := ((((fm3.ext m8).mod m9 (fun j hj => (nC (lE (lL (OF.lt FL (Nat.lt_of_lt_of_eq (Nat.lt_of_lt_of_eq hj lDL) lDL.symm)) lR)) nN))).ext m10).mod m11 (fun j hj => (nC (lE (lL (OF.lt FL (Nat.lt_of_lt_of_eq (Nat.lt_of_lt_of_eq hj lDL) lDL.symm)) lR)) nN)))
 refine WL.call (oc_call (vs := [.agg #[vS ((PL.getD 2 BC.d).b) 0 ((GL.getD 2 RD.d).xs.length) ((PL.getD 2 BC.d).c), vI ((GL.getD 2 RD.d).at_)]]) (cap := []) rfl rfl rfl Try.call117 (c_quietJ ((GL.getD 2 RD.d).xs.length) ((PL.getD 2 BC.d).c) ((PL.getD 2 BC.d).b) ((GL.getD 2 RD.d).xs) ((GL.getD 2 RD.d).at_) rfl (by first | omega | exact GoodD.ge (by assumption) _ (by omega)) (by first | omega | exact GoodD.lt (by assumption) _ (by omega)) (by first | omega | exact Nat.le_trans (Nat.le_of_eq (stR_lens _ _)) (by first | omega | exact z1 _) | exact Nat.le_trans (Nat.le_of_eq (endL_lens _)) (by first | omega | exact z2 _) | exact zn1 _ | exact zn2 _ | exact hzR _ | exact hzL _) w11 (OF.row fm5 2 (Nat.lt_of_lt_of_eq (show 2 < 3 by omega) lDL.symm)).rng)) rfl rfl (ltb rfl) ?_
 rintro _ w12 ⟨r25, rfl, h11, h12, m12⟩
 refine WL.det (op_indexSl (off' := 5) rfl rfl rfl Try.runUnderlying36 Try.sizeOf2 (by omega) (by omega) rfl) rfl rfl rfl ?_
 refine WL.op0 (op_store (i := 5) (cs := [vI ((r25 : Nat) : Int)]) rfl rfl rfl Try.sizeOf2 rfl (r22.ext m12) rfl (lB rfl) rfl) rfl rfl ?_
 rintro _ w13 ⟨r26, m13, z7⟩
 have r27 : Row w13 w.heap.size 0 [vI ((r2 : Nat) : Int), vI ((r7 : Nat) : Int), vI ((r11 : Nat) : Int), vI ((r16 : Nat) : Int), vI ((r20 : Nat) : Int), vI ((r25 : Nat) : Int)] := Row.congr r26 rfl
 refine WL.end (NE.blk (NE.code (CE.region ?_)))
 refine WL.det (op_add (r := 6) rfl rfl (by decide)) rfl rfl rfl ?_
 refine WL.det (op_move rfl) rfl rfl rfl ?_
 refine WL.end (NE.round (RN.one (CE.seq (CE.region ?_))))
 refine WL.det (op_lti rfl rfl) rfl rfl rfl ?_
 refine WL.end (NE.code (CE.seq ?_))
 refine CE.cond_f rfl rfl ?_
 refine CE.exit' (XE.exit_then (XE.exit_then (XE.exit_here (NE.code (CE.seq (CE.seq (CE.region ?_)))))))
 refine WL.det (op_assign rfl) rfl rfl rfl ?_
 refine WL.end (NE.code (CE.block ?_))
 have r28 := (((((((((((((q.ext m1).ext m2).mod m3 (nC (lE (lL q.lt lR)) nN)).ext m4).mod m5 (nC (lE (lL q.lt lR)) nN)).ext m6).mod m7 (nC (lE (lL q.lt lR)) nN)).ext m8).mod m9 (nC (lE (lL q.lt lR)) nN)).ext m10).mod m11 (nC (lE (lL q.lt lR)) nN)).ext m12).mod m13 (nC (lE (lL q.lt lR)) nN))
 have r29 := ((((r19.ext m10).mod m11 (nC (lE (lL rR.lt lR)) nN)).ext m12).mod m13 (nC (lE (lL rR.lt lR)) nN))
 refine CE.loop (fun (z : Nat × Nat × Nat × Nat × Nat × Nat × Nat) => [(13, vI ((z.1 : Nat) : Int)), (0, vI ((most : Nat) : Int)), (1, vS e 0 6 ce), (2, .func (.func 66) #[] #[vP p 0]), (3, .func (.func 68) #[] #[vP p 0]), (8, vI 0), (9, vI 0), (10, vS w.heap.size 0 6 6)]) (fun (z : Nat × Nat × Nat × Nat × Nat × Nat × Nat) => fun W => (z.1 ≤ most + 1) ∧ (GoodD (pipeAt 3 2 xS k kc0 kc1 kc2 op lo re sl (PipeSt.mk GR GL ks0 ks1) (fun _ => 0) z.1).R 3) ∧ (GoodD (pipeAt 3 2 xS k kc0 kc1 kc2 op lo re sl (PipeSt.mk GR GL ks0 ks1) (fun _ => 0) z.1).L 3) ∧ ((pipeAt 3 2 xS k kc0 kc1 kc2 op lo re sl (PipeSt.mk GR GL ks0 ks1) (fun _ => 0) z.1).R.length = 3) ∧ ((pipeAt 3 2 xS k kc0 kc1 kc2 op lo re sl (PipeSt.mk GR GL ks0 ks1) (fun _ => 0) z.1).L.length = 3) ∧ (∀ j, ((pipeAt 3 2 xS k kc0 kc1 kc2 op lo re sl (PipeSt.mk GR GL ks0 ks1) (fun _ => 0) z.1).R.getD j RD.d).xs.length ≤ 1048576) ∧ (∀ j, ((pipeAt 3 2 xS k kc0 kc1 kc2 op lo re sl (PipeSt.mk GR GL ks0 ks1) (fun _ => 0) z.1).L.getD j RD.d).xs.length ≤ 1048576) ∧ ((pipeAt 3 2 xS k kc0 kc1 kc2 op lo re sl (PipeSt.mk GR GL ks0 ks1) (fun _ => 0) z.1).s0 < wid .f32) ∧ ((pipeAt 3 2 xS k kc0 kc1 kc2 op lo re sl (PipeSt.mk GR GL ks0 ks1) (fun _ => 0) z.1).s1 < wid .f32) ∧ (QD (pipeAt 3 2 xS k kc0 kc1 kc2 op lo re sl (PipeSt.mk GR GL ks0 ks1) (fun _ => 0) z.1).R 0 z.2.1) ∧ (z.2.1 ≤ 1048576 + z.1) ∧ (QD (pipeAt 3 2 xS k kc0 kc1 kc2 op lo re sl (PipeSt.mk GR GL ks0 ks1) (fun _ => 0) z.1).L 0 z.2.2.1) ∧ (z.2.2.1 ≤ 1048576 + z.1) ∧ (QD (pipeAt 3 2 xS k kc0 kc1 kc2 op lo re sl (PipeSt.mk GR GL ks0 ks1) (fun _ => 0) z.1).R 1 z.2.2.2.1) ∧ (z.2.2.2.1 ≤ 1048576 + z.1) ∧ (QD (pipeAt 3 2 xS k kc0 kc1 kc2 op lo re sl (PipeSt.mk GR GL ks0 ks1) (fun _ => 0) z.1).L 1 z.2.2.2.2.1) ∧ (z.2.2.2.2.1 ≤ 1048576 + z.1) ∧ (QD (pipeAt 3 2 xS k kc0 kc1 kc2 op lo re sl (PipeSt.mk GR GL ks0 ks1) (fun _ => 0) z.1).R 2 z.2.2.2.2.2.1) ∧ (z.2.2.2.2.2.1 ≤ 1048576 + z.1) ∧ (QD (pipeAt 3 2 xS k kc0 kc1 kc2 op lo re sl (PipeSt.mk GR GL ks0 ks1) (fun _ => 0) z.1).L 2 z.2.2.2.2.2.2) ∧ (z.2.2.2.2.2.2 ≤ 1048576 + z.1) ∧ (silG (fun ii => pipeSil 3 3 (pipeAt 3 2 xS k kc0 kc1 kc2 op lo re sl (PipeSt.mk GR GL ks0 ks1) (fun _ => 0) ii)) (most + 1 - z.1) z.1 = rv) ∧ Row W p 0 [vS bR 0 3 cR, vS bL 0 3 cL, vS bS 0 2 cS, vI k, vF kc0, vF kc1, vF kc2, vF ((pipeAt 3 2 xS k kc0 kc1 kc2 op lo re sl (PipeSt.mk GR GL ks0 ks1) (fun _ => 0) z.1).s0), vF ((pipeAt 3 2 xS k kc0 kc1 kc2 op lo re sl (PipeSt.mk GR GL ks0 ks1) (fun _ => 0) z.1).s1), .bool op, vF lo, vF re, vF sl] ∧ Row W bR 0 (olc ((pipeAt 3 2 xS k kc0 kc1 kc2 op lo re sl (PipeSt.mk GR GL ks0 ks1) (fun _ => 0) z.1).R) PR) ∧ Row W bL 0 (olc ((pipeAt 3 2 xS k kc0 kc1 kc2 op lo re sl (PipeSt.mk GR GL ks0 ks1) (fun _ => 0) z.1).L) PL) ∧ Row W w.heap.size 0 [vI ((z.2.1 : Nat) : Int), vI ((z.2.2.1 : Nat) : Int), vI ((z.2.2.2.1 : Nat) : Int), vI ((z.2.2.2.2.1 : Nat) : Int), vI ((z.2.2.2.2.2.1 : Nat) : Int), vI ((z.2.2.2.2.2.2 : Nat) : Int)] ∧ OF loR W ((pipeAt 3 2 xS k kc0 kc1 kc2 op lo re sl (PipeSt.mk GR GL ks0 ks1) (fun _ => 0) z.1).R) PR ∧ OF loL W ((pipeAt 3 2 xS k kc0 kc1 kc2 op lo re sl (PipeSt.mk GR GL ks0 ks1) (fun _ => 0) z.1).L) PL ∧ Mod (p :: bR :: bL :: w.heap.size :: (PR.map BC.b ++ (PL.map BC.b ++ []))) w13 W) (fun (z : Nat × Nat × Nat × Nat × Nat × Nat × Nat) => most + 1 - z.1) (0, r2, r7, r11, r16, r20, r25) (⟨rfl, rfl, rfl, rfl, rfl, rfl, rfl, rfl, trivial⟩) ⟨(by omega), (by rw [pipeAt_zero]; exact gR), (by rw [pipeAt_zero]; exact gL), (by rw [pipeAt_zero]; exact lDR), (by rw [pipeAt_zero]; exact lDL), (by exact fun j => Nat.le_trans (Nat.le_of_eq (pipeAt_lens j _).1) (hzR j)), (by exact fun j => Nat.le_trans (Nat.le_of_eq (pipeAt_lens j _).2) (hzL j)), (by rw [pipeAt_zero]; assumption), (by rw [pipeAt_zero]; assumption), (by rw [pipeAt_zero]; assumption), (by first | omega | exact Nat.le_trans (by assumption) (hzR _)), (by rw [pipeAt_zero]; assumption), (by first | omega | exact Nat.le_trans (by assumption) (hzL _)), (by rw [pipeAt_zero]; assumption), (by first | omega | exact Nat.le_trans (by assumption) (hzR _)), (by rw [pipeAt_zero]; assumption), (by first | omega | exact Nat.le_trans (by assumption) (hzL _)), (by rw [pipeAt_zero]; assumption), (by first | omega | exact Nat.le_trans (by assumption) (hzR _)), (by rw [pipeAt_zero]; assumption), (by first | omega | exact Nat.le_trans (by assumption) (hzL _)), (by exact erv.symm), (Row.congr r28 (by rw [pipeAt_zero])), (Row.congr r29 (by rw [pipeAt_zero])), (Row.congr ((r24.ext m12).mod m13 (nC (lE (lL rL.lt lR)) nN)) (by rw [pipeAt_zero])), (Row.congr r27 rfl), (OF.congr ((((fm4.ext m10).mod m11 (fun j hj => (nC (lE (lL (OF.lt FR (Nat.lt_of_lt_of_eq (Nat.lt_of_lt_of_eq hj lDR) lDR.symm)) lR)) nN))).ext m12).mod m13 (fun j hj => (nC (lE (lL (OF.lt FR (Nat.lt_of_lt_of_eq (Nat.lt_of_lt_of_eq hj lDR) lDR.symm)) lR)) nN))) (by rw [pipeAt_zero])), (OF.congr ((fm5.ext m12).mod m13 (fun j hj => (nC (lE (lL (OF.lt FL (Nat.lt_of_lt_of_eq (Nat.lt_of_lt_of_eq hj lDL) lDL.symm)) lR)) nN))) (by rw [pipeAt_zero])), Mod.refl _ _⟩ ?_
 rintro ⟨i, u0, u1, u2, u3, u4, u5⟩ w14 ⟨hi, g1, g2, l1, l2, z1, z2, b0, b1, q0, hu0, q1, hu1, q2, hu2, q3, hu3, q4, hu4, q5, hu5, he, r30, r31, r32, r33, fm6, fm7, m14⟩
 replace hi : i ≤ most + 1 := hi
 replace g1 : GoodD (pipeAt 3 2 xS k kc0 kc1 kc2 op lo re sl (PipeSt.mk GR GL ks0 ks1) (fun _ => 0) i).R 3 := g1
 replace g2 : GoodD (pipeAt 3 2 xS k kc0 kc1 kc2 op lo re sl (PipeSt.mk GR GL ks0 ks1) (fun _ => 0) i).L 3 := g2
 replace l1 : (pipeAt 3 2 xS k kc0 kc1 kc2 op lo re sl (PipeSt.mk GR GL ks0 ks1) (fun _ => 0) i).R.length = 3 := l1
 replace l2 : (pipeAt 3 2 xS k kc0 kc1 kc2 op lo re sl (PipeSt.mk GR GL ks0 ks1) (fun _ => 0) i).L.length = 3 := l2
 replace z1 : ∀ j, ((pipeAt 3 2 xS k kc0 kc1 kc2 op lo re sl (PipeSt.mk GR GL ks0 ks1) (fun _ => 0) i).R.getD j RD.d).xs.length ≤ 1048576 := z1
 replace z2 : ∀ j, ((pipeAt 3 2 xS k kc0 kc1 kc2 op lo re sl (PipeSt.mk GR GL ks0 ks1) (fun _ => 0) i).L.getD j RD.d).xs.length ≤ 1048576 := z2
 replace b0 : (pipeAt 3 2 xS k kc0 kc1 kc2 op lo re sl (PipeSt.mk GR GL ks0 ks1) (fun _ => 0) i).s0 < wid .f32 := b0
 replace b1 : (pipeAt 3 2 xS k kc0 kc1 kc2 op lo re sl (PipeSt.mk GR GL ks0 ks1) (fun _ => 0) i).s1 < wid .f32 := b1
 replace q0 : QD (pipeAt 3 2 xS k kc0 kc1 kc2 op lo re sl (PipeSt.mk GR GL ks0 ks1) (fun _ => 0) i).R 0 u0 := q0
 replace hu0 : u0 ≤ 1048576 + i := hu0
 replace q1 : QD (pipeAt 3 2 xS k kc0 kc1 kc2 op lo re sl (PipeSt.mk GR GL ks0 ks1) (fun _ => 0) i).L 0 u1 := q1
 replace hu1 : u1 ≤ 1048576 + i := hu1
 replace q2 : QD (pipeAt 3 2 xS k kc0 kc1 kc2 op lo re sl (PipeSt.mk GR GL ks0 ks1) (fun _ => 0) i).R 1 u2 := q2
 replace hu2 : u2 ≤ 1048576 + i := hu2
 replace q3 : QD (pipeAt 3 2 xS k kc0 kc1 kc2 op lo re sl (PipeSt.mk GR GL ks0 ks1) (fun _ => 0) i).L 1 u3 := q3
 replace hu3 : u3 ≤ 1048576 + i := hu3
 replace q4 : QD (pipeAt 3 2 xS k kc0 kc1 kc2 op lo re sl (PipeSt.mk GR GL ks0 ks1) (fun _ => 0) i).R 2 u4 := q4
 replace hu4 : u4 ≤ 1048576 + i := hu4
 replace q5 : QD (pipeAt 3 2 xS k kc0 kc1 kc2 op lo re sl (PipeSt.mk GR GL ks0 ks1) (fun _ => 0) i).L 2 u5 := q5
 replace hu5 : u5 ≤ 1048576 + i := hu5
 replace he : silG (fun ii => pipeSil 3 3 (pipeAt 3 2 xS k kc0 kc1 kc2 op lo re sl (PipeSt.mk GR GL ks0 ks1) (fun _ => 0) ii)) (most + 1 - i) i = rv := he
 replace r30 : Row w14 p 0 [vS bR 0 3 cR, vS bL 0 3 cL, vS bS 0 2 cS, vI k, vF kc0, vF kc1, vF kc2, vF ((pipeAt 3 2 xS k kc0 kc1 kc2 op lo re sl (PipeSt.mk GR GL ks0 ks1) (fun _ => 0) i).s0), vF ((pipeAt 3 2 xS k kc0 kc1 kc2 op lo re sl (PipeSt.mk GR GL ks0 ks1) (fun _ => 0) i).s1), .bool op, vF lo, vF re, vF sl] := r30
 replace r31 : Row w14 bR 0 (olc ((pipeAt 3 2 xS k kc0 kc1 kc2 op lo re sl (PipeSt.mk GR GL ks0 ks1) (fun _ => 0) i).R) PR) := r31
 replace r32 : Row w14 bL 0 (olc ((pipeAt 3 2 xS k kc0 kc1 kc2 op lo re sl (PipeSt.mk GR GL ks0 ks1) (fun _ => 0) i).L) PL) := r32
 replace r33 : Row w14 w.heap.size 0 [vI ((u0 : Nat) : Int), vI ((u1 : Nat) : Int), vI ((u2 : Nat) : Int), vI ((u3 : Nat) : Int), vI ((u4 : Nat) : Int), vI ((u5 : Nat) : Int)] := r33
 replace fm6 : OF loR w14 ((pipeAt 3 2 xS k kc0 kc1 kc2 op lo re sl (PipeSt.mk GR GL ks0 ks1) (fun _ => 0) i).R) PR := fm6
 replace fm7 : OF loL w14 ((pipeAt 3 2 xS k kc0 kc1 kc2 op lo re sl (PipeSt.mk GR GL ks0 ks1) (fun _ => 0) i).L) PL := fm7
 obtain ⟨z, hz⟩ : ∃ z, z = (pipeAt 3 2 xS k kc0 kc1 kc2 op lo re sl (PipeSt.mk GR GL ks0 ks1) (fun _ => 0) i) := ⟨_, rfl⟩
 replace g1 : GoodD z.R 3 := by rw [hz]; exact g1
 replace g2 : GoodD z.L 3 := by rw [hz]; exact g2
 replace l1 : z.R.length = 3 := by rw [hz]; exact l1
 replace l2 : z.L.length = 3 := by rw [hz]; exact l2
 replace z1 : ∀ j, (z.R.getD j RD.d).xs.length ≤ 1048576 := by rw [hz]; exact z1
 replace z2 : ∀ j, (z.L.getD j RD.d).xs.length ≤ 1048576 := by rw [hz]; exact z2
 replace b0 : z.s0 < wid .f32 := by rw [hz]; exact b0
 replace b1 : z.s1 < wid .f32 := by rw [hz]; exact b1
 replace q0 : QD z.R 0 u0 := by rw [hz]; exact q0
 replace q1 : QD z.L 0 u1 := by rw [hz]; exact q1
 replace q2 : QD z.R 1 u2 := by rw [hz]; exact q2
 replace q3 : QD z.L 1 u3 := by rw [hz]; exact q3
 replace q4 : QD z.R 2 u4 := by rw [hz]; exact q4
 replace q5 : QD z.L 2 u5 := by rw [hz]; exact q5
 replace r30 : Row w14 p 0 [vS bR 0 3 cR, vS bL 0 3 cL, vS bS 0 2 cS, vI k, vF kc0, vF kc1, vF kc2, vF (z.s0), vF (z.s1), .bool op, vF lo, vF re, vF sl] := by rw [hz]; exact r30
 replace r31 : Row w14 bR 0 (olc z.R PR) := by rw [hz]; exact r31
 replace r32 : Row w14 bL 0 (olc z.L PL) := by rw [hz]; exact r32
 replace fm6 : OF loR w14 z.R PR := by rw [hz]; exact fm6
 replace fm7 : OF loL w14 z.L PL := by rw [hz]; exact fm7
 obtain ⟨zn, hzn⟩ : ∃ zn, zn = pipeNext 3 2 xS k kc0 kc1 kc2 op lo re sl z 0 := ⟨_, rfl⟩
 have hzs : (pipeAt 3 2 xS k kc0 kc1 kc2 op lo re sl (PipeSt.mk GR GL ks0 ks1) (fun _ => 0) (i + 1)) = zn := by rw [pipeAt_succ, ← hz, hzn]
 have zn1 : ∀ j, (zn.R.getD j RD.d).xs.length ≤ 1048576 := fun j => by rw [← hzs]; exact Nat.le_trans (Nat.le_of_eq (pipeAt_lens j _).1) (hzR j)
 have zn2 : ∀ j, (zn.L.getD j RD.d).xs.length ≤ 1048576 := fun j => by rw [← hzs]; exact Nat.le_trans (Nat.le_of_eq (pipeAt_lens j _).2) (hzL j)
 have hzE : ∀ b, pipeSil 3 3 z = b → (fun ii => pipeSil 3 3 (pipeAt 3 2 xS k kc0 kc1 kc2 op lo re sl (PipeSt.mk GR GL ks0 ks1) (fun _ => 0) ii)) i = b := fun b h => by rw [hz] at h; exact h
 show CE _ _ _ _ [(13, vI ((i : Nat) : Int)), (0, vI ((most : Nat) : Int)), (1, vS e 0 6 ce), (2, .func (.func 66) #[] #[vP p 0]), (3, .func (.func 68) #[] #[vP p 0]), (8, vI 0), (9, vI 0), (10, vS w.heap.size 0 6 6)] _
 refine CE.seq (CE.seq (CE.region ?_))
 iterate 2 refine WL.det (op_move rfl) rfl rfl rfl ?_
 refine WL.det (op_lei rfl rfl) rfl rfl rfl ?_
 refine WL.end (NE.code ?_)
 rcases Bool.eq_false_or_eq_true (decide (((i : Nat) : Int) ≤ ((most : Nat) : Int))) with hb1 | hb1
 ·have hp1 := of_decide_eq_true hb1
  refine CE.cond_t rfl hb1 ?_
  refine CE.skip' (NE.code (CE.seq (CE.block (CE.seq (CE.region ?_)))))
  refine WL.det (op_move rfl) rfl rfl rfl ?_
  refine WL.call (oc_call (vs := []) (cap := [vP p 0]) rfl rfl rfl Try.call66 (c_silP1 3 3 2 cR bR cL bL cS bS k kc0 kc1 kc2 (z.s0) (z.s1) op lo re sl p w14 r30.rng)) rfl rfl (ltb rfl) ?_
  rintro _ w15 ⟨rfl, m15⟩
  refine WL.det (op_assign rfl) rfl rfl rfl ?_
  refine WL.end (NE.code (CE.seq (CE.seq (CE.region ?_))))
  refine WL.det (op_move rfl) rfl rfl rfl ?_
  refine WL.det (op_len rfl Try.runUnderlying97) rfl rfl rfl ?_
  refine WL.det (op_move rfl) rfl rfl rfl ?_
  refine WL.end (NE.code (CE.block ?_))
  refine CE.rounds 7 ?_
  refine RN.one (CE.seq (CE.region ?_))
  refine WL.det (op_lti rfl rfl) rfl rfl rfl ?_
  refine WL.end (NE.code (CE.seq ?_))
  refine CE.cond_t rfl rfl ?_
  refine CE.skip' (NE.code (CE.seq ?_))
  refine CE.cut (fun ρ W => ρ = [(14, .bool ((stillF (z.s0) (z.s1)) && decide ((((z.R.getD 0 RD.d).xs.length : Nat) : Int) ≤ ((u0 : Nat) : Int)))), (13, vI ((i : Nat) : Int)), (0, vI ((most : Nat) : Int)), (1, vS e 0 6 ce), (2, .func (.func 66) #[] #[vP p 0]), (3, .func (.func 68) #[] #[vP p 0]), (8, vI 0), (9, vI 0), (10, vS w.heap.size 0 6 6), (44, vS e 0 6 ce), (45, vI 6), (46, vI 0)] ∧ Mod [] w15 W) ?_ ?_
  ·refine CE.block (CE.seq (CE.region ?_))
   refine WL.det (op_move rfl) rfl rfl rfl ?_
   refine WL.det (op_indexSl (off' := 0) rfl rfl rfl Try.runUnderlying97 Try.sizeOf112 (by omega) (by omega) rfl) rfl rfl rfl ?_
   have r34 := (((Rng.youngS rE (r23.ext m12) m13 (allge_cons lR allge_nil)).mod m14 (nC n7 (nC n8 (nC n9 (nC (lE (lL (rE.lt (Nat.succ_pos _)) lR)) (nA lPR (fun j hj => (gRe j hj)) (nA lPL (fun j hj => (gLe j hj)) nN))))))).ext m15)
   refine WL.det (op_load1 (i := 0) rfl Try.isAgg112 r34 rfl rfl) rfl rfl rfl ?_
   iterate 2 refine WL.det (op_assign rfl) rfl rfl rfl ?_
   refine WL.end (NE.code ?_)
   rcases Bool.eq_false_or_eq_true ((stillF (z.s0) (z.s1))) with hb2 | hb2
   ·refine CE.draw (fun | 10 => some (fun _ wA uA wB => uA = vI ((((z.R.getD 0 RD.d).xs.length) : Nat) : Int) ∧ wA = wB) | _ => none) [0, 1, 2, 3, 4, 5, 6, 7, 8, 9, 10] [11, 12, 13] [] (by kernel_rfl) (by kernel_rfl) ?_
    have md1 : Mod [] w15 w15.drew := (Mod.refl _ _).drew
    generalize w15.drew = w16 at md1 ⊢
    refine DR.det (i := 0) rfl rfl (by kernel_rfl) (.free rfl) rfl rfl (fun wD mD => op_move rfl) ?_
    refine DR.det (i := 1) rfl rfl (by kernel_rfl) (.free rfl) rfl rfl (fun wD mD => op_move rfl) ?_
    refine DR.det (i := 2) rfl rfl (by kernel_rfl) (.yes rfl rfl rfl (ltb rfl) rfl hb2) rfl rfl (fun wD mD => op_move rfl) ?_
    refine DR.det (i := 3) rfl rfl (by kernel_rfl) (.yes rfl rfl rfl (ltb rfl) rfl hb2) rfl rfl (fun wD mD => op_move rfl) ?_
    refine DR.det (i := 4) rfl rfl (by kernel_rfl) (.yes rfl rfl rfl (ltb rfl) rfl hb2) rfl rfl (fun wD mD => op_indexSl (off' := 0) rfl rfl rfl Try.runUnderlying36 Try.sizeOf2 (by omega) (by omega) rfl) ?_
    refine DR.det (i := 5) rfl rfl (by kernel_rfl) (.yes rfl rfl rfl (ltb rfl) rfl hb2) rfl rfl (fun wD mD => op_load1 (i := 0) rfl Try.isAgg2 (((r33.ext m15).ext md1).ext mD).rng rfl rfl) ?_
    refine DR.det (i := 6) rfl rfl (by kernel_rfl) (.yes rfl rfl rfl (ltb rfl) rfl hb2) rfl rfl (fun wD mD => op_move rfl) ?_
    refine DR.det (i := 7) rfl rfl (by kernel_rfl) (.yes rfl rfl rfl (ltb rfl) rfl hb2) rfl rfl (fun wD mD => op_nilCheck rfl) ?_
    refine DR.det (i := 8) rfl rfl (by kernel_rfl) (.yes rfl rfl rfl (ltb rfl) rfl hb2) rfl rfl (fun wD mD => op_fieldAddr (off' := 0) rfl Try.runUnderlying60 rfl rfl Try.sizeOf26 rfl) ?_
    refine DR.det (i := 9) rfl rfl (by kernel_rfl) (.yes rfl rfl rfl (ltb rfl) rfl hb2) rfl rfl (fun wD mD => op_load1 (i := 0 * 2) rfl Try.isAgg26 (((r31.ext m15).ext md1).ext mD).rng rfl (olc_get0 l1 lPR (show 0 < 3 by omega))) ?_
    refine DR.call (i := 10) (fun uA => uA = vI ((((z.R.getD 0 RD.d).xs.length) : Nat) : Int)) rfl rfl (by kernel_rfl) (.yes rfl rfl rfl (ltb rfl) rfl hb2) rfl (ltb rfl) ⟨_, rfl⟩ (vs := [.func (.func 118) #[] #[], vS ((PR.getD 0 BC.d).b) 0 ((z.R.getD 0 RD.d).xs.length) ((PR.getD 0 BC.d).c)]) rfl (fun wD mD => oc_call (vs := [vS ((PR.getD 0 BC.d).b) 0 ((z.R.getD 0 RD.d).xs.length) ((PR.getD 0 BC.d).c)]) (cap := []) rfl rfl rfl Try.call118 (c_length32 ((z.R.getD 0 RD.d).xs.length) ((PR.getD 0 BC.d).c) (some ⟨(PR.getD 0 BC.d).b, 0, none⟩) wD)) ?_ ?_
    ·rintro w1 _ _ m1 ⟨rfl, rfl⟩; exact ⟨rfl, Mod.refl _ _⟩
    rintro _ rfl
    refine DR.done rfl ?_
    intro w17 m16
    refine WO.det (op_gei rfl rfl) rfl (.yes rfl rfl rfl (ltb rfl) rfl hb2) rfl rfl ?_
    refine WO.det (op_pick_t rfl hb2 rfl) rfl (.free rfl) rfl rfl ?_
    refine WO.det (op_assign rfl) rfl (.free rfl) rfl rfl ?_
    refine WO.end (NE.blk ?_)
    exact NE.cutend [(14, .bool ((stillF (z.s0) (z.s1)) && decide ((((z.R.getD 0 RD.d).xs.length : Nat) : Int) ≤ ((u0 : Nat) : Int)))), (13, vI ((i : Nat) : Int)), (0, vI ((most : Nat) : Int)), (1, vS e 0 6 ce), (2, .func (.func 66) #[] #[vP p 0]), (3, .func (.func 68) #[] #[vP p 0]), (8, vI 0), (9, vI 0), (10, vS w.heap.size 0 6 6), (44, vS e 0 6 ce), (45, vI 6), (46, vI 0)] ⟨(lk_bool (by simp only [hb2, Bool.true_and, Bool.false_and])), rfl, rfl, rfl, rfl, rfl, rfl, rfl, rfl, rfl, rfl, rfl, trivial⟩ ⟨rfl, (((Mod.refl [] w15).nt md1).nt m16)⟩
   ·refine CE.draw (fun _ => none) [0, 1, 2, 3, 4, 5, 6, 7, 8, 9, 10] [11, 12, 13] [] (by kernel_rfl) (by kernel_rfl) ?_
    have md2 : Mod [] w15 w15.drew := (Mod.refl _ _).drew
    generalize w15.drew = w18 at md2 ⊢
    refine DR.det (i := 0) rfl rfl (by kernel_rfl) (.free rfl) rfl rfl (fun wD mD => op_move rfl) ?_
    refine DR.det (i := 1) rfl rfl (by kernel_rfl) (.free rfl) rfl rfl (fun wD mD => op_move rfl) ?_
    refine DR.skip (i := 2) rfl (by kernel_rfl) (.no rfl rfl rfl (ltb rfl) rfl hb2) rfl (ltb rfl) ?_
    refine DR.skip (i := 3) rfl (by kernel_rfl) (.no rfl rfl rfl (ltb rfl) rfl hb2) rfl (ltb rfl) ?_
    refine DR.skip (i := 4) rfl (by kernel_rfl) (.no rfl rfl rfl (ltb rfl) rfl hb2) rfl (ltb rfl) ?_
    refine DR.skip (i := 5) rfl (by kernel_rfl) (.no rfl rfl rfl (ltb rfl) rfl hb2) rfl (ltb rfl) ?_
    refine DR.skip (i := 6) rfl (by kernel_rfl) (.no rfl rfl rfl (ltb rfl) rfl hb2) rfl (ltb rfl) ?_
    refine DR.skip (i := 7) rfl (by kernel_rfl) (.no rfl rfl rfl (ltb rfl) rfl hb2) rfl (ltb rfl) ?_
    refine DR.skip (i := 8) rfl (by kernel_rfl) (.no rfl rfl rfl (ltb rfl) rfl hb2) rfl (ltb rfl) ?_
    refine DR.skip (i := 9) rfl (by kernel_rfl) (.no rfl rfl rfl (ltb rfl) rfl hb2) rfl (ltb rfl) ?_
    refine DR.skip (i := 10) rfl (by kernel_rfl) (.no rfl rfl rfl (ltb rfl) rfl hb2) rfl (ltb rfl) ?_
    refine DR.done rfl ?_
    intro w19 m17
    refine WO.skip rfl (.no rfl rfl rfl (ltb rfl) rfl hb2) rfl (ltb rfl) ?_
    refine WO.det (op_pick_f rfl hb2 rfl) rfl (.free rfl) rfl rfl ?_
    refine WO.det (op_assign rfl) rfl (.free rfl) rfl rfl ?_
    refine WO.end (NE.blk ?_)
    exact NE.cutend [(14, .bool ((stillF (z.s0) (z.s1)) && decide ((((z.R.getD 0 RD.d).xs.length : Nat) : Int) ≤ ((u0 : Nat) : Int)))), (13, vI ((i : Nat) : Int)), (0, vI ((most : Nat) : Int)), (1, vS e 0 6 ce), (2, .func (.func 66) #[] #[vP p 0]), (3, .func (.func 68) #[] #[vP p 0]), (8, vI 0), (9, vI 0), (10, vS w.heap.size 0 6 6), (44, vS e 0 6 ce), (45, vI 6), (46, vI 0)] ⟨(lk_bool (by simp only [hb2, Bool.true_and, Bool.false_and])), rfl, rfl, rfl, rfl, rfl, rfl, rfl, rfl, rfl, rfl, rfl, trivial⟩ ⟨rfl, (((Mod.refl [] w15).nt md2).nt m17)⟩
  rintro _ w20 ⟨rfl, m18⟩
  refine NE.code (CE.region ?_)
  refine WL.det (op_add (r := 1) rfl rfl (by decide)) rfl rfl rfl ?_
  refine WL.det (op_move rfl) rfl rfl rfl ?_
  refine WL.end (NE.round (RN.one (CE.seq (CE.region ?_))))
  refine WL.det (op_lti rfl rfl) rfl rfl rfl ?_
  refine WL.end (NE.code (CE.seq ?_))
  refine CE.cond_t rfl rfl ?_
  refine CE.skip' (NE.code (CE.seq ?_))
  refine CE.cut (fun ρ W => ρ = [(14, .bool (((stillF (z.s0) (z.s1)) && decide ((((z.R.getD 0 RD.d).xs.length : Nat) : Int) ≤ ((u0 : Nat) : Int))) && decide ((((z.L.getD 0 RD.d).xs.length : Nat) : Int) ≤ ((u1 : Nat) : Int)))), (13, vI ((i : Nat) : Int)), (0, vI ((most : Nat) : Int)), (1, vS e 0 6 ce), (2, .func (.func 66) #[] #[vP p 0]), (3, .func (.func 68) #[] #[vP p 0]), (8, vI 0), (9, vI 0), (10, vS w.heap.size 0 6 6), (44, vS e 0 6 ce), (45, vI 6), (46, vI 1)] ∧ Mod [] w20 W) ?_ ?_
  ·refine CE.block (CE.seq (CE.region ?_))
   refine WL.det (op_move rfl) rfl rfl rfl ?_
   refine WL.det (op_indexSl (off' := 1) rfl rfl rfl Try.runUnderlying97 Try.sizeOf112 (by omega) (by omega) rfl) rfl rfl rfl ?_
   have r35 := ((((Rng.youngS rE (r23.ext m12) m13 (allge_cons lR allge_nil)).mod m14 (nC n7 (nC n8 (nC n9 (nC (lE (lL (rE.lt (Nat.succ_pos _)) lR)) (nA lPR (fun j hj => (gRe j hj)) (nA lPL (fun j hj => (gLe j hj)) nN))))))).ext m15).ext m18)
   refine WL.det (op_load1 (i := 1) rfl Try.isAgg112 r35 rfl rfl) rfl rfl rfl ?_
   iterate 2 refine WL.det (op_assign rfl) rfl rfl rfl ?_
   refine WL.end (NE.code ?_)
   rcases Bool.eq_false_or_eq_true ((stillF (z.s0) (z.s1)) && decide ((((z.R.getD 0 RD.d).xs.length : Nat) : Int) ≤ ((u0 : Nat) : Int))) with hb3 | hb3
   ·have hp3 := hb3; try simp only [Bool.and_eq_true, Bool.or_eq_true, Bool.not_eq_true', Bool.not_eq_false', Bool.and_eq_false_iff, Bool.or_eq_false_iff, decide_eq_true_eq, decide_eq_false_iff_not, beq_iff_eq, bne_iff_ne, beq_eq_false_iff_ne, bne_eq_false_iff_eq, ne_eq, Bool.false_eq_true, not_false_eq_true, not_true_eq_false, vIn_t, vIn_f] at hp3
    refine CE.draw (fun | 10 => some (fun _ wA uA wB => uA = vI ((((z.L.getD 0 RD.d).xs.length) : Nat) : Int) ∧ wA = wB) | _ => none) [0, 1, 2, 3, 4, 5, 6, 7, 8, 9, 10] [11, 12, 13] [] (by kernel_rfl) (by kernel_rfl) ?_
    have md3 : Mod [] w20 w20.drew := (Mod.refl _ _).drew
    generalize w20.drew = w21 at md3 ⊢
    refine DR.det (i := 0) rfl rfl (by kernel_rfl) (.free rfl) rfl rfl (fun wD mD => op_move rfl) ?_
    refine DR.det (i := 1) rfl rfl (by kernel_rfl) (.free rfl) rfl rfl (fun wD mD => op_move rfl) ?_
    refine DR.det (i := 2) rfl rfl (by kernel_rfl) (.yes rfl rfl rfl (ltb rfl) rfl hb3) rfl rfl (fun wD mD => op_move rfl) ?_
    refine DR.det (i := 3) rfl rfl (by kernel_rfl) (.yes rfl rfl rfl (ltb rfl) rfl hb3) rfl rfl (fun wD mD => op_move rfl) ?_
    refine DR.det (i := 4) rfl rfl (by kernel_rfl) (.yes rfl rfl rfl (ltb rfl) rfl hb3) rfl rfl (fun wD mD => op_indexSl (off' := 1) rfl rfl rfl Try.runUnderlying36 Try.sizeOf2 (by omega) (by omega) rfl) ?_
    refine DR.det (i := 5) rfl rfl (by kernel_rfl) (.yes rfl rfl rfl (ltb rfl) rfl hb3) rfl rfl (fun wD mD => op_load1 (i := 1) rfl Try.isAgg2 ((((r33.ext m15).ext m18).ext md3).ext mD).rng rfl rfl) ?_
    refine DR.det (i := 6) rfl rfl (by kernel_rfl) (.yes rfl rfl rfl (ltb rfl) rfl hb3) rfl rfl (fun wD mD => op_move rfl) ?_
    refine DR.det (i := 7) rfl rfl (by kernel_rfl) (.yes rfl rfl rfl (ltb rfl) rfl hb3) rfl rfl (fun wD mD => op_nilCheck rfl) ?_
    refine DR.det (i := 8) rfl rfl (by kernel_rfl) (.yes rfl rfl rfl (ltb rfl) rfl hb3) rfl rfl (fun wD mD => op_fieldAddr (off' := 0) rfl Try.runUnderlying60 rfl rfl Try.sizeOf26 rfl) ?_
    refine DR.det (i := 9) rfl rfl (by kernel_rfl) (.yes rfl rfl rfl (ltb rfl) rfl hb3) rfl rfl (fun wD mD => op_load1 (i := 0 * 2) rfl Try.isAgg26 ((((r32.ext m15).ext m18).ext md3).ext mD).rng rfl (olc_get0 l2 lPL (show 0 < 3 by omega))) ?_
    refine DR.call (i := 10) (fun uA => uA = vI ((((z.L.getD 0 RD.d).xs.length) : Nat) : Int)) rfl rfl (by kernel_rfl) (.yes rfl rfl rfl (ltb rfl) rfl hb3) rfl (ltb rfl) ⟨_, rfl⟩ (vs := [.func (.func 118) #[] #[], vS ((PL.getD 0 BC.d).b) 0 ((z.L.getD 0 RD.d).xs.length) ((PL.getD 0 BC.d).c)]) rfl (fun wD mD => oc_call (vs := [vS ((PL.getD 0 BC.d).b) 0 ((z.L.getD 0 RD.d).xs.length) ((PL.getD 0 BC.d).c)]) (cap := []) rfl rfl rfl Try.call118 (c_length32 ((z.L.getD 0 RD.d).xs.length) ((PL.getD 0 BC.d).c) (some ⟨(PL.getD 0 BC.d).b, 0, none⟩) wD)) ?_ ?_
    ·rintro w1 _ _ m1 ⟨rfl, rfl⟩; exact ⟨rfl, Mod.refl _ _⟩
    rintro _ rfl
    refine DR.done rfl ?_
    intro w22 m19
    refine WO.det (op_gei rfl rfl) rfl (.yes rfl rfl rfl (ltb rfl) rfl hb3) rfl rfl ?_
    refine WO.det (op_pick_t rfl hb3 rfl) rfl (.free rfl) rfl rfl ?_
    refine WO.det (op_assign rfl) rfl (.free rfl) rfl rfl ?_
    refine WO.end (NE.blk ?_)
    exact NE.cutend [(14, .bool (((stillF (z.s0) (z.s1)) && decide ((((z.R.getD 0 RD.d).xs.length : Nat) : Int) ≤ ((u0 : Nat) : Int))) && decide ((((z.L.getD 0 RD.d).xs.length : Nat) : Int) ≤ ((u1 : Nat) : Int)))), (13, vI ((i : Nat) : Int)), (0, vI ((most : Nat) : Int)), (1, vS e 0 6 ce), (2, .func (.func 66) #[] #[vP p 0]), (3, .func (.func 68) #[] #[vP p 0]), (8, vI 0), (9, vI 0), (10, vS w.heap.size 0 6 6), (44, vS e 0 6 ce), (45, vI 6), (46, vI 1)] ⟨(lk_bool (by simp only [hb3, Bool.true_and, Bool.false_and])), rfl, rfl, rfl, rfl, rfl, rfl, rfl, rfl, rfl, rfl, rfl, trivial⟩ ⟨rfl, (((Mod.refl [] w20).nt md3).nt m19)⟩
   ·have hp3 := hb3; try simp only [Bool.and_eq_true, Bool.or_eq_true, Bool.not_eq_true', Bool.not_eq_false', Bool.and_eq_false_iff, Bool.or_eq_false_iff, decide_eq_true_eq, decide_eq_false_iff_not, beq_iff_eq, bne_iff_ne, beq_eq_false_iff_ne, bne_eq_false_iff_eq, ne_eq, Bool.false_eq_true, not_false_eq_true, not_true_eq_false, vIn_t, vIn_f] at hp3
    refine CE.draw (fun _ => none) [0, 1, 2, 3, 4, 5, 6, 7, 8, 9, 10] [11, 12, 13] [] (by kernel_rfl) (by kernel_rfl) ?_
    have md4 : Mod [] w20 w20.drew := (Mod.refl _ _).drew
    generalize w20.drew = w23 at md4 ⊢
    refine DR.det (i := 0) rfl rfl (by kernel_rfl) (.free rfl) rfl rfl (fun wD mD => op_move rfl) ?_
    refine DR.det (i := 1) rfl rfl (by kernel_rfl) (.free rfl) rfl rfl (fun wD mD => op_move rfl) ?_
    refine DR.skip (i := 2) rfl (by kernel_rfl) (.no rfl rfl rfl (ltb rfl) rfl hb3) rfl (ltb rfl) ?_
    refine DR.skip (i := 3) rfl (by kernel_rfl) (.no rfl rfl rfl (ltb rfl) rfl hb3) rfl (ltb rfl) ?_
    refine DR.skip (i := 4) rfl (by kernel_rfl) (.no rfl rfl rfl (ltb rfl) rfl hb3) rfl (ltb rfl) ?_
    refine DR.skip (i := 5) rfl (by kernel_rfl) (.no rfl rfl rfl (ltb rfl) rfl hb3) rfl (ltb rfl) ?_
    refine DR.skip (i := 6) rfl (by kernel_rfl) (.no rfl rfl rfl (ltb rfl) rfl hb3) rfl (ltb rfl) ?_
    refine DR.skip (i := 7) rfl (by kernel_rfl) (.no rfl rfl rfl (ltb rfl) rfl hb3) rfl (ltb rfl) ?_
    refine DR.skip (i := 8) rfl (by kernel_rfl) (.no rfl rfl rfl (ltb rfl) rfl hb3) rfl (ltb rfl) ?_
    refine DR.skip (i := 9) rfl (by kernel_rfl) (.no rfl rfl rfl (ltb rfl) rfl hb3) rfl (ltb rfl) ?_
    refine DR.skip (i := 10) rfl (by kernel_rfl) (.no rfl rfl rfl (ltb rfl) rfl hb3) rfl (ltb rfl) ?_
    refine DR.done rfl ?_
    intro w24 m20
    refine WO.skip rfl (.no rfl rfl rfl (ltb rfl) rfl hb3) rfl (ltb rfl) ?_
    refine WO.det (op_pick_f rfl hb3 rfl) rfl (.free rfl) rfl rfl ?_
    refine WO.det (op_assign rfl) rfl (.free rfl) rfl rfl ?_
    refine WO.end (NE.blk ?_)
    exact NE.cutend [(14, .bool (((stillF (z.s0) (z.s1)) && decide ((((z.R.getD 0 RD.d).xs.length : Nat) : Int) ≤ ((u0 : Nat) : Int))) && decide ((((z.L.getD 0 RD.d).xs.length : Nat) : Int) ≤ ((u1 : Nat) : Int)))), (13, vI ((i : Nat) : Int)), (0, vI ((most : Nat) : Int)), (1, vS e 0 6 ce), (2, .func (.func 66) #[] #[vP p 0]), (3, .func (.func 68) #[] #[vP p 0]), (8, vI 0), (9, vI 0), (10, vS w.heap.size 0 6 6), (44, vS e 0 6 ce), (45, vI 6), (46, vI 1)] ⟨(lk_bool (by simp only [hb3, Bool.true_and, Bool.false_and])), rfl, rfl, rfl, rfl, rfl, rfl, rfl, rfl, rfl, rfl, rfl, trivial⟩ ⟨rfl, (((Mod.refl [] w20).nt md4).nt m20)⟩
  rintro _ w25 ⟨rfl, m21⟩
  refine NE.code (CE.region ?_)
  refine WL.det (op_add (r := 2) rfl rfl (by decide)) rfl rfl rfl ?_
  refine WL.det (op_move rfl) rfl rfl rfl ?_
  refine WL.end (NE.round (RN.one (CE.seq (CE.region ?_))))
  refine WL.det (op_lti rfl rfl) rfl rfl rfl ?_
  refine WL.end (NE.code (CE.seq ?_))
  refine CE.cond_t rfl rfl ?_
  refine CE.skip' (NE.code (CE.seq ?_))
  refine CE.cut (fun ρ W => ρ = [(14, .bool ((((stillF (z.s0) (z.s1)) && decide ((((z.R.getD 0 RD.d).xs.length : Nat) : Int) ≤ ((u0 : Nat) : Int))) && decide ((((z.L.getD 0 RD.d).xs.length : Nat) : Int) ≤ ((u1 : Nat) : Int))) && decide ((((z.R.getD 1 RD.d).xs.length : Nat) : Int) ≤ ((u2 : Nat) : Int)))), (13, vI ((i : Nat) : Int)), (0, vI ((most : Nat) : Int)), (1, vS e 0 6 ce), (2, .func (.func 66) #[] #[vP p 0]), (3, .func (.func 68) #[] #[vP p 0]), (8, vI 0), (9, vI 0), (10, vS w.heap.size 0 6 6), (44, vS e 0 6 ce), (45, vI 6), (46, vI 2)] ∧ Mod [] w25 W) ?_ ?_
  ·refine CE.block (CE.seq (CE.region ?_))
   refine WL.det (op_move rfl) rfl rfl rfl ?_
   refine WL.det (op_indexSl (off' := 2) rfl rfl rfl Try.runUnderlying97 Try.sizeOf112 (by omega) (by omega) rfl) rfl rfl rfl ?_
   have r36 := (((((Rng.youngS rE (r23.ext m12) m13 (allge_cons lR allge_nil)).mod m14 (nC n7 (nC n8 (nC n9 (nC (lE (lL (rE.lt (Nat.succ_pos _)) lR)) (nA lPR (fun j hj => (gRe j hj)) (nA lPL (fun j hj => (gLe j hj)) nN))))))).ext m15).ext m18).ext m21)
   refine WL.det (op_load1 (i := 2) rfl Try.isAgg112 r36 rfl rfl) rfl rfl rfl ?_
   iterate 2 refine WL.det (op_assign rfl) rfl rfl rfl ?_
   refine WL.end (NE.code ?_)
   rcases Bool.eq_false_or_eq_true (((stillF (z.s0) (z.s1)) && decide ((((z.R.getD 0 RD.d).xs.length : Nat) : Int) ≤ ((u0 : Nat) : Int))) && decide ((((z.L.getD 0 RD.d).xs.length : Nat) : Int) ≤ ((u1 : Nat) : Int))) with hb4 | hb4
   ·have hp4 := hb4; try simp only [Bool.and_eq_true, Bool.or_eq_true, Bool.not_eq_true', Bool.not_eq_false', Bool.and_eq_false_iff, Bool.or_eq_false_iff, decide_eq_true_eq, decide_eq_false_iff_not, beq_iff_eq, bne_iff_ne, beq_eq_false_iff_ne, bne_eq_false_iff_eq, ne_eq, Bool.false_eq_true, not_false_eq_true, not_true_eq_false, vIn_t, vIn_f] at hp4
    refine CE.draw (fun | 10 => some (fun _ wA uA wB => uA = vI ((((z.R.getD 1 RD.d).xs.length) : Nat) : Int) ∧ wA = wB) | _ => none) [0, 1, 2, 3, 4, 5, 6, 7, 8, 9, 10] [11, 12, 13] [] (by kernel_rfl) (by kernel_rfl) ?_
    have md5 : Mod [] w25 w25.drew := (Mod.refl _ _).drew
    generalize w25.drew = w26 at md5 ⊢
    refine DR.det (i := 0) rfl rfl (by kernel_rfl) (.free rfl) rfl rfl (fun wD mD => op_move rfl) ?_
    refine DR.det (i := 1) rfl rfl (by kernel_rfl) (.free rfl) rfl rfl (fun wD mD => op_move rfl) ?_
    refine DR.det (i := 2) rfl rfl (by kernel_rfl) (.yes rfl rfl rfl (ltb rfl) rfl hb4) rfl rfl (fun wD mD => op_move rfl) ?_
    refine DR.det (i := 3) rfl rfl (by kernel_rfl) (.yes rfl rfl rfl (ltb rfl) rfl hb4) rfl rfl (fun wD mD => op_move rfl) ?_
    refine DR.det (i := 4) rfl rfl (by kernel_rfl) (.yes rfl rfl rfl (ltb rfl) rfl hb4) rfl rfl (fun wD mD => op_indexSl (off' := 2) rfl rfl rfl Try.runUnderlying36 Try.sizeOf2 (by omega) (by omega) rfl) ?_
    refine DR.det (i := 5) rfl rfl (by kernel_rfl) (.yes rfl rfl rfl (ltb rfl) rfl hb4) rfl rfl (fun wD mD => op_load1 (i := 2) rfl Try.isAgg2 (((((r33.ext m15).ext m18).ext m21).ext md5).ext mD).rng rfl rfl) ?_
    refine DR.det (i := 6) rfl rfl (by kernel_rfl) (.yes rfl rfl rfl (ltb rfl) rfl hb4) rfl rfl (fun wD mD => op_move rfl) ?_
    refine DR.det (i := 7) rfl rfl (by kernel_rfl) (.yes rfl rfl rfl (ltb rfl) rfl hb4) rfl rfl (fun wD mD => op_nilCheck rfl) ?_
    refine DR.det (i := 8) rfl rfl (by kernel_rfl) (.yes rfl rfl rfl (ltb rfl) rfl hb4) rfl rfl (fun wD mD => op_fieldAddr (off' := 2) rfl Try.runUnderlying60 rfl rfl Try.sizeOf26 rfl) ?_
    refine DR.det (i := 9) rfl rfl (by kernel_rfl) (.yes rfl rfl rfl (ltb rfl) rfl hb4) rfl rfl (fun wD mD => op_load1 (i := 1 * 2) rfl Try.isAgg26 (((((r31.ext m15).ext m18).ext m21).ext md5).ext mD).rng rfl (olc_get0 l1 lPR (show 1 < 3 by omega))) ?_
    refine DR.call (i := 10) (fun uA => uA = vI ((((z.R.getD 1 RD.d).xs.length) : Nat) : Int)) rfl rfl (by kernel_rfl) (.yes rfl rfl rfl (ltb rfl) rfl hb4) rfl (ltb rfl) ⟨_, rfl⟩ (vs := [.func (.func 118) #[] #[], vS ((PR.getD 1 BC.d).b) 0 ((z.R.getD 1 RD.d).xs.length) ((PR.getD 1 BC.d).c)]) rfl (fun wD mD => oc_call (vs := [vS ((PR.getD 1 BC.d).b) 0 ((z.R.getD 1 RD.d).xs.length) ((PR.getD 1 BC.d).c)]) (cap := []) rfl rfl rfl Try.call118 (c_length32 ((z.R.getD 1 RD.d).xs.length) ((PR.getD 1 BC.d).c) (some ⟨(PR.getD 1 BC.d).b, 0, none⟩) wD)) ?_ ?_
    ·rintro w1 _ _ m1 ⟨rfl, rfl⟩; exact ⟨rfl, Mod.refl _ _⟩
    rintro _ rfl
    refine DR.done rfl ?_
    intro w27 m22
    refine WO.det (op_gei rfl rfl) rfl (.yes rfl rfl rfl (ltb rfl) rfl hb4) rfl rfl ?_
    refine WO.det (op_pick_t rfl hb4 rfl) rfl (.free rfl) rfl rfl ?_
    refine WO.det (op_assign rfl) rfl (.free rfl) rfl rfl ?_
    refine WO.end (NE.blk ?_)
    exact NE.cutend [(14, .bool ((((stillF (z.s0) (z.s1)) && decide ((((z.R.getD 0 RD.d).xs.length : Nat) : Int) ≤ ((u0 : Nat) : Int))) && decide ((((z.L.getD 0 RD.d).xs.length : Nat) : Int) ≤ ((u1 : Nat) : Int))) && decide ((((z.R.getD 1 RD.d).xs.length : Nat) : Int) ≤ ((u2 : Nat) : Int)))), (13, vI ((i : Nat) : Int)), (0, vI ((most : Nat) : Int)), (1, vS e 0 6 ce), (2, .func (.func 66) #[] #[vP p 0]), (3, .func (.func 68) #[] #[vP p 0]), (8, vI 0), (9, vI 0), (10, vS w.heap.size 0 6 6), (44, vS e 0 6 ce), (45, vI 6), (46, vI 2)] ⟨(lk_bool (by simp only [hb4, Bool.true_and, Bool.false_and])), rfl, rfl, rfl, rfl, rfl, rfl, rfl, rfl, rfl, rfl, rfl, trivial⟩ ⟨rfl, (((Mod.refl [] w25).nt md5).nt m22)⟩
   ·have hp4 := hb4; try simp only [Bool.and_eq_true, Bool.or_eq_true, Bool.not_eq_true', Bool.not_eq_false', Bool.and_eq_false_iff, Bool.or_eq_false_iff, decide_eq_true_eq, decide_eq_false_iff_not, beq_iff_eq, bne_iff_ne, beq_eq_false_iff_ne, bne_eq_false_iff_eq, ne_eq, Bool.false_eq_true, not_false_eq_true, not_true_eq_false, vIn_t, vIn_f] at hp4
    refine CE.draw (fun _ => none) [0, 1, 2, 3, 4, 5, 6, 7, 8, 9, 10] [11, 12, 13] [] (by kernel_rfl) (by kernel_rfl) ?_
    have md6 : Mod [] w25 w25.drew := (Mod.refl _ _).drew
    generalize w25.drew = w28 at md6 ⊢
    refine DR.det (i := 0) rfl rfl (by kernel_rfl) (.free rfl) rfl rfl (fun wD mD => op_move rfl) ?_
    refine DR.det (i := 1) rfl rfl (by kernel_rfl) (.free rfl) rfl rfl (fun wD mD => op_move rfl) ?_
    refine DR.skip (i := 2) rfl (by kernel_rfl) (.no rfl rfl rfl (ltb rfl) rfl hb4) rfl (ltb rfl) ?_
    refine DR.skip (i := 3) rfl (by kernel_rfl) (.no rfl rfl rfl (ltb rfl) rfl hb4) rfl (ltb rfl) ?_
    refine DR.skip (i := 4) rfl (by kernel_rfl) (.no rfl rfl rfl (ltb rfl) rfl hb4) rfl (ltb rfl) ?_
    refine DR.skip (i := 5) rfl (by kernel_rfl) (.no rfl rfl rfl (ltb rfl) rfl hb4) rfl (ltb rfl) ?_
    refine DR.skip (i := 6) rfl (by kernel_rfl) (.no rfl rfl rfl (ltb rfl) rfl hb4) rfl (ltb rfl) ?_
    refine DR.skip (i := 7) rfl (by kernel_rfl) (.no rfl rfl rfl (ltb rfl) rfl hb4) rfl (ltb rfl) ?_
    refine DR.skip (i := 8) rfl (by kernel_rfl) (.no rfl rfl rfl (ltb rfl) rfl hb4) rfl (ltb rfl) ?_
    refine DR.skip (i := 9) rfl (by kernel_rfl) (.no rfl rfl rfl (ltb rfl) rfl hb4) rfl (ltb rfl) ?_
    refine DR.skip (i := 10) rfl (by kernel_rfl) (.no rfl rfl rfl (ltb rfl) rfl hb4) rfl (ltb rfl) ?_
    refine DR.done rfl ?_
    intro w29 m23
    refine WO.skip rfl (.no rfl rfl rfl (ltb rfl) rfl hb4) rfl (ltb rfl) ?_
    refine WO.det (op_pick_f rfl hb4 rfl) rfl (.free rfl) rfl rfl ?_
    refine WO.det (op_assign rfl) rfl (.free rfl) rfl rfl ?_
    refine WO.end (NE.blk ?_)
    exact NE.cutend [(14, .bool ((((stillF (z.s0) (z.s1)) && decide ((((z.R.getD 0 RD.d).xs.length : Nat) : Int) ≤ ((u0 : Nat) : Int))) && decide ((((z.L.getD 0 RD.d).xs.length : Nat) : Int) ≤ ((u1 : Nat) : Int))) && decide ((((z.R.getD 1 RD.d).xs.length : Nat) : Int) ≤ ((u2 : Nat) : Int)))), (13, vI ((i : Nat) : Int)), (0, vI ((most : Nat) : Int)), (1, vS e 0 6 ce), (2, .func (.func 66) #[] #[vP p 0]), (3, .func (.func 68) #[] #[vP p 0]), (8, vI 0), (9, vI 0), (10, vS w.heap.size 0 6 6), (44, vS e 0 6 ce), (45, vI 6), (46, vI 2)] ⟨(lk_bool (by simp only [hb4, Bool.true_and, Bool.false_and])), rfl, rfl, rfl, rfl, rfl, rfl, rfl, rfl, rfl, rfl, rfl, trivial⟩ ⟨rfl, (((Mod.refl [] w25).nt md6).nt m23)⟩
  rintro _ w30 ⟨rfl, m24⟩
  refine NE.code (CE.region ?_)
  refine WL.det (op_add (r := 3) rfl rfl (by decide)) rfl rfl rfl ?_
  refine WL.det (op_move rfl) rfl rfl rfl ?_
  refine WL.end (NE.round (RN.one (CE.seq (CE.region ?_))))
  refine WL.det (op_lti rfl rfl) rfl rfl rfl ?_
  refine WL.end (NE.code (CE.seq ?_))
  refine CE.cond_t rfl rfl ?_
  refine CE.skip' (NE.code (CE.seq ?_))
  refine CE.cut (fun ρ W => ρ = [(14, .bool (((((stillF (z.s0) (z.s1)) && decide ((((z.R.getD 0 RD.d).xs.length : Nat) : Int) ≤ ((u0 : Nat) : Int))) && decide ((((z.L.getD 0 RD.d).xs.length : Nat) : Int) ≤ ((u1 : Nat) : Int))) && decide ((((z.R.getD 1 RD.d).xs.length : Nat) : Int) ≤ ((u2 : Nat) : Int))) && decide ((((z.L.getD 1 RD.d).xs.length : Nat) : Int) ≤ ((u3 : Nat) : Int)))), (13, vI ((i : Nat) : Int)), (0, vI ((most : Nat) : Int)), (1, vS e 0 6 ce), (2, .func (.func 66) #[] #[vP p 0]), (3, .func (.func 68) #[] #[vP p 0]), (8, vI 0), (9, vI 0), (10, vS w.heap.size 0 6 6), (44, vS e 0 6 ce), (45, vI 6), (46, vI 3)] ∧ Mod [] w30 W) ?_ ?_
  ·refine CE.block (CE.seq (CE.region ?_))
   refine WL.det (op_move rfl) rfl rfl rfl ?_
   refine WL.det (op_indexSl (off' := 3) rfl rfl rfl Try.runUnderlying97 Try.sizeOf112 (by omega) (by omega) rfl) rfl rfl rfl ?_
   have r37 := ((((((Rng.youngS rE (r23.ext m12) m13 (allge_cons lR allge_nil)).mod m14 (nC n7 (nC n8 (nC n9 (nC (lE (lL (rE.lt (Nat.succ_pos _)) lR)) (nA lPR (fun j hj => (gRe j hj)) (nA lPL (fun j hj => (gLe j hj)) nN))))))).ext m15).ext m18).ext m21).ext m24)
   refine WL.det (op_load1 (i := 3) rfl Try.isAgg112 r37 rfl rfl) rfl rfl rfl ?_
   iterate 2 refine WL.det (op_assign rfl) rfl rfl rfl ?_
   refine WL.end (NE.code ?_)
   rcases Bool.eq_false_or_eq_true ((((stillF (z.s0) (z.s1)) && decide ((((z.R.getD 0 RD.d).xs.length : Nat) : Int) ≤ ((u0 : Nat) : Int))) && decide ((((z.L.getD 0 RD.d).xs.length : Nat) : Int) ≤ ((u1 : Nat) : Int))) && decide ((((z.R.getD 1 RD.d).xs.length : Nat) : Int) ≤ ((u2 : Nat) : Int))) with hb5 | hb5
   ·have hp5 := hb5; try simp only [Bool.and_eq_true, Bool.or_eq_true, Bool.not_eq_true', Bool.not_eq_false', Bool.and_eq_false_iff, Bool.or_eq_false_iff, decide_eq_true_eq, decide_eq_false_iff_not, beq_iff_eq, bne_iff_ne, beq_eq_false_iff_ne, bne_eq_false_iff_eq, ne_eq, Bool.false_eq_true, not_false_eq_true, not_true_eq_false, vIn_t, vIn_f] at hp5
    refine CE.draw (fun | 10 => some (fun _ wA uA wB => uA = vI ((((z.L.getD 1 RD.d).xs.length) : Nat) : Int) ∧ wA = wB) | _ => none) [0, 1, 2, 3, 4, 5, 6, 7, 8, 9, 10] [11, 12, 13] [] (by kernel_rfl) (by kernel_rfl) ?_
    have md7 : Mod [] w30 w30.drew := (Mod.refl _ _).drew
    generalize w30.drew = w31 at md7 ⊢
    refine DR.det (i := 0) rfl rfl (by kernel_rfl) (.free rfl) rfl rfl (fun wD mD => op_move rfl) ?_
    refine DR.det (i := 1) rfl rfl (by kernel_rfl) (.free rfl) rfl rfl (fun wD mD => op_move rfl) ?_
    refine DR.det (i := 2) rfl rfl (by kernel_rfl) (.yes rfl rfl rfl (ltb rfl) rfl hb5) rfl rfl (fun wD mD => op_move rfl) ?_
    refine DR.det (i := 3) rfl rfl (by kernel_rfl) (.yes rfl rfl rfl (ltb rfl) rfl hb5) rfl rfl (fun wD mD => op_move rfl) ?_
    refine DR.det (i := 4) rfl rfl (by kernel_rfl) (.yes rfl rfl rfl (ltb rfl) rfl hb5) rfl rfl (fun wD mD => op_indexSl (off' := 3) rfl rfl rfl Try.runUnderlying36 Try.sizeOf2 (by omega) (by omega) rfl) ?_
    refine DR.det (i := 5) rfl rfl (by kernel_rfl) (.yes rfl rfl rfl (ltb rfl) rfl hb5) rfl rfl (fun wD mD => op_load1 (i := 3) rfl Try.isAgg2 ((((((r33.ext m15).ext m18).ext m21).ext m24).ext md7).ext mD).rng rfl rfl) ?_
    refine DR.det (i := 6) rfl rfl (by kernel_rfl) (.yes rfl rfl rfl (ltb rfl) rfl hb5) rfl rfl (fun wD mD => op_move rfl) ?_
    refine DR.det (i := 7) rfl rfl (by kernel_rfl) (.yes rfl rfl rfl (ltb rfl) rfl hb5) rfl rfl (fun wD mD => op_nilCheck rfl) ?_
    refine DR.det (i := 8) rfl rfl (by kernel_rfl) (.yes rfl rfl rfl (ltb rfl) rfl hb5) rfl rfl (fun wD mD => op_fieldAddr (off' := 2) rfl Try.runUnderlying60 rfl rfl Try.sizeOf26 rfl) ?_
    refine DR.det (i := 9) rfl rfl (by kernel_rfl) (.yes rfl rfl rfl (ltb rfl) rfl hb5) rfl rfl (fun wD mD => op_load1 (i := 1 * 2) rfl Try.isAgg26 ((((((r32.ext m15).ext m18).ext m21).ext m24).ext md7).ext mD).rng rfl (olc_get0 l2 lPL (show 1 < 3 by omega))) ?_
    refine DR.call (i := 10) (fun uA => uA = vI ((((z.L.getD 1 RD.d).xs.length) : Nat) : Int)) rfl rfl (by kernel_rfl) (.yes rfl rfl rfl (ltb rfl) rfl hb5) rfl (ltb rfl) ⟨_, rfl⟩ (vs := [.func (.func 118) #[] #[], vS ((PL.getD 1 BC.d).b) 0 ((z.L.getD 1 RD.d).xs.length) ((PL.getD 1 BC.d).c)]) rfl (fun wD mD => oc_call (vs := [vS ((PL.getD 1 BC.d).b) 0 ((z.L.getD 1 RD.d).xs.length) ((PL.getD 1 BC.d).c)]) (cap := []) rfl rfl rfl Try.call118 (c_length32 ((z.L.getD 1 RD.d).xs.length) ((PL.getD 1 BC.d).c) (some ⟨(PL.getD 1 BC.d).b, 0, none⟩) wD)) ?_ ?_
    ·rintro w1 _ _ m1 ⟨rfl, rfl⟩; exact ⟨rfl, Mod.refl _ _⟩
    rintro _ rfl
    refine DR.done rfl ?_
    intro w32 m25
    refine WO.det (op_gei rfl rfl) rfl (.yes rfl rfl rfl (ltb rfl) rfl hb5) rfl rfl ?_
    refine WO.det (op_pick_t rfl hb5 rfl) rfl (.free rfl) rfl rfl ?_
    refine WO.det (op_assign rfl) rfl (.free rfl) rfl rfl ?_
    refine WO.end (NE.blk ?_)
    exact NE.cutend [(14, .bool (((((stillF (z.s0) (z.s1)) && decide ((((z.R.getD 0 RD.d).xs.length : Nat) : Int) ≤ ((u0 : Nat) : Int))) && decide ((((z.L.getD 0 RD.d).xs.length : Nat) : Int) ≤ ((u1 : Nat) : Int))) && decide ((((z.R.getD 1 RD.d).xs.length : Nat) : Int) ≤ ((u2 : Nat) : Int))) && decide ((((z.L.getD 1 RD.d).xs.length : Nat) : Int) ≤ ((u3 : Nat) : Int)))), (13, vI ((i : Nat) : Int)), (0, vI ((most : Nat) : Int)), (1, vS e 0 6 ce), (2, .func (.func 66) #[] #[vP p 0]), (3, .func (.func 68) #[] #[vP p 0]), (8, vI 0), (9, vI 0), (10, vS w.heap.size 0 6 6), (44, vS e 0 6 ce), (45, vI 6), (46, vI 3)] ⟨(lk_bool (by simp only [hb5, Bool.true_and, Bool.false_and])), rfl, rfl, rfl, rfl, rfl, rfl, rfl, rfl, rfl, rfl, rfl, trivial⟩ ⟨rfl, (((Mod.refl [] w30).nt md7).nt m25)⟩
   ·have hp5 := hb5; try simp only [Bool.and_eq_true, Bool.or_eq_true, Bool.not_eq_true', Bool.not_eq_false', Bool.and_eq_false_iff, Bool.or_eq_false_iff, decide_eq_true_eq, decide_eq_false_iff_not, beq_iff_eq, bne_iff_ne, beq_eq_false_iff_ne, bne_eq_false_iff_eq, ne_eq, Bool.false_eq_true, not_false_eq_true, not_true_eq_false, vIn_t, vIn_f] at hp5
    refine CE.draw (fun _ => none) [0, 1, 2, 3, 4, 5, 6, 7, 8, 9, 10] [11, 12, 13] [] (by kernel_rfl) (by kernel_rfl) ?_
    have md8 : Mod [] w30 w30.drew := (Mod.refl _ _).drew
    generalize w30.drew = w33 at md8 ⊢
    refine DR.det (i := 0) rfl rfl (by kernel_rfl) (.free rfl) rfl rfl (fun wD mD => op_move rfl) ?_
    refine DR.det (i := 1) rfl rfl (by kernel_rfl) (.free rfl) rfl rfl (fun wD mD => op_move rfl) ?_
    refine DR.skip (i := 2) rfl (by kernel_rfl) (.no rfl rfl rfl (ltb rfl) rfl hb5) rfl (ltb rfl) ?_
    refine DR.skip (i := 3) rfl (by kernel_rfl) (.no rfl rfl rfl (ltb rfl) rfl hb5) rfl (ltb rfl) ?_
    refine DR.skip (i := 4) rfl (by kernel_rfl) (.no rfl rfl rfl (ltb rfl) rfl hb5) rfl (ltb rfl) ?_
    refine DR.skip (i := 5) rfl (by kernel_rfl) (.no rfl rfl rfl (ltb rfl) rfl hb5) rfl (ltb rfl) ?_
    refine DR.skip (i := 6) rfl (by kernel_rfl) (.no rfl rfl rfl (ltb rfl) rfl hb5) rfl (ltb rfl) ?_
    refine DR.skip (i := 7) rfl (by kernel_rfl) (.no rfl rfl rfl (ltb rfl) rfl hb5) rfl (ltb rfl) ?_
    refine DR.skip (i := 8) rfl (by kernel_rfl) (.no rfl rfl rfl (ltb rfl) rfl hb5) rfl (ltb rfl) ?_
    refine DR.skip (i := 9) rfl (by kernel_rfl) (.no rfl rfl rfl (ltb rfl) rfl hb5) rfl (ltb rfl) ?_
    refine DR.skip (i := 10) rfl (by kernel_rfl) (.no rfl rfl rfl (ltb rfl) rfl hb5) rfl (ltb rfl) ?_
    refine DR.done rfl ?_
    intro w34 m26
    refine WO.skip rfl (.no rfl rfl rfl (ltb rfl) rfl hb5) rfl (ltb rfl) ?_
    refine WO.det (op_pick_f rfl hb5 rfl) rfl (.free rfl) rfl rfl ?_
    refine WO.det (op_assign rfl) rfl (.free rfl) rfl rfl ?_
    refine WO.end (NE.blk ?_)
    exact NE.cutend [(14, .bool (((((stillF (z.s0) (z.s1)) && decide ((((z.R.getD 0 RD.d).xs.length : Nat) : Int) ≤ ((u0 : Nat) : Int))) && decide ((((z.L.getD 0 RD.d).xs.length : Nat) : Int) ≤ ((u1 : Nat) : Int))) && decide ((((z.R.getD 1 RD.d).xs.length : Nat) : Int) ≤ ((u2 : Nat) : Int))) && decide ((((z.L.getD 1 RD.d).xs.length : Nat) : Int) ≤ ((u3 : Nat) : Int)))), (13, vI ((i : Nat) : Int)), (0, vI ((most : Nat) : Int)), (1, vS e 0 6 ce), (2, .func (.func 66) #[] #[vP p 0]), (3, .func (.func 68) #[] #[vP p 0]), (8, vI 0), (9, vI 0), (10, vS w.heap.size 0 6 6), (44, vS e 0 6 ce), (45, vI 6), (46, vI 3)] ⟨(lk_bool (by simp only [hb5, Bool.true_and, Bool.false_and])), rfl, rfl, rfl, rfl, rfl, rfl, rfl, rfl, rfl, rfl, rfl, trivial⟩ ⟨rfl, (((Mod.refl [] w30).nt md8).nt m26)⟩
  rintro _ w35 ⟨rfl, m27⟩
  refine NE.code (CE.region ?_)
  refine WL.det (op_add (r := 4) rfl rfl (by decide)) rfl rfl rfl ?_
  refine WL.det (op_move rfl) rfl rfl rfl ?_
  refine WL.end (NE.round (RN.one (CE.seq (CE.region ?_))))
  refine WL.det (op_lti rfl rfl) rfl rfl rfl ?_
  refine WL.end (NE.code (CE.seq ?_))
  refine CE.cond_t rfl rfl ?_
  refine CE.skip' (NE.code (CE.seq ?_))
  refine CE.cut (fun ρ W => ρ = [(14, .bool ((((((stillF (z.s0) (z.s1)) && decide ((((z.R.getD 0 RD.d).xs.length : Nat) : Int) ≤ ((u0 : Nat) : Int))) && decide ((((z.L.getD 0 RD.d).xs.length : Nat) : Int) ≤ ((u1 : Nat) : Int))) && decide ((((z.R.getD 1 RD.d).xs.length : Nat) : Int) ≤ ((u2 : Nat) : Int))) && decide ((((z.L.getD 1 RD.d).xs.length : Nat) : Int) ≤ ((u3 : Nat) : Int))) && decide ((((z.R.getD 2 RD.d).xs.length : Nat) : Int) ≤ ((u4 : Nat) : Int)))), (13, vI ((i : Nat) : Int)), (0, vI ((most : Nat) : Int)), (1, vS e 0 6 ce), (2, .func (.func 66) #[] #[vP p 0]), (3, .func (.func 68) #[] #[vP p 0]), (8, vI 0), (9, vI 0), (10, vS w.heap.size 0 6 6), (44, vS e 0 6 ce), (45, vI 6), (46, vI 4)] ∧ Mod [] w35 W) ?_ ?_
  ·refine CE.block (CE.seq (CE.region ?_))
   refine WL.det (op_move rfl) rfl rfl rfl ?_
   refine WL.det (op_indexSl (off' := 4) rfl rfl rfl Try.runUnderlying97 Try.sizeOf112 (by omega) (by omega) rfl) rfl rfl rfl ?_
   have r38 := (((((((Rng.youngS rE (r23.ext m12) m13 (allge_cons lR allge_nil)).mod m14 (nC n7 (nC n8 (nC n9 (nC (lE (lL (rE.lt (Nat.succ_pos _)) lR)) (nA lPR (fun j hj => (gRe j hj)) (nA lPL (fun j hj => (gLe j hj)) nN))))))).ext m15).ext m18).ext m21).ext m24).ext m27)
   refine WL.det (op_load1 (i := 4) rfl Try.isAgg112 r38 rfl rfl) rfl rfl rfl ?_
   iterate 2 refine WL.det (op_assign rfl) rfl rfl rfl ?_
   refine WL.end (NE.code ?_)
   rcases Bool.eq_false_or_eq_true (((((stillF (z.s0) (z.s1)) && decide ((((z.R.getD 0 RD.d).xs.length : Nat) : Int) ≤ ((u0 : Nat) : Int))) && decide ((((z.L.getD 0 RD.d).xs.length : Nat) : Int) ≤ ((u1 : Nat) : Int))) && decide ((((z.R.getD 1 RD.d).xs.length : Nat) : Int) ≤ ((u2 : Nat) : Int))) && decide ((((z.L.getD 1 RD.d).xs.length : Nat) : Int) ≤ ((u3 : Nat) : Int))) with hb6 | hb6
   ·have hp6 := hb6; try simp only [Bool.and_eq_true, Bool.or_eq_true, Bool.not_eq_true', Bool.not_eq_false', Bool.and_eq_false_iff, Bool.or_eq_false_iff, decide_eq_true_eq, decide_eq_false_iff_not, beq_iff_eq, bne_iff_ne, beq_eq_false_iff_ne, bne_eq_false_iff_eq, ne_eq, Bool.false_eq_true, not_false_eq_true, not_true_eq_false, vIn_t, vIn_f] at hp6
    refine CE.draw (fun | 10 => some (fun _ wA uA wB => uA = vI ((((z.R.getD 2 RD.d).xs.length) : Nat) : Int) ∧ wA = wB) | _ => none) [0, 1, 2, 3, 4, 5, 6, 7, 8, 9, 10] [11, 12, 13] [] (by kernel_rfl) (by kernel_rfl) ?_
    have md9 : Mod [] w35 w35.drew := (Mod.refl _ _).drew
    generalize w35.drew = w36 at md9 ⊢
    refine DR.det (i := 0) rfl rfl (by kernel_rfl) (.free rfl) rfl rfl (fun wD mD => op_move rfl) ?_
    refine DR.det (i := 1) rfl rfl (by kernel_rfl) (.free rfl) rfl rfl (fun wD mD => op_move rfl) ?_
    refine DR.det (i := 2) rfl rfl (by kernel_rfl) (.yes rfl rfl rfl (ltb rfl) rfl hb6) rfl rfl (fun wD mD => op_move rfl) ?_
    refine DR.det (i := 3) rfl rfl (by kernel_rfl) (.yes rfl rfl rfl (ltb rfl) rfl hb6) rfl rfl (fun wD mD => op_move rfl) ?_
    refine DR.det (i := 4) rfl rfl (by kernel_rfl) (.yes rfl rfl rfl (ltb rfl) rfl hb6) rfl rfl (fun wD mD => op_indexSl (off' := 4) rfl rfl rfl Try.runUnderlying36 Try.sizeOf2 (by omega) (by omega) rfl) ?_
    refine DR.det (i := 5) rfl rfl (by kernel_rfl) (.yes rfl rfl rfl (ltb rfl) rfl hb6) rfl rfl (fun wD mD => op_load1 (i := 4) rfl Try.isAgg2 (((((((r33.ext m15).ext m18).ext m21).ext m24).ext m27).ext md9).ext mD).rng rfl rfl) ?_
    refine DR.det (i := 6) rfl rfl (by kernel_rfl) (.yes rfl rfl rfl (ltb rfl) rfl hb6) rfl rfl (fun wD mD => op_move rfl) ?_
    refine DR.det (i := 7) rfl rfl (by kernel_rfl) (.yes rfl rfl rfl (ltb rfl) rfl hb6) rfl rfl (fun wD mD => op_nilCheck rfl) ?_
    refine DR.det (i := 8) rfl rfl (by kernel_rfl) (.yes rfl rfl rfl (ltb rfl) rfl hb6) rfl rfl (fun wD mD => op_fieldAddr (off' := 4) rfl Try.runUnderlying60 rfl rfl Try.sizeOf26 rfl) ?_
    refine DR.det (i := 9) rfl rfl (by kernel_rfl) (.yes rfl rfl rfl (ltb rfl) rfl hb6) rfl rfl (fun wD mD => op_load1 (i := 2 * 2) rfl Try.isAgg26 (((((((r31.ext m15).ext m18).ext m21).ext m24).ext m27).ext md9).ext mD).rng rfl (olc_get0 l1 lPR (show 2 < 3 by omega))) ?_
    refine DR.call (i := 10) (fun uA => uA = vI ((((z.R.getD 2 RD.d).xs.length) : Nat) : Int)) rfl rfl (by kernel_rfl) (.yes rfl rfl rfl (ltb rfl) rfl hb6) rfl (ltb rfl) ⟨_, rfl⟩ (vs := [.func (.func 118) #[] #[], vS ((PR.getD 2 BC.d).b) 0 ((z.R.getD 2 RD.d).xs.length) ((PR.getD 2 BC.d).c)]) rfl (fun wD mD => oc_call (vs := [vS ((PR.getD 2 BC.d).b) 0 ((z.R.getD 2 RD.d).xs.length) ((PR.getD 2 BC.d).c)]) (cap := []) rfl rfl rfl Try.call118 (c_length32 ((z.R.getD 2 RD.d).xs.length) ((PR.getD 2 BC.d).c) (some ⟨(PR.getD 2 BC.d).b, 0, none⟩) wD)) ?_ ?_
    ·rintro w1 _ _ m1 ⟨rfl, rfl⟩; exact ⟨rfl, Mod.refl _ _⟩
    rintro _ rfl
    refine DR.done rfl ?_
    intro w37 m28
    refine WO.det (op_gei rfl rfl) rfl (.yes rfl rfl rfl (ltb rfl) rfl hb6) rfl rfl ?_
    refine WO.det (op_pick_t rfl hb6 rfl) rfl (.free rfl) rfl rfl ?_
    refine WO.det (op_assign rfl) rfl (.free rfl) rfl rfl ?_
    refine WO.end (NE.blk ?_)
    exact NE.cutend [(14, .bool ((((((stillF (z.s0) (z.s1)) && decide ((((z.R.getD 0 RD.d).xs.length : Nat) : Int) ≤ ((u0 : Nat) : Int))) && decide ((((z.L.getD 0 RD.d).xs.length : Nat) : Int) ≤ ((u1 : Nat) : Int))) && decide ((((z.R.getD 1 RD.d).xs.length : Nat) : Int) ≤ ((u2 : Nat) : Int))) && decide ((((z.L.getD 1 RD.d).xs.length : Nat) : Int) ≤ ((u3 : Nat) : Int))) && decide ((((z.R.getD 2 RD.d).xs.length : Nat) : Int) ≤ ((u4 : Nat) : Int)))), (13, vI ((i : Nat) : Int)), (0, vI ((most : Nat) : Int)), (1, vS e 0 6 ce), (2, .func (.func 66) #[] #[vP p 0]), (3, .func (.func 68) #[] #[vP p 0]), (8, vI 0), (9, vI 0), (10, vS w.heap.size 0 6 6), (44, vS e 0 6 ce), (45, vI 6), (46, vI 4)] ⟨(lk_bool (by simp only [hb6, Bool.true_and, Bool.false_and])), rfl, rfl, rfl, rfl, rfl, rfl, rfl, rfl, rfl, rfl, rfl, trivial⟩ ⟨rfl, (((Mod.refl [] w35).nt md9).nt m28)⟩
   ·have hp6 := hb6; try simp only [Bool.and_eq_true, Bool.or_eq_true, Bool.not_eq_true', Bool.not_eq_false', Bool.and_eq_false_iff, Bool.or_eq_false_iff, decide_eq_true_eq, decide_eq_false_iff_not, beq_iff_eq, bne_iff_ne, beq_eq_false_iff_ne, bne_eq_false_iff_eq, ne_eq, Bool.false_eq_true, not_false_eq_true, not_true_eq_false, vIn_t, vIn_f] at hp6
    refine CE.draw (fun _ => none) [0, 1, 2, 3, 4, 5, 6, 7, 8, 9, 10] [11, 12, 13] [] (by kernel_rfl) (by kernel_rfl) ?_
    have md10 : Mod [] w35 w35.drew := (Mod.refl _ _).drew
    generalize w35.drew = w38 at md10 ⊢
    refine DR.det (i := 0) rfl rfl (by kernel_rfl) (.free rfl) rfl rfl (fun wD mD => op_move rfl) ?_
    refine DR.det (i := 1) rfl rfl (by kernel_rfl) (.free rfl) rfl rfl (fun wD mD => op_move rfl) ?_
    refine DR.skip (i := 2) rfl (by kernel_rfl) (.no rfl rfl rfl (ltb rfl) rfl hb6) rfl (ltb rfl) ?_
    refine DR.skip (i := 3) rfl (by kernel_rfl) (.no rfl rfl rfl (ltb rfl) rfl hb6) rfl (ltb rfl) ?_
    refine DR.skip (i := 4) rfl (by kernel_rfl) (.no rfl rfl rfl (ltb rfl) rfl hb6) rfl (ltb rfl) ?_
    refine DR.skip (i := 5) rfl (by kernel_rfl) (.no rfl rfl rfl (ltb rfl) rfl hb6) rfl (ltb rfl) ?_
    refine DR.skip (i := 6) rfl (by kernel_rfl) (.no rfl rfl rfl (ltb rfl) rfl hb6) rfl (ltb rfl) ?_
    refine DR.skip (i := 7) rfl (by kernel_rfl) (.no rfl rfl rfl (ltb rfl) rfl hb6) rfl (ltb rfl) ?_
    refine DR.skip (i := 8) rfl (by kernel_rfl) (.no rfl rfl rfl (ltb rfl) rfl hb6) rfl (ltb rfl) ?_
    refine DR.skip (i := 9) rfl (by kernel_rfl) (.no rfl rfl rfl (ltb rfl) rfl hb6) rfl (ltb rfl) ?_
    refine DR.skip (i := 10) rfl (by kernel_rfl) (.no rfl rfl rfl (ltb rfl) rfl hb6) rfl (ltb rfl) ?_
    refine DR.done rfl ?_
    intro w39 m29
    refine WO.skip rfl (.no rfl rfl rfl (ltb rfl) rfl hb6) rfl (ltb rfl) ?_
    refine WO.det (op_pick_f rfl hb6 rfl) rfl (.free rfl) rfl rfl ?_
    refine WO.det (op_assign rfl) rfl (.free rfl) rfl rfl ?_
    refine WO.end (NE.blk ?_)
    exact NE.cutend [(14, .bool ((((((stillF (z.s0) (z.s1)) && decide ((((z.R.getD 0 RD.d).xs.length : Nat) : Int) ≤ ((u0 : Nat) : Int))) && decide ((((z.L.getD 0 RD.d).xs.length : Nat) : Int) ≤ ((u1 : Nat) : Int))) && decide ((((z.R.getD 1 RD.d).xs.length : Nat) : Int) ≤ ((u2 : Nat) : Int))) && decide ((((z.L.getD 1 RD.d).xs.length : Nat) : Int) ≤ ((u3 : Nat) : Int))) && decide ((((z.R.getD 2 RD.d).xs.length : Nat) : Int) ≤ ((u4 : Nat) : Int)))), (13, vI ((i : Nat) : Int)), (0, vI ((most : Nat) : Int)), (1, vS e 0 6 ce), (2, .func (.func 66) #[] #[vP p 0]), (3, .func (.func 68) #[] #[vP p 0]), (8, vI 0), (9, vI 0), (10, vS w.heap.size 0 6 6), (44, vS e 0 6 ce), (45, vI 6), (46, vI 4)] ⟨(lk_bool (by simp only [hb6, Bool.true_and, Bool.false_and])), rfl, rfl, rfl, rfl, rfl, rfl, rfl, rfl, rfl, rfl, rfl, trivial⟩ ⟨rfl, (((Mod.refl [] w35).nt md10).nt m29)⟩
  rintro _ w40 ⟨rfl, m30⟩
  refine NE.code (CE.region ?_)
  refine WL.det (op_add (r := 5) rfl rfl (by decide)) rfl rfl rfl ?_
  refine WL.det (op_move rfl) rfl rfl rfl ?_
  refine WL.end (NE.round (RN.one (CE.seq (CE.region ?_))))
  refine WL.det (op_lti rfl rfl) rfl rfl rfl ?_
  refine WL.end (NE.code (CE.seq ?_))
  refine CE.cond_t rfl rfl ?_
  refine CE.skip' (NE.code (CE.seq ?_))
  refine CE.cut (fun ρ W => ρ = [(14, .bool (((((((stillF (z.s0) (z.s1)) && decide ((((z.R.getD 0 RD.d).xs.length : Nat) : Int) ≤ ((u0 : Nat) : Int))) && decide ((((z.L.getD 0 RD.d).xs.length : Nat) : Int) ≤ ((u1 : Nat) : Int))) && decide ((((z.R.getD 1 RD.d).xs.length : Nat) : Int) ≤ ((u2 : Nat) : Int))) && decide ((((z.L.getD 1 RD.d).xs.length : Nat) : Int) ≤ ((u3 : Nat) : Int))) && decide ((((z.R.getD 2 RD.d).xs.length : Nat) : Int) ≤ ((u4 : Nat) : Int))) && decide ((((z.L.getD 2 RD.d).xs.length : Nat) : Int) ≤ ((u5 : Nat) : Int)))), (13, vI ((i : Nat) : Int)), (0, vI ((most : Nat) : Int)), (1, vS e 0 6 ce), (2, .func (.func 66) #[] #[vP p 0]), (3, .func (.func 68) #[] #[vP p 0]), (8, vI 0), (9, vI 0), (10, vS w.heap.size 0 6 6), (44, vS e 0 6 ce), (45, vI 6), (46, vI 5)] ∧ Mod [] w40 W) ?_ ?_
  ·refine CE.block (CE.seq (CE.region ?_))
   refine WL.det (op_move rfl) rfl rfl rfl ?_
   refine WL.det (op_indexSl (off' := 5) rfl rfl rfl Try.runUnderlying97 Try.sizeOf112 (by omega) (by omega) rfl) rfl rfl rfl ?_
   have r39 := ((((((((Rng.youngS rE (r23.ext m12) m13 (allge_cons lR allge_nil)).mod m14 (nC n7 (nC n8 (nC n9 (nC (lE (lL (rE.lt (Nat.succ_pos _)) lR)) (nA lPR (fun j hj => (gRe j hj)) (nA lPL (fun j hj => (gLe j hj)) nN))))))).ext m15).ext m18).ext m21).ext m24).ext m27).ext m30)
   refine WL.det (op_load1 (i := 5) rfl Try.isAgg112 r39 rfl rfl) rfl rfl rfl ?_
   iterate 2 refine WL.det (op_assign rfl) rfl rfl rfl ?_
   refine WL.end (NE.code ?_)
   rcases Bool.eq_false_or_eq_true ((((((stillF (z.s0) (z.s1)) && decide ((((z.R.getD 0 RD.d).xs.length : Nat) : Int) ≤ ((u0 : Nat) : Int))) && decide ((((z.L.getD 0 RD.d).xs.length : Nat) : Int) ≤ ((u1 : Nat) : Int))) && decide ((((z.R.getD 1 RD.d).xs.length : Nat) : Int) ≤ ((u2 : Nat) : Int))) && decide ((((z.L.getD 1 RD.d).xs.length : Nat) : Int) ≤ ((u3 : Nat) : Int))) && decide ((((z.R.getD 2 RD.d).xs.length : Nat) : Int) ≤ ((u4 : Nat) : Int))) with hb7 | hb7
   ·have hp7 := hb7; try simp only [Bool.and_eq_true, Bool.or_eq_true, Bool.not_eq_true', Bool.not_eq_false', Bool.and_eq_false_iff, Bool.or_eq_false_iff, decide_eq_true_eq, decide_eq_false_iff_not, beq_iff_eq, bne_iff_ne, beq_eq_false_iff_ne, bne_eq_false_iff_eq, ne_eq, Bool.false_eq_true, not_false_eq_true, not_true_eq_false, vIn_t, vIn_f] at hp7
    refine CE.draw (fun | 10 => some (fun _ wA uA wB => uA = vI ((((z.L.getD 2 RD.d).xs.length) : Nat) : Int) ∧ wA = wB) | _ => none) [0, 1, 2, 3, 4, 5, 6, 7, 8, 9, 10] [11, 12, 13] [] (by kernel_rfl) (by kernel_rfl) ?_
    have md11 : Mod [] w40 w40.drew := (Mod.refl _ _).drew
    generalize w40.drew = w41 at md11 ⊢
    refine DR.det (i := 0) rfl rfl (by kernel_rfl) (.free rfl) rfl rfl (fun wD mD => op_move rfl) ?_
    refine DR.det (i := 1) rfl rfl (by kernel_rfl) (.free rfl) rfl rfl (fun wD mD => op_move rfl) ?_
    refine DR.det (i := 2) rfl rfl (by kernel_rfl) (.yes rfl rfl rfl (ltb rfl) rfl hb7) rfl rfl (fun wD mD => op_move rfl) ?_
    refine DR.det (i := 3) rfl rfl (by kernel_rfl) (.yes rfl rfl rfl (ltb rfl) rfl hb7) rfl rfl (fun wD mD => op_move rfl) ?_
    refine DR.det (i := 4) rfl rfl (by kernel_rfl) (.yes rfl rfl rfl (ltb rfl) rfl hb7) rfl rfl (fun wD mD => op_indexSl (off' := 5) rfl rfl rfl Try.runUnderlying36 Try.sizeOf2 (by omega) (by omega) rfl) ?_
    refine DR.det (i := 5) rfl rfl (by kernel_rfl) (.yes rfl rfl rfl (ltb rfl) rfl hb7) rfl rfl (fun wD mD => op_load1 (i := 5) rfl Try.isAgg2 ((((((((r33.ext m15).ext m18).ext m21).ext m24).ext m27).ext m30).ext md11).ext mD).rng rfl rfl) ?_
    refine DR.det (i := 6) rfl rfl (by kernel_rfl) (.yes rfl rfl rfl (ltb rfl) rfl hb7) rfl rfl (fun wD mD => op_move rfl) ?_
    refine DR.det (i := 7) rfl rfl (by kernel_rfl) (.yes rfl rfl rfl (ltb rfl) rfl hb7) rfl rfl (fun wD mD => op_nilCheck rfl) ?_
    refine DR.det (i := 8) rfl rfl (by kernel_rfl) (.yes rfl rfl rfl (ltb rfl) rfl hb7) rfl rfl (fun wD mD => op_fieldAddr (off' := 4) rfl Try.runUnderlying60 rfl rfl Try.sizeOf26 rfl) ?_
    refine DR.det (i := 9) rfl rfl (by kernel_rfl) (.yes rfl rfl rfl (ltb rfl) rfl hb7) rfl rfl (fun wD mD => op_load1 (i := 2 * 2) rfl Try.isAgg26 ((((((((r32.ext m15).ext m18).ext m21).ext m24).ext m27).ext m30).ext md11).ext mD).rng rfl (olc_get0 l2 lPL (show 2 < 3 by omega))) ?_
    refine DR.call (i := 10) (fun uA => uA = vI ((((z.L.getD 2 RD.d).xs.length) : Nat) : Int)) rfl rfl (by kernel_rfl) (.yes rfl rfl rfl (ltb rfl) rfl hb7) rfl (ltb rfl) ⟨_, rfl⟩ (vs := [.func (.func 118) #[] #[], vS ((PL.getD 2 BC.d).b) 0 ((z.L.getD 2 RD.d).xs.length) ((PL.getD 2 BC.d).c)]) rfl (fun wD mD => oc_call (vs := [vS ((PL.getD 2 BC.d).b) 0 ((z.L.getD 2 RD.d).xs.length) ((PL.getD 2 BC.d).c)]) (cap := []) rfl rfl rfl Try.call118 (c_length32 ((z.L.getD 2 RD.d).xs.length) ((PL.getD 2 BC.d).c) (some ⟨(PL.getD 2 BC.d).b, 0, none⟩) wD)) ?_ ?_
    ·rintro w1 _ _ m1 ⟨rfl, rfl⟩; exact ⟨rfl, Mod.refl _ _⟩
    rintro _ rfl
    refine DR.done rfl ?_
    intro w42 m31
    refine WO.det (op_gei rfl rfl) rfl (.yes rfl rfl rfl (ltb rfl) rfl hb7) rfl rfl ?_
    refine WO.det (op_pick_t rfl hb7 rfl) rfl (.free rfl) rfl rfl ?_
    refine WO.det (op_assign rfl) rfl (.free rfl) rfl rfl ?_
    refine WO.end (NE.blk ?_)
    exact NE.cutend [(14, .bool (((((((stillF (z.s0) (z.s1)) && decide ((((z.R.getD 0 RD.d).xs.length : Nat) : Int) ≤ ((u0 : Nat) : Int))) && decide ((((z.L.getD 0 RD.d).xs.length : Nat) : Int) ≤ ((u1 : Nat) : Int))) && decide ((((z.R.getD 1 RD.d).xs.length : Nat) : Int) ≤ ((u2 : Nat) : Int))) && decide ((((z.L.getD 1 RD.d).xs.length : Nat) : Int) ≤ ((u3 : Nat) : Int))) && decide ((((z.R.getD 2 RD.d).xs.length : Nat) : Int) ≤ ((u4 : Nat) : Int))) && decide ((((z.L.getD 2 RD.d).xs.length : Nat) : Int) ≤ ((u5 : Nat) : Int)))), (13, vI ((i : Nat) : Int)), (0, vI ((most : Nat) : Int)), (1, vS e 0 6 ce), (2, .func (.func 66) #[] #[vP p 0]), (3, .func (.func 68) #[] #[vP p 0]), (8, vI 0), (9, vI 0), (10, vS w.heap.size 0 6 6), (44, vS e 0 6 ce), (45, vI 6), (46, vI 5)] ⟨(lk_bool (by simp only [hb7, Bool.true_and, Bool.false_and])), rfl, rfl, rfl, rfl, rfl, rfl, rfl, rfl, rfl, rfl, rfl, trivial⟩ ⟨rfl, (((Mod.refl [] w40).nt md11).nt m31)⟩
   ·have hp7 := hb7; try simp only [Bool.and_eq_true, Bool.or_eq_true, Bool.not_eq_true', Bool.not_eq_false', Bool.and_eq_false_iff, Bool.or_eq_false_iff, decide_eq_true_eq, decide_eq_false_iff_not, beq_iff_eq, bne_iff_ne, beq_eq_false_iff_ne, bne_eq_false_iff_eq, ne_eq, Bool.false_eq_true, not_false_eq_true, not_true_eq_false, vIn_t, vIn_f] at hp7
    refine CE.draw (fun _ => none) [0, 1, 2, 3, 4, 5, 6, 7, 8, 9, 10] [11, 12, 13] [] (by kernel_rfl) (by kernel_rfl) ?_
    have md12 : Mod [] w40 w40.drew := (Mod.refl _ _).drew
    generalize w40.drew = w43 at md12 ⊢
    refine DR.det (i := 0) rfl rfl (by kernel_rfl) (.free rfl) rfl rfl (fun wD mD => op_move rfl) ?_
    refine DR.det (i := 1) rfl rfl (by kernel_rfl) (.free rfl) rfl rfl (fun wD mD => op_move rfl) ?_
    refine DR.skip (i := 2) rfl (by kernel_rfl) (.no rfl rfl rfl (ltb rfl) rfl hb7) rfl (ltb rfl) ?_
    refine DR.skip (i := 3) rfl (by kernel_rfl) (.no rfl rfl rfl (ltb rfl) rfl hb7) rfl (ltb rfl) ?_
    refine DR.skip (i := 4) rfl (by kernel_rfl) (.no rfl rfl rfl (ltb rfl) rfl hb7) rfl (ltb rfl) ?_
    refine DR.skip (i := 5) rfl (by kernel_rfl) (.no rfl rfl rfl (ltb rfl) rfl hb7) rfl (ltb rfl) ?_
    refine DR.skip (i := 6) rfl (by kernel_rfl) (.no rfl rfl rfl (ltb rfl) rfl hb7) rfl (ltb rfl) ?_
    refine DR.skip (i := 7) rfl (by kernel_rfl) (.no rfl rfl rfl (ltb rfl) rfl hb7) rfl (ltb rfl) ?_
    refine DR.skip (i := 8) rfl (by kernel_rfl) (.no rfl rfl rfl (ltb rfl) rfl hb7) rfl (ltb rfl) ?_
    refine DR.skip (i := 9) rfl (by kernel_rfl) (.no rfl rfl rfl (ltb rfl) rfl hb7) rfl (ltb rfl) ?_
    refine DR.skip (i := 10) rfl (by kernel_rfl) (.no rfl rfl rfl (ltb rfl) rfl hb7) rfl (ltb rfl) ?_
    refine DR.done rfl ?_
    intro w44 m32
    refine WO.skip rfl (.no rfl rfl rfl (ltb rfl) rfl hb7) rfl (ltb rfl) ?_
    refine WO.det (op_pick_f rfl hb7 rfl) rfl (.free rfl) rfl rfl ?_
    refine WO.det (op_assign rfl) rfl (.free rfl) rfl rfl ?_
    refine WO.end (NE.blk ?_)
    exact NE.cutend [(14, .bool (((((((stillF (z.s0) (z.s1)) && decide ((((z.R.getD 0 RD.d).xs.length : Nat) : Int) ≤ ((u0 : Nat) : Int))) && decide ((((z.L.getD 0 RD.d).xs.length : Nat) : Int) ≤ ((u1 : Nat) : Int))) && decide ((((z.R.getD 1 RD.d).xs.length : Nat) : Int) ≤ ((u2 : Nat) : Int))) && decide ((((z.L.getD 1 RD.d).xs.length : Nat) : Int) ≤ ((u3 : Nat) : Int))) && decide ((((z.R.getD 2 RD.d).xs.length : Nat) : Int) ≤ ((u4 : Nat) : Int))) && decide ((((z.L.getD 2 RD.d).xs.length : Nat) : Int) ≤ ((u5 : Nat) : Int)))), (13, vI ((i : Nat) : Int)), (0, vI ((most : Nat) : Int)), (1, vS e 0 6 ce), (2, .func (.func 66) #[] #[vP p 0]), (3, .func (.func 68) #[] #[vP p 0]), (8, vI 0), (9, vI 0), (10, vS w.heap.size 0 6 6), (44, vS e 0 6 ce), (45, vI 6), (46, vI 5)] ⟨(lk_bool (by simp only [hb7, Bool.true_and, Bool.false_and])), rfl, rfl, rfl, rfl, rfl, rfl, rfl, rfl, rfl, rfl, rfl, trivial⟩ ⟨rfl, (((Mod.refl [] w40).nt md12).nt m32)⟩
  rintro _ w45 ⟨rfl, m33⟩
  have hE := sil3 g1 g2 q0 q1 q2 q3 q4 q5
  refine NE.code (CE.region ?_)
  refine WL.det (op_add (r := 6) rfl rfl (by decide)) rfl rfl rfl ?_
  refine WL.det (op_move rfl) rfl rfl rfl ?_
  refine WL.end (NE.round (RN.one (CE.seq (CE.region ?_))))
  refine WL.det (op_lti rfl rfl) rfl rfl rfl ?_
  refine WL.end (NE.code (CE.seq ?_))
  refine CE.cond_f rfl rfl ?_
  refine CE.exit' (XE.exit_then (XE.exit_then (XE.exit_here (NE.code (CE.seq (CE.seq (CE.region ?_)))))))
  refine WL.det (op_move rfl) rfl rfl rfl ?_
  refine WL.end (NE.code ?_)
  rcases Bool.eq_false_or_eq_true (((((((stillF (z.s0) (z.s1)) && decide ((((z.R.getD 0 RD.d).xs.length : Nat) : Int) ≤ ((u0 : Nat) : Int))) && decide ((((z.L.getD 0 RD.d).xs.length : Nat) : Int) ≤ ((u1 : Nat) : Int))) && decide ((((z.R.getD 1 RD.d).xs.length : Nat) : Int) ≤ ((u2 : Nat) : Int))) && decide ((((z.L.getD 1 RD.d).xs.length : Nat) : Int) ≤ ((u3 : Nat) : Int))) && decide ((((z.R.getD 2 RD.d).xs.length : Nat) : Int) ≤ ((u4 : Nat) : Int))) && decide ((((z.L.getD 2 RD.d).xs.length : Nat) : Int) ≤ ((u5 : Nat) : Int))) with hbE | hbE
  ·have hpE := hbE; try simp only [Bool.and_eq_true, Bool.or_eq_true, Bool.not_eq_true', Bool.not_eq_false', Bool.and_eq_false_iff, Bool.or_eq_false_iff, decide_eq_true_eq, decide_eq_false_iff_not, beq_iff_eq, bne_iff_ne, beq_eq_false_iff_ne, bne_eq_false_iff_eq, ne_eq, Bool.false_eq_true, not_false_eq_true, not_true_eq_false, vIn_t, vIn_f] at hpE
   refine CE.cond_t rfl hbE ?_
   refine CE.seq (CE.region ?_)
   refine WL.det (op_move rfl) rfl rfl rfl ?_
   iterate 2 refine WL.det (op_assign rfl) rfl rfl rfl ?_
   refine WL.end (NE.code (CE.ret' (XE.ret_then (XE.ret_blk (XE.ret_then (XE.ret_then (XE.ret_blk (XE.ret_then ?_))))))))
   refine XE.leaveT Try.results64 (res_tmp rfl (res_tmp rfl res_nil)) ?_
   refine ⟨?_, ((((((((((((((((((((((Mod.refl (p :: bR :: bL :: (PR.map BC.b ++ (PL.map BC.b ++ []))) w).nt m1).nt m2).then m3 ((aC (.inr lR) aN))).nt m4).then m5 ((aC (.inr lR) aN))).nt m6).then m7 ((aC (.inr lR) aN))).nt m8).then m9 ((aC (.inr lR) aN))).nt m10).then m11 ((aC (.inr lR) aN))).nt m12).then m13 ((aC (.inr lR) aN))).then m14 ((aC (.inl (by simp)) (aC (.inl (by simp)) (aC (.inl (by simp)) (aC (.inr lR) (aI (fun x hx => by simp only [List.mem_cons, List.mem_append, hx, true_or, or_true]) (aI (fun x hx => by simp only [List.mem_cons, List.mem_append, hx, true_or, or_true]) aN)))))))).nt m15).nt m18).nt m21).nt m24).nt m27).nt m30).nt m33)⟩
   all_goals first | (rw [← he, silG_yes (hzE _ (hE.symm.trans hbE)) (by omega)]; done) | (rw [← he, silG_no (by omega)]; done)
  ·have hpE := hbE; try simp only [Bool.and_eq_true, Bool.or_eq_true, Bool.not_eq_true', Bool.not_eq_false', Bool.and_eq_false_iff, Bool.or_eq_false_iff, decide_eq_true_eq, decide_eq_false_iff_not, beq_iff_eq, bne_iff_ne, beq_eq_false_iff_ne, bne_eq_false_iff_eq, ne_eq, Bool.false_eq_true, not_false_eq_true, not_true_eq_false, vIn_t, vIn_f] at hpE
   refine CE.cond_f rfl hbE ?_
   refine CE.skip' (NE.code (CE.seq (CE.region ?_)))
   refine WL.det (op_move rfl) rfl rfl rfl ?_
   have r40 := (((((((r30.ext m15).ext m18).ext m21).ext m24).ext m27).ext m30).ext m33)
   have r41 := (((((((r31.ext m15).ext m18).ext m21).ext m24).ext m27).ext m30).ext m33)
   have r42 := (((((((r32.ext m15).ext m18).ext m21).ext m24).ext m27).ext m30).ext m33)
   have r43 := (((((((((Rng.youngS rS ((Rng.youngS rS ((Rng.youngS rS ((Rng.youngS rS ((Rng.youngS rS ((Rng.youngS rS ((rS.ext m1).ext m2) m3 (allge_cons lR allge_nil)).ext m4) m5 (allge_cons lR allge_nil)).ext m6) m7 (allge_cons lR allge_nil)).ext m8) m9 (allge_cons lR allge_nil)).ext m10) m11 (allge_cons lR allge_nil)).ext m12) m13 (allge_cons lR allge_nil)).mod m14 (nC (Ne.symm n3) (nC (Ne.symm n5) (nC (Ne.symm n6) (nC (lE (lL (rS.lt (by have eL : List.length xS = 2 := lnS; rw [fl_length]; omega)) lR)) (nA lPR (fun j hj => (gRS j hj)) (nA lPL (fun j hj => (gLS j hj)) nN))))))).ext m15).ext m18).ext m21).ext m24).ext m27).ext m30).ext m33)
   refine WL.call (oc_call (vs := []) (cap := [vP p 0]) rfl rfl rfl Try.call68 (c_silP2 3 z.R 3 z.L 2 xS cR bR PR loR cL bL PL loL cS bS k kc0 kc1 kc2 (z.s0) (z.s1) op lo re sl p zn l1 l2 lnS (by first | assumption | exact rd_small (by assumption) (by assumption) | exact markD_small (by first | assumption | exact rd_small (by assumption) (by assumption)) _) (by first | assumption | exact rd_small (by assumption) (by assumption) | exact markD_small (by first | assumption | exact rd_small (by assumption) (by assumption)) _) lPR lPL (by first | assumption | omega) (by first | assumption | omega) (by first | assumption | omega) (by first | assumption | omega) (by assumption) (by assumption) b0 b1 (by exact hzn) w45 r40 r41 r42 r43 n1 n2 n3 n4 n5 n6 (((((((fm6.ext m15).ext m18).ext m21).ext m24).ext m27).ext m30).ext m33) (fun j hj => (gRp j hj)) (fun j hj => (gRR j hj)) (fun j hj => (gRL j hj)) (fun j hj => (gRS j hj)) (fun j q hj hq => (gPP j q hj hq)) (((((((fm7.ext m15).ext m18).ext m21).ext m24).ext m27).ext m30).ext m33) (fun j hj => (gLp j hj)) (fun j hj => (gLR j hj)) (fun j hj => (gLL j hj)) (fun j hj => (gLS j hj)))) rfl rfl (ltb rfl) ?_
   rintro _ w46 ⟨rfl, h13, h14, h15, h16, h17, h18, r44, r45, r46, fm8, fm9, m34⟩
   refine WL.end (NE.code (CE.seq (CE.region ?_)))
   refine WL.det (op_move rfl) rfl rfl rfl ?_
   refine WL.det (op_len rfl Try.runUnderlying97) rfl rfl rfl ?_
   refine WL.det (op_move rfl) rfl rfl rfl ?_
   refine WL.end (NE.code (CE.block ?_))
   refine CE.rounds 7 ?_
   refine RN.one (CE.seq (CE.region ?_))
   refine WL.det (op_lti rfl rfl) rfl rfl rfl ?_
   refine WL.end (NE.code (CE.seq ?_))
   refine CE.cond_t rfl rfl ?_
   refine CE.skip' (NE.code (CE.seq (CE.block (CE.seq (CE.region ?_)))))
   refine WL.det (op_move rfl) rfl rfl rfl ?_
   refine WL.det (op_indexSl (off' := 0) rfl rfl rfl Try.runUnderlying97 Try.sizeOf112 (by omega) (by omega) rfl) rfl rfl rfl ?_
   have r47 := ((((((((((Rng.youngS rE (r23.ext m12) m13 (allge_cons lR allge_nil)).mod m14 (nC n7 (nC n8 (nC n9 (nC (lE (lL (rE.lt (Nat.succ_pos _)) lR)) (nA lPR (fun j hj => (gRe j hj)) (nA lPL (fun j hj => (gLe j hj)) nN))))))).ext m15).ext m18).ext m21).ext m24).ext m27).ext m30).ext m33).mod m34 (nC n7 (nC n8 (nC n9 (nA lPR (fun j hj => (gRe j hj)) (nA lPL (fun j hj => (gLe j hj)) nN))))))
   refine WL.det (op_load1 (i := 0) rfl Try.isAgg112 r47 rfl rfl) rfl rfl rfl ?_
   iterate 2 refine WL.det (op_assign rfl) rfl rfl rfl ?_
   refine WL.end (NE.code (CE.seq (CE.region ?_)))
   iterate 2 refine WL.det (op_move rfl) rfl rfl rfl ?_
   refine WL.det (op_indexSl (off' := 0) rfl rfl rfl Try.runUnderlying36 Try.sizeOf2 (by omega) (by omega) rfl) rfl rfl rfl ?_
   have r48 := ((((((((r33.ext m15).ext m18).ext m21).ext m24).ext m27).ext m30).ext m33).mod m34 (nC (lG (lL q.lt lR)) (nC (lG (lL rR.lt lR)) (nC (lG (lL rL.lt lR)) (nA lPR (fun j hj => (lE (lL (OF.lt FR (Nat.lt_of_lt_of_eq hj lDR.symm)) lR))) (nA lPL (fun j hj => (lE (lL (OF.lt FL (Nat.lt_of_lt_of_eq hj lDL.symm)) lR))) nN))))))
   refine WL.det (op_load1 (i := 0) rfl Try.isAgg2 r48.rng rfl rfl) rfl rfl rfl ?_
   refine WL.det (op_add (r := ((u0 + 1 : Nat) : Int)) rfl rfl (w_i64 (by omega) (by omega))) rfl rfl rfl ?_
   refine WL.det (op_indexSl (off' := 0) rfl rfl rfl Try.runUnderlying36 Try.sizeOf2 (by omega) (by omega) rfl) rfl rfl rfl ?_
   refine WL.op0 (op_store (i := 0) (cs := [vI ((u0 + 1 : Nat) : Int)]) rfl rfl rfl Try.sizeOf2 rfl r48 rfl (lB rfl) rfl) rfl rfl ?_
   rintro _ w47 ⟨r49, m35, z8⟩
   have r50 : Row w47 w.heap.size 0 [vI ((u0 + 1 : Nat) : Int), vI ((u1 : Nat) : Int), vI ((u2 : Nat) : Int), vI ((u3 : Nat) : Int), vI ((u4 : Nat) : Int), vI ((u5 : Nat) : Int)] := Row.congr r49 rfl
   refine WL.end (NE.code (CE.seq (CE.region ?_)))
   refine WL.det (op_move rfl) rfl rfl rfl ?_
   refine WL.det (op_nilCheck rfl) rfl rfl rfl ?_
   refine WL.det (op_loadA (i := 0 * 2) (cs := [vS ((PR.getD 0 BC.d).b) 0 ((zn.R.getD 0 RD.d).xs.length) ((PR.getD 0 BC.d).c), vI ((zn.R.getD 0 RD.d).at_)]) rfl Try.isAgg60 Try.sizeOf60 (r45.mod m35 (nC (lE (lL rR.lt lR)) nN)).rng rfl (olc_at h17 lPR (show 0 < 3 by omega)) rfl) rfl rfl rfl ?_
   refine WL.call (oc_call (vs := [.agg #[vS ((PR.getD 0 BC.d).b) 0 ((zn.R.getD 0 RD.d).xs.length) ((PR.getD 0 BC.d).c), vI ((zn.R.getD 0 RD.d).at_)], vI 1]) (cap := []) rfl rfl rfl Try.call119 (c_backJ ((zn.R.getD 0 RD.d).xs.length) ((PR.getD 0 BC.d).c) ((PR.getD 0 BC.d).b) ((zn.R.getD 0 RD.d).xs) ((zn.R.getD 0 RD.d).at_) rfl (by first | omega | exact GoodD.ge (by assumption) _ (by omega)) (by first | omega | exact GoodD.lt (by assumption) _ (by omega)) (by first | omega | exact Nat.le_trans (Nat.le_of_eq (stR_lens _ _)) (by first | omega | exact z1 _) | exact Nat.le_trans (Nat.le_of_eq (endL_lens _)) (by first | omega | exact z2 _) | exact zn1 _ | exact zn2 _ | exact hzR _ | exact hzL _) w47 ((OF.row fm8 0 (Nat.lt_of_lt_of_eq (show 0 < 3 by omega) h17.symm)).mod m35 (nC (lE (lL (OF.lt FR (Nat.lt_of_lt_of_eq (show 0 < 3 by omega) lDR.symm)) lR)) nN)).rng)) rfl rfl (ltb rfl) ?_
   rintro _ w48 ⟨rfl, m36⟩
   refine WL.det (op_fne (c := !(fEq .f32 (((zn.R.getD 0 RD.d).xs).getD (((((zn.R.getD 0 RD.d).at_)).toNat + ((zn.R.getD 0 RD.d).xs.length) - 1) % ((zn.R.getD 0 RD.d).xs.length)) 0) 0)) rfl rfl rfl rfl rfl) rfl rfl rfl ?_
   refine WL.end (NE.code ?_)
   refine CE.cut (fun ρ W => ρ = [(13, vI ((i : Nat) : Int)), (0, vI ((most : Nat) : Int)), (1, vS e 0 6 ce), (2, .func (.func 66) #[] #[vP p 0]), (3, .func (.func 68) #[] #[vP p 0]), (8, vI 0), (9, vI 0), (10, vS w.heap.size 0 6 6), (69, vS e 0 6 ce), (70, vI 6), (71, vI 0)] ∧ Row W w.heap.size 0 [vI (((runF (fEq .f32 (((zn.R.getD 0 RD.d).xs).getD (((((zn.R.getD 0 RD.d).at_)).toNat + ((zn.R.getD 0 RD.d).xs.length) - 1) % ((zn.R.getD 0 RD.d).xs.length)) 0) 0) u0) : Nat) : Int), vI ((u1 : Nat) : Int), vI ((u2 : Nat) : Int), vI ((u3 : Nat) : Int), vI ((u4 : Nat) : Int), vI ((u5 : Nat) : Int)] ∧ Mod [w.heap.size] w48 W) ?_ ?_
   ·rcases Bool.eq_false_or_eq_true (fEq .f32 (((zn.R.getD 0 RD.d).xs).getD (((((zn.R.getD 0 RD.d).at_)).toNat + ((zn.R.getD 0 RD.d).xs.length) - 1) % ((zn.R.getD 0 RD.d).xs.length)) 0) 0) with hb8 | hb8
    ·refine CE.cond_f rfl (bnot_t hb8) ?_
     refine CE.skip' ?_
     exact NE.cutend [(13, vI ((i : Nat) : Int)), (0, vI ((most : Nat) : Int)), (1, vS e 0 6 ce), (2, .func (.func 66) #[] #[vP p 0]), (3, .func (.func 68) #[] #[vP p 0]), (8, vI 0), (9, vI 0), (10, vS w.heap.size 0 6 6), (69, vS e 0 6 ce), (70, vI 6), (71, vI 0)] ⟨rfl, rfl, rfl, rfl, rfl, rfl, rfl, rfl, rfl, rfl, rfl, trivial⟩ ⟨rfl, (Row.congr (r50.ext m36) (congrArg (fun t : Nat => ([vI ((t : Nat) : Int), vI ((u1 : Nat) : Int), vI ((u2 : Nat) : Int), vI ((u3 : Nat) : Int), vI ((u4 : Nat) : Int), vI ((u5 : Nat) : Int)] : List Value)) (runF_t hb8 u0).symm)), (Mod.refl [w.heap.size] w48)⟩
    ·refine CE.cond_t rfl (bnot_f hb8) ?_
     refine CE.region ?_
     iterate 2 refine WL.det (op_move rfl) rfl rfl rfl ?_
     refine WL.det (op_indexSl (off' := 0) rfl rfl rfl Try.runUnderlying36 Try.sizeOf2 (by omega) (by omega) rfl) rfl rfl rfl ?_
     refine WL.op0 (op_store (i := 0) (cs := [vI 0]) rfl rfl rfl Try.sizeOf2 rfl (r50.ext m36) rfl (lB rfl) rfl) rfl rfl ?_
     rintro _ w49 ⟨r51, m37, z9⟩
     have r52 : Row w49 w.heap.size 0 [vI 0, vI ((u1 : Nat) : Int), vI ((u2 : Nat) : Int), vI ((u3 : Nat) : Int), vI ((u4 : Nat) : Int), vI ((u5 : Nat) : Int)] := Row.congr r51 rfl
     refine WL.end ?_
     exact NE.cutend [(13, vI ((i : Nat) : Int)), (0, vI ((most : Nat) : Int)), (1, vS e 0 6 ce), (2, .func (.func 66) #[] #[vP p 0]), (3, .func (.func 68) #[] #[vP p 0]), (8, vI 0), (9, vI 0), (10, vS w.heap.size 0 6 6), (69, vS e 0 6 ce), (70, vI 6), (71, vI 0)] ⟨rfl, rfl, rfl, rfl, rfl, rfl, rfl, rfl, rfl, rfl, rfl, trivial⟩ ⟨rfl, (Row.congr r52 (congrArg (fun t : Nat => ([vI ((t : Nat) : Int), vI ((u1 : Nat) : Int), vI ((u2 : Nat) : Int), vI ((u3 : Nat) : Int), vI ((u4 : Nat) : Int), vI ((u5 : Nat) : Int)] : List Value)) (runF_f hb8 u0).symm)), ((Mod.refl [w.heap.size] w48).then m37 ((aC (.inl (by simp)) aN)))⟩
   rintro _ w50 ⟨rfl, r53, m38⟩
   refine NE.blk (NE.code (CE.region ?_))
   refine WL.det (op_add (r := 1) rfl rfl (by decide)) rfl rfl rfl ?_
   refine WL.det (op_move rfl) rfl rfl rfl ?_
   refine WL.end (NE.round (RN.one (CE.seq (CE.region ?_))))
   refine WL.det (op_lti rfl rfl) rfl rfl rfl ?_
   refine WL.end (NE.code (CE.seq ?_))
   refine CE.cond_t rfl rfl ?_
   refine CE.skip' (NE.code (CE.seq (CE.block (CE.seq (CE.region ?_)))))
   refine WL.det (op_move rfl) rfl rfl rfl ?_
   refine WL.det (op_indexSl (off' := 1) rfl rfl rfl Try.runUnderlying97 Try.sizeOf112 (by omega) (by omega) rfl) rfl rfl rfl ?_
   have r54 := (Rng.youngS rE ((Rng.youngS rE r47 m35 (allge_cons lR allge_nil)).ext m36) m38 (allge_cons lR allge_nil))
   refine WL.det (op_load1 (i := 1) rfl Try.isAgg112 r54 rfl rfl) rfl rfl rfl ?_
   iterate 2 refine WL.det (op_assign rfl) rfl rfl rfl ?_
   refine WL.end (NE.code (CE.seq (CE.region ?_)))
   iterate 2 refine WL.det (op_move rfl) rfl rfl rfl ?_
   refine WL.det (op_indexSl (off' := 1) rfl rfl rfl Try.runUnderlying36 Try.sizeOf2 (by omega) (by omega) rfl) rfl rfl rfl ?_
   refine WL.det (op_load1 (i := 1) rfl Try.isAgg2 r53.rng rfl rfl) rfl rfl rfl ?_
   refine WL.det (op_add (r := ((u1 + 1 : Nat) : Int)) rfl rfl (w_i64 (by omega) (by omega))) rfl rfl rfl ?_
   refine WL.det (op_indexSl (off' := 1) rfl rfl rfl Try.runUnderlying36 Try.sizeOf2 (by omega) (by omega) rfl) rfl rfl rfl ?_
   refine WL.op0 (op_store (i := 1) (cs := [vI ((u1 + 1 : Nat) : Int)]) rfl rfl rfl Try.sizeOf2 rfl r53 rfl (lB rfl) rfl) rfl rfl ?_
   rintro _ w51 ⟨r55, m39, z10⟩
   have r56 : Row w51 w.heap.size 0 [vI (((runF (fEq .f32 (((zn.R.getD 0 RD.d).xs).getD (((((zn.R.getD 0 RD.d).at_)).toNat + ((zn.R.getD 0 RD.d).xs.length) - 1) % ((zn.R.getD 0 RD.d).xs.length)) 0) 0) u0) : Nat) : Int), vI ((u1 + 1 : Nat) : Int), vI ((u2 : Nat) : Int), vI ((u3 : Nat) : Int), vI ((u4 : Nat) : Int), vI ((u5 : Nat) : Int)] := Row.congr r55 rfl
   refine WL.end (NE.code (CE.seq (CE.region ?_)))
   refine WL.det (op_move rfl) rfl rfl rfl ?_
   refine WL.det (op_nilCheck rfl) rfl rfl rfl ?_
   have r57 := ((((r46.mod m35 (nC (lE (lL rL.lt lR)) nN)).ext m36).mod m38 (nC (lE (lL rL.lt lR)) nN)).mod m39 (nC (lE (lL rL.lt lR)) nN))
   refine WL.det (op_loadA (i := 0 * 2) (cs := [vS ((PL.getD 0 BC.d).b) 0 ((zn.L.getD 0 RD.d).xs.length) ((PL.getD 0 BC.d).c), vI ((zn.L.getD 0 RD.d).at_)]) rfl Try.isAgg60 Try.sizeOf60 r57.rng rfl (olc_at h18 lPL (show 0 < 3 by omega)) rfl) rfl rfl rfl ?_
   have fm10 : OF loL w51 zn.L PL := ((((fm9.mod m35 (fun j hj => (nC (lE (lL (OF.lt FL (Nat.lt_of_lt_of_eq (Nat.lt_of_lt_of_eq hj h18) lDL.symm)) lR)) nN))).ext m36).mod m38 (fun j hj => (nC (lE (lL (OF.lt FL (Nat.lt_of_lt_of_eq (Nat.lt_of_lt_of_eq hj h18) lDL.symm)) lR)) nN))).mod m39 (fun j hj => (nC (lE (lL (OF.lt FL (Nat.lt_of_lt_of_eq (Nat.lt_of_lt_of_eq hj h18) lDL.symm)) lR)) nN)))
   refine WL.call (oc_call (vs := [.agg #[vS ((PL.getD 0 BC.d).b) 0 ((zn.L.getD 0 RD.d).xs.length) ((PL.getD 0 BC.d).c), vI ((zn.L.getD 0 RD.d).at_)], vI 1]) (cap := []) rfl rfl rfl Try.call119 (c_backJ ((zn.L.getD 0 RD.d).xs.length) ((PL.getD 0 BC.d).c) ((PL.getD 0 BC.d).b) ((zn.L.getD 0 RD.d).xs) ((zn.L.getD 0 RD.d).at_) rfl (by first | omega | exact GoodD.ge (by assumption) _ (by omega)) (by first | omega | exact GoodD.lt (by assumption) _ (by omega)) (by first | omega | exact Nat.le_trans (Nat.le_of_eq (stR_lens _ _)) (by first | omega | exact z1 _) | exact Nat.le_trans (Nat.le_of_eq (endL_lens _)) (by first | omega | exact z2 _) | exact zn1 _ | exact zn2 _ | exact hzR _ | exact hzL _) w51 (OF.row fm10 0 (Nat.lt_of_lt_of_eq (show 0 < 3 by omega) h18.symm)).rng)) rfl rfl (ltb rfl) ?_
   rintro _ w52 ⟨rfl, m40⟩
   refine WL.det (op_fne (c := !(fEq .f32 (((zn.L.getD 0 RD.d).xs).getD (((((zn.L.getD 0 RD.d).at_)).toNat + ((zn.L.getD 0 RD.d).xs.length) - 1) % ((zn.L.getD 0 RD.d).xs.length)) 0) 0)) rfl rfl rfl rfl rfl) rfl rfl rfl ?_
   refine WL.end (NE.code ?_)
   refine CE.cut (fun ρ W => ρ = [(13, vI ((i : Nat) : Int)), (0, vI ((most : Nat) : Int)), (1, vS e 0 6 ce), (2, .func (.func 66) #[] #[vP p 0]), (3, .func (.func 68) #[] #[vP p 0]), (8, vI 0), (9, vI 0), (10, vS w.heap.size 0 6 6), (69, vS e 0 6 ce), (70, vI 6), (71, vI 1)] ∧ Row W w.heap.size 0 [vI (((runF (fEq .f32 (((zn.R.getD 0 RD.d).xs).getD (((((zn.R.getD 0 RD.d).at_)).toNat + ((zn.R.getD 0 RD.d).xs.length) - 1) % ((zn.R.getD 0 RD.d).xs.length)) 0) 0) u0) : Nat) : Int), vI (((runF (fEq .f32 (((zn.L.getD 0 RD.d).xs).getD (((((zn.L.getD 0 RD.d).at_)).toNat + ((zn.L.getD 0 RD.d).xs.length) - 1) % ((zn.L.getD 0 RD.d).xs.length)) 0) 0) u1) : Nat) : Int), vI ((u2 : Nat) : Int), vI ((u3 : Nat) : Int), vI ((u4 : Nat) : Int), vI ((u5 : Nat) : Int)] ∧ Mod [w.heap.size] w52 W) ?_ ?_
   ·rcases Bool.eq_false_or_eq_true (fEq .f32 (((zn.L.getD 0 RD.d).xs).getD (((((zn.L.getD 0 RD.d).at_)).toNat + ((zn.L.getD 0 RD.d).xs.length) - 1) % ((zn.L.getD 0 RD.d).xs.length)) 0) 0) with hb9 | hb9
    ·refine CE.cond_f rfl (bnot_t hb9) ?_
     refine CE.skip' ?_
     exact NE.cutend [(13, vI ((i : Nat) : Int)), (0, vI ((most : Nat) : Int)), (1, vS e 0 6 ce), (2, .func (.func 66) #[] #[vP p 0]), (3, .func (.func 68) #[] #[vP p 0]), (8, vI 0), (9, vI 0), (10, vS w.heap.size 0 6 6), (69, vS e 0 6 ce), (70, vI 6), (71, vI 1)] ⟨rfl, rfl, rfl, rfl, rfl, rfl, rfl, rfl, rfl, rfl, rfl, trivial⟩ ⟨rfl, (Row.congr (r56.ext m40) (congrArg (fun t : Nat => ([vI (((runF (fEq .f32 (((zn.R.getD 0 RD.d).xs).getD (((((zn.R.getD 0 RD.d).at_)).toNat + ((zn.R.getD 0 RD.d).xs.length) - 1) % ((zn.R.getD 0 RD.d).xs.length)) 0) 0) u0) : Nat) : Int), vI ((t : Nat) : Int), vI ((u2 : Nat) : Int), vI ((u3 : Nat) : Int), vI ((u4 : Nat) : Int), vI ((u5 : Nat) : Int)] : List Value)) (runF_t hb9 u1).symm)), (Mod.refl [w.heap.size] w52)⟩
    ·refine CE.cond_t rfl (bnot_f hb9) ?_
     refine CE.region ?_
     iterate 2 refine WL.det (op_move rfl) rfl rfl rfl ?_
     refine WL.det (op_indexSl (off' := 1) rfl rfl rfl Try.runUnderlying36 Try.sizeOf2 (by omega) (by omega) rfl) rfl rfl rfl ?_
     refine WL.op0 (op_store (i := 1) (cs := [vI 0]) rfl rfl rfl Try.sizeOf2 rfl (r56.ext m40) rfl (lB rfl) rfl) rfl rfl ?_
     rintro _ w53 ⟨r58, m41, z11⟩
     have r59 : Row w53 w.heap.size 0 [vI (((runF (fEq .f32 (((zn.R.getD 0 RD.d).xs).getD (((((zn.R.getD 0 RD.d).at_)).toNat + ((zn.R.getD 0 RD.d).xs.length) - 1) % ((zn.R.getD 0 RD.d).xs.length)) 0) 0) u0) : Nat) : Int), vI 0, vI ((u2 : Nat) : Int), vI ((u3 : Nat) : Int), vI ((u4 : Nat) : Int), vI ((u5 : Nat) : Int)] := Row.congr r58 rfl
     refine WL.end ?_
     exact NE.cutend [(13, vI ((i : Nat) : Int)), (0, vI ((most : Nat) : Int)), (1, vS e 0 6 ce), (2, .func (.func 66) #[] #[vP p 0]), (3, .func (.func 68) #[] #[vP p 0]), (8, vI 0), (9, vI 0), (10, vS w.heap.size 0 6 6), (69, vS e 0 6 ce), (70, vI 6), (71, vI 1)] ⟨rfl, rfl, rfl, rfl, rfl, rfl, rfl, rfl, rfl, rfl, rfl, trivial⟩ ⟨rfl, (Row.congr r59 (congrArg (fun t : Nat => ([vI (((runF (fEq .f32 (((zn.R.getD 0 RD.d).xs).getD (((((zn.R.getD 0 RD.d).at_)).toNat + ((zn.R.getD 0 RD.d).xs.length) - 1) % ((zn.R.getD 0 RD.d).xs.length)) 0) 0) u0) : Nat) : Int), vI ((t : Nat) : Int), vI ((u2 : Nat) : Int), vI ((u3 : Nat) : Int), vI ((u4 : Nat) : Int), vI ((u5 : Nat) : Int)] : List Value)) (runF_f hb9 u1).symm)), ((Mod.refl [w.heap.size] w52).then m41 ((aC (.inl (by simp)) aN)))⟩
   rintro _ w54 ⟨rfl, r60, m42⟩
   refine NE.blk (NE.code (CE.region ?_))
   refine WL.det (op_add (r := 2) rfl rfl (by decide)) rfl rfl rfl ?_
   refine WL.det (op_move rfl) rfl rfl rfl ?_
   refine WL.end (NE.round (RN.one (CE.seq (CE.region ?_))))
   refine WL.det (op_lti rfl rfl) rfl rfl rfl ?_
   refine WL.end (NE.code (CE.seq ?_))
   refine CE.cond_t rfl rfl ?_
   refine CE.skip' (NE.code (CE.seq (CE.block (CE.seq (CE.region ?_)))))
   refine WL.det (op_move rfl) rfl rfl rfl ?_
   refine WL.det (op_indexSl (off' := 2) rfl rfl rfl Try.runUnderlying97 Try.sizeOf112 (by omega) (by omega) rfl) rfl rfl rfl ?_
   have r61 := (Rng.youngS rE ((Rng.youngS rE r54 m39 (allge_cons lR allge_nil)).ext m40) m42 (allge_cons lR allge_nil))
   refine WL.det (op_load1 (i := 2) rfl Try.isAgg112 r61 rfl rfl) rfl rfl rfl ?_
   iterate 2 refine WL.det (op_assign rfl) rfl rfl rfl ?_
   refine WL.end (NE.code (CE.seq (CE.region ?_)))
   iterate 2 refine WL.det (op_move rfl) rfl rfl rfl ?_
   refine WL.det (op_indexSl (off' := 2) rfl rfl rfl Try.runUnderlying36 Try.sizeOf2 (by omega) (by omega) rfl) rfl rfl rfl ?_
   refine WL.det (op_load1 (i := 2) rfl Try.isAgg2 r60.rng rfl rfl) rfl rfl rfl ?_
   refine WL.det (op_add (r := ((u2 + 1 : Nat) : Int)) rfl rfl (w_i64 (by omega) (by omega))) rfl rfl rfl ?_
   refine WL.det (op_indexSl (off' := 2) rfl rfl rfl Try.runUnderlying36 Try.sizeOf2 (by omega) (by omega) rfl) rfl rfl rfl ?_
   refine WL.op0 (op_store (i := 2) (cs := [vI ((u2 + 1 : Nat) : Int)]) rfl rfl rfl Try.sizeOf2 rfl r60 rfl (lB rfl) rfl) rfl rfl ?_
   rintro _ w55 ⟨r62, m43, z12⟩
   have r63 : Row w55 w.heap.size 0 [vI (((runF (fEq .f32 (((zn.R.getD 0 RD.d).xs).getD (((((zn.R.getD 0 RD.d).at_)).toNat + ((zn.R.getD 0 RD.d).xs.length) - 1) % ((zn.R.getD 0 RD.d).xs.length)) 0) 0) u0) : Nat) : Int), vI (((runF (fEq .f32 (((zn.L.getD 0 RD.d).xs).getD (((((zn.L.getD 0 RD.d).at_)).toNat + ((zn.L.getD 0 RD.d).xs.length) - 1) % ((zn.L.getD 0 RD.d).xs.length)) 0) 0) u1) : Nat) : Int), vI ((u2 + 1 : Nat) : Int), vI ((u3 : Nat) : Int), vI ((u4 : Nat) : Int), vI ((u5 : Nat) : Int)] := Row.congr r62 rfl
   refine WL.end (NE.code (CE.seq (CE.region ?_)))
   refine WL.det (op_move rfl) rfl rfl rfl ?_
   refine WL.det (op_nilCheck rfl) rfl rfl rfl ?_
   have r64 := (((((((r45.mod m35 (nC (lE (lL rR.lt lR)) nN)).ext m36).mod m38 (nC (lE (lL rR.lt lR)) nN)).mod m39 (nC (lE (lL rR.lt lR)) nN)).ext m40).mod m42 (nC (lE (lL rR.lt lR)) nN)).mod m43 (nC (lE (lL rR.lt lR)) nN))
   refine WL.det (op_loadA (i := 1 * 2) (cs := [vS ((PR.getD 1 BC.d).b) 0 ((zn.R.getD 1 RD.d).xs.length) ((PR.getD 1 BC.d).c), vI ((zn.R.getD 1 RD.d).at_)]) rfl Try.isAgg60 Try.sizeOf60 r64.rng rfl (olc_at h17 lPR (show 1 < 3 by omega)) rfl) rfl rfl rfl ?_
   have fm11 : OF loR w55 zn.R PR := (((((((fm8.mod m35 (fun j hj => (nC (lE (lL (OF.lt FR (Nat.lt_of_lt_of_eq (Nat.lt_of_lt_of_eq hj h17) lDR.symm)) lR)) nN))).ext m36).mod m38 (fun j hj => (nC (lE (lL (OF.lt FR (Nat.lt_of_lt_of_eq (Nat.lt_of_lt_of_eq hj h17) lDR.symm)) lR)) nN))).mod m39 (fun j hj => (nC (lE (lL (OF.lt FR (Nat.lt_of_lt_of_eq (Nat.lt_of_lt_of_eq hj h17) lDR.symm)) lR)) nN))).ext m40).mod m42 (fun j hj => (nC (lE (lL (OF.lt FR (Nat.lt_of_lt_of_eq (Nat.lt_of_lt_of_eq hj h17) lDR.symm)) lR)) nN))).mod m43 (fun j hj => (nC (lE (lL (OF.lt FR (Nat.lt_of_lt_of_eq (Nat.lt_of_lt_of_eq hj h17) lDR.symm)) lR)) nN)))
   refine WL.call (oc_call (vs := [.agg #[vS ((PR.getD 1 BC.d).b) 0 ((zn.R.getD 1 RD.d).xs.length) ((PR.getD 1 BC.d).c), vI ((zn.R.getD 1 RD.d).at_)], vI 1]) (cap := []) rfl rfl rfl Try.call119 (c_backJ ((zn.R.getD 1 RD.d).xs.length) ((PR.getD 1 BC.d).c) ((PR.getD 1 BC.d).b) ((zn.R.getD 1 RD.d).xs) ((zn.R.getD 1 RD.d).at_) rfl (by first | omega | exact GoodD.ge (by assumption) _ (by omega)) (by first | omega | exact GoodD.lt (by assumption) _ (by omega)) (by first | omega | exact Nat.le_trans (Nat.le_of_eq (stR_lens _ _)) (by first | omega | exact z1 _) | exact Nat.le_trans (Nat.le_of_eq (endL_lens _)) (by first | omega | exact z2 _) | exact zn1 _ | exact zn2 _ | exact hzR _ | exact hzL _) w55 (OF.row fm11 1 (Nat.lt_of_lt_of_eq (show 1 < 3 by omega) h17.symm)).rng)) rfl rfl (ltb rfl) ?_
   rintro _ w56 ⟨rfl, m44⟩
   refine WL.det (op_fne (c := !(fEq .f32 (((zn.R.getD 1 RD.d).xs).getD (((((zn.R.getD 1 RD.d).at_)).toNat + ((zn.R.getD 1 RD.d).xs.length) - 1) % ((zn.R.getD 1 RD.d).xs.length)) 0) 0)) rfl rfl rfl rfl rfl) rfl rfl rfl ?_
   refine WL.end (NE.code ?_)
   refine CE.cut (fun ρ W => ρ = [(13, vI ((i : Nat) : Int)), (0, vI ((most : Nat) : Int)), (1, vS e 0 6 ce), (2, .func (.func 66) #[] #[vP p 0]), (3, .func (.func 68) #[] #[vP p 0]), (8, vI 0), (9, vI 0), (10, vS w.heap.size 0 6 6), (69, vS e 0 6 ce), (70, vI 6), (71, vI 2)] ∧ Row W w.heap.size 0 [vI (((runF (fEq .f32 (((zn.R.getD 0 RD.d).xs).getD (((((zn.R.getD 0 RD.d).at_)).toNat + ((zn.R.getD 0 RD.d).xs.length) - 1) % ((zn.R.getD 0 RD.d).xs.length)) 0) 0) u0) : Nat) : Int), vI (((runF (fEq .f32 (((zn.L.getD 0 RD.d).xs).getD (((((zn.L.getD 0 RD.d).at_)).toNat + ((zn.L.getD 0 RD.d).xs.length) - 1) % ((zn.L.getD 0 RD.d).xs.length)) 0) 0) u1) : Nat) : Int), vI (((runF (fEq .f32 (((zn.R.getD 1 RD.d).xs).getD (((((zn.R.getD 1 RD.d).at_)).toNat + ((zn.R.getD 1 RD.d).xs.length) - 1) % ((zn.R.getD 1 RD.d).xs.length)) 0) 0) u2) : Nat) : Int), vI ((u3 : Nat) : Int), vI ((u4 : Nat) : Int), vI ((u5 : Nat) : Int)] ∧ Mod [w.heap.size] w56 W) ?_ ?_
   ·rcases Bool.eq_false_or_eq_true (fEq .f32 (((zn.R.getD 1 RD.d).xs).getD (((((zn.R.getD 1 RD.d).at_)).toNat + ((zn.R.getD 1 RD.d).xs.length) - 1) % ((zn.R.getD 1 RD.d).xs.length)) 0) 0) with hb10 | hb10
    ·refine CE.cond_f rfl (bnot_t hb10) ?_
     refine CE.skip' ?_
     exact NE.cutend [(13, vI ((i : Nat) : Int)), (0, vI ((most : Nat) : Int)), (1, vS e 0 6 ce), (2, .func (.func 66) #[] #[vP p 0]), (3, .func (.func 68) #[] #[vP p 0]), (8, vI 0), (9, vI 0), (10, vS w.heap.size 0 6 6), (69, vS e 0 6 ce), (70, vI 6), (71, vI 2)] ⟨rfl, rfl, rfl, rfl, rfl, rfl, rfl, rfl, rfl, rfl, rfl, trivial⟩ ⟨rfl, (Row.congr (r63.ext m44) (congrArg (fun t : Nat => ([vI (((runF (fEq .f32 (((zn.R.getD 0 RD.d).xs).getD (((((zn.R.getD 0 RD.d).at_)).toNat + ((zn.R.getD 0 RD.d).xs.length) - 1) % ((zn.R.getD 0 RD.d).xs.length)) 0) 0) u0) : Nat) : Int), vI (((runF (fEq .f32 (((zn.L.getD 0 RD.d).xs).getD (((((zn.L.getD 0 RD.d).at_)).toNat + ((zn.L.getD 0 RD.d).xs.length) - 1) % ((zn.L.getD 0 RD.d).xs.length)) 0) 0) u1) : Nat) : Int), vI ((t : Nat) : Int), vI ((u3 : Nat) : Int), vI ((u4 : Nat) : Int), vI ((u5 : Nat) : Int)] : List Value)) (runF_t hb10 u2).symm)), (Mod.refl [w.heap.size] w56)⟩
    ·refine CE.cond_t rfl (bnot_f hb10) ?_
     refine CE.region ?_
     iterate 2 refine WL.det (op_move rfl) rfl rfl rfl ?_
     refine WL.det (op_indexSl (off' := 2) rfl rfl rfl Try.runUnderlying36 Try.sizeOf2 (by omega) (by omega) rfl) rfl rfl rfl ?_
     refine WL.op0 (op_store (i := 2) (cs := [vI 0]) rfl rfl rfl Try.sizeOf2 rfl (r63.ext m44) rfl (lB rfl) rfl) rfl rfl ?_
     rintro _ w57 ⟨r65, m45, z13⟩
     have r66 : Row w57 w.heap.size 0 [vI (((runF (fEq .f32 (((zn.R.getD 0 RD.d).xs).getD (((((zn.R.getD 0 RD.d).at_)).toNat + ((zn.R.getD 0 RD.d).xs.length) - 1) % ((zn.R.getD 0 RD.d).xs.length)) 0) 0) u0) : Nat) : Int), vI (((runF (fEq .f32 (((zn.L.getD 0 RD.d).xs).getD (((((zn.L.getD 0 RD.d).at_)).toNat + ((zn.L.getD 0 RD.d).xs.length) - 1) % ((zn.L.getD 0 RD.d).xs.length)) 0) 0) u1) : Nat) : Int), vI 0, vI ((u3 : Nat) : Int), vI ((u4 : Nat) : Int), vI ((u5 : Nat) : Int)] := Row.congr r65 rfl
     refine WL.end ?_
     exact NE.cutend [(13, vI ((i : Nat) : Int)), (0, vI ((most : Nat) : Int)), (1, vS e 0 6 ce), (2, .func (.func 66) #[] #[vP p 0]), (3, .func (.func 68) #[] #[vP p 0]), (8, vI 0), (9, vI 0), (10, vS w.heap.size 0 6 6), (69, vS e 0 6 ce), (70, vI 6), (71, vI 2)] ⟨rfl, rfl, rfl, rfl, rfl, rfl, rfl, rfl, rfl, rfl, rfl, trivial⟩ ⟨rfl, (Row.congr r66 (congrArg (fun t : Nat => ([vI (((runF (fEq .f32 (((zn.R.getD 0 RD.d).xs).getD (((((zn.R.getD 0 RD.d).at_)).toNat + ((zn.R.getD 0 RD.d).xs.length) - 1) % ((zn.R.getD 0 RD.d).xs.length)) 0) 0) u0) : Nat) : Int), vI (((runF (fEq .f32 (((zn.L.getD 0 RD.d).xs).getD (((((zn.L.getD 0 RD.d).at_)).toNat + ((zn.L.getD 0 RD.d).xs.length) - 1) % ((zn.L.getD 0 RD.d).xs.length)) 0) 0) u1) : Nat) : Int), vI ((t : Nat) : Int), vI ((u3 : Nat) : Int), vI ((u4 : Nat) : Int), vI ((u5 : Nat) : Int)] : List Value)) (runF_f hb10 u2).symm)), ((Mod.refl [w.heap.size] w56).then m45 ((aC (.inl (by simp)) aN)))⟩
   rintro _ w58 ⟨rfl, r67, m46⟩
   refine NE.blk (NE.code (CE.region ?_))
   refine WL.det (op_add (r := 3) rfl rfl (by decide)) rfl rfl rfl ?_
   refine WL.det (op_move rfl) rfl rfl rfl ?_
   refine WL.end (NE.round (RN.one (CE.seq (CE.region ?_))))
   refine WL.det (op_lti rfl rfl) rfl rfl rfl ?_
   refine WL.end (NE.code (CE.seq ?_))
   refine CE.cond_t rfl rfl ?_
   refine CE.skip' (NE.code (CE.seq (CE.block (CE.seq (CE.region ?_)))))
   refine WL.det (op_move rfl) rfl rfl rfl ?_
   refine WL.det (op_indexSl (off' := 3) rfl rfl rfl Try.runUnderlying97 Try.sizeOf112 (by omega) (by omega) rfl) rfl rfl rfl ?_
   have r68 := (Rng.youngS rE ((Rng.youngS rE r61 m43 (allge_cons lR allge_nil)).ext m44) m46 (allge_cons lR allge_nil))
   refine WL.det (op_load1 (i := 3) rfl Try.isAgg112 r68 rfl rfl) rfl rfl rfl ?_
   iterate 2 refine WL.det (op_assign rfl) rfl rfl rfl ?_
   refine WL.end (NE.code (CE.seq (CE.region ?_)))
   iterate 2 refine WL.det (op_move rfl) rfl rfl rfl ?_
   refine WL.det (op_indexSl (off' := 3) rfl rfl rfl Try.runUnderlying36 Try.sizeOf2 (by omega) (by omega) rfl) rfl rfl rfl ?_
   refine WL.det (op_load1 (i := 3) rfl Try.isAgg2 r67.rng rfl rfl) rfl rfl rfl ?_
   refine WL.det (op_add (r := ((u3 + 1 : Nat) : Int)) rfl rfl (w_i64 (by omega) (by omega))) rfl rfl rfl ?_
   refine WL.det (op_indexSl (off' := 3) rfl rfl rfl Try.runUnderlying36 Try.sizeOf2 (by omega) (by omega) rfl) rfl rfl rfl ?_
   refine WL.op0 (op_store (i := 3) (cs := [vI ((u3 + 1 : Nat) : Int)]) rfl rfl rfl Try.sizeOf2 rfl r67 rfl (lB rfl) rfl) rfl rfl ?_
   rintro _ w59 ⟨r69, m47, z14⟩
   have r70 : Row w59 w.heap.size 0 [vI (((runF (fEq .f32 (((zn.R.getD 0 RD.d).xs).getD (((((zn.R.getD 0 RD.d).at_)).toNat + ((zn.R.getD 0 RD.d).xs.length) - 1) % ((zn.R.getD 0 RD.d).xs.length)) 0) 0) u0) : Nat) : Int), vI (((runF (fEq .f32 (((zn.L.getD 0 RD.d).xs).getD (((((zn.L.getD 0 RD.d).at_)).toNat + ((zn.L.getD 0 RD.d).xs.length) - 1) % ((zn.L.getD 0 RD.d).xs.length)) 0) 0) u1) : Nat) : Int), vI (((runF (fEq .f32 (((zn.R.getD 1 RD.d).xs).getD (((((zn.R.getD 1 RD.d).at_)).toNat + ((zn.R.getD 1 RD.d).xs.length) - 1) % ((zn.R.getD 1 RD.d).xs.length)) 0) 0) u2) : Nat) : Int), vI ((u3 + 1 : Nat) : Int), vI ((u4 : Nat) : Int), vI ((u5 : Nat) : Int)] := Row.congr r69 rfl
   refine WL.end (NE.code (CE.seq (CE.region ?_)))
   refine WL.det (op_move rfl) rfl rfl rfl ?_
   refine WL.det (op_nilCheck rfl) rfl rfl rfl ?_
   have r71 := ((((((r57.ext m40).mod m42 (nC (lE (lL rL.lt lR)) nN)).mod m43 (nC (lE (lL rL.lt lR)) nN)).ext m44).mod m46 (nC (lE (lL rL.lt lR)) nN)).mod m47 (nC (lE (lL rL.lt lR)) nN))
   refine WL.det (op_loadA (i := 1 * 2) (cs := [vS ((PL.getD 1 BC.d).b) 0 ((zn.L.getD 1 RD.d).xs.length) ((PL.getD 1 BC.d).c), vI ((zn.L.getD 1 RD.d).at_)]) rfl Try.isAgg60 Try.sizeOf60 r71.rng rfl (olc_at h18 lPL (show 1 < 3 by omega)) rfl) rfl rfl rfl ?_
   have fm12 : OF loL w59 zn.L PL := ((((((fm10.ext m40).mod m42 (fun j hj => (nC (lE (lL (OF.lt FL (Nat.lt_of_lt_of_eq (Nat.lt_of_lt_of_eq hj h18) lDL.symm)) lR)) nN))).mod m43 (fun j hj => (nC (lE (lL (OF.lt FL (Nat.lt_of_lt_of_eq (Nat.lt_of_lt_of_eq hj h18) lDL.symm)) lR)) nN))).ext m44).mod m46 (fun j hj => (nC (lE (lL (OF.lt FL (Nat.lt_of_lt_of_eq (Nat.lt_of_lt_of_eq hj h18) lDL.symm)) lR)) nN))).mod m47 (fun j hj => (nC (lE (lL (OF.lt FL (Nat.lt_of_lt_of_eq (Nat.lt_of_lt_of_eq hj h18) lDL.symm)) lR)) nN)))
   refine WL.call (oc_call (vs := [.agg #[vS ((PL.getD 1 BC.d).b) 0 ((zn.L.getD 1 RD.d).xs.length) ((PL.getD 1 BC.d).c), vI ((zn.L.getD 1 RD.d).at_)], vI 1]) (cap := []) rfl rfl rfl Try.call119 (c_backJ ((zn.L.getD 1 RD.d).xs.length) ((PL.getD 1 BC.d).c) ((PL.getD 1 BC.d).b) ((zn.L.getD 1 RD.d).xs) ((zn.L.getD 1 RD.d).at_) rfl (by first | omega | exact GoodD.ge (by assumption) _ (by omega)) (by first | omega | exact GoodD.lt (by assumption) _ (by omega)) (by first | omega | exact Nat.le_trans (Nat.le_of_eq (stR_lens _ _)) (by first | omega | exact z1 _) | exact Nat.le_trans (Nat.le_of_eq (endL_lens _)) (by first | omega | exact z2 _) | exact zn1 _ | exact zn2 _ | exact hzR _ | exact hzL _) w59 (OF.row fm12 1 (Nat.lt_of_lt_of_eq (show 1 < 3 by omega) h18.symm)).rng)) rfl rfl (ltb rfl) ?_
   rintro _ w60 ⟨rfl, m48⟩
   refine WL.det (op_fne (c := !(fEq .f32 (((zn.L.getD 1 RD.d).xs).getD (((((zn.L.getD 1 RD.d).at_)).toNat + ((zn.L.getD 1 RD.d).xs.length) - 1) % ((zn.L.getD 1 RD.d).xs.length)) 0) 0)) rfl rfl rfl rfl rfl) rfl rfl rfl ?_
   refine WL.end (NE.code ?_)
   refine CE.cut (fun ρ W => ρ = [(13, vI ((i : Nat) : Int)), (0, vI ((most : Nat) : Int)), (1, vS e 0 6 ce), (2, .func (.func 66) #[] #[vP p 0]), (3, .func (.func 68) #[] #[vP p 0]), (8, vI 0), (9, vI 0), (10, vS w.heap.size 0 6 6), (69, vS e 0 6 ce), (70, vI 6), (71, vI 3)] ∧ Row W w.heap.size 0 [vI (((runF (fEq .f32 (((zn.R.getD 0 RD.d).xs).getD (((((zn.R.getD 0 RD.d).at_)).toNat + ((zn.R.getD 0 RD.d).xs.length) - 1) % ((zn.R.getD 0 RD.d).xs.length)) 0) 0) u0) : Nat) : Int), vI (((runF (fEq .f32 (((zn.L.getD 0 RD.d).xs).getD (((((zn.L.getD 0 RD.d).at_)).toNat + ((zn.L.getD 0 RD.d).xs.length) - 1) % ((zn.L.getD 0 RD.d).xs.length)) 0) 0) u1) : Nat) : Int), vI (((runF (fEq .f32 (((zn.R.getD 1 RD.d).xs).getD (((((zn.R.getD 1 RD.d).at_)).toNat + ((zn.R.getD 1 RD.d).xs.length) - 1) % ((zn.R.getD 1 RD.d).xs.length)) 0) 0) u2) : Nat) : Int), vI (((runF (fEq .f32 (((zn.L.getD 1 RD.d).xs).getD (((((zn.L.getD 1 RD.d).at_)).toNat + ((zn.L.getD 1 RD.d).xs.length) - 1) % ((zn.L.getD 1 RD.d).xs.length)) 0) 0) u3) : Nat) : Int), vI ((u4 : Nat) : Int), vI ((u5 : Nat) : Int)] ∧ Mod [w.heap.size] w60 W) ?_ ?_
   ·rcases Bool.eq_false_or_eq_true (fEq .f32 (((zn.L.getD 1 RD.d).xs).getD (((((zn.L.getD 1 RD.d).at_)).toNat + ((zn.L.getD 1 RD.d).xs.length) - 1) % ((zn.L.getD 1 RD.d).xs.length)) 0) 0) with hb11 | hb11
    ·refine CE.cond_f rfl (bnot_t hb11) ?_
     refine CE.skip' ?_
     exact NE.cutend [(13, vI ((i : Nat) : Int)), (0, vI ((most : Nat) : Int)), (1, vS e 0 6 ce), (2, .func (.func 66) #[] #[vP p 0]), (3, .func (.func 68) #[] #[vP p 0]), (8, vI 0), (9, vI 0), (10, vS w.heap.size 0 6 6), (69, vS e 0 6 ce), (70, vI 6), (71, vI 3)] ⟨rfl, rfl, rfl, rfl, rfl, rfl, rfl, rfl, rfl, rfl, rfl, trivial⟩ ⟨rfl, (Row.congr (r70.ext m48) (congrArg (fun t : Nat => ([vI (((runF (fEq .f32 (((zn.R.getD 0 RD.d).xs).getD (((((zn.R.getD 0 RD.d).at_)).toNat + ((zn.R.getD 0 RD.d).xs.length) - 1) % ((zn.R.getD 0 RD.d).xs.length)) 0) 0) u0) : Nat) : Int), vI (((runF (fEq .f32 (((zn.L.getD 0 RD.d).xs).getD (((((zn.L.getD 0 RD.d).at_)).toNat + ((zn.L.getD 0 RD.d).xs.length) - 1) % ((zn.L.getD 0 RD.d).xs.length)) 0) 0) u1) : Nat) : Int), vI (((runF (fEq .f32 (((zn.R.getD 1 RD.d).xs).getD (((((zn.R.getD 1 RD.d).at_)).toNat + ((zn.R.getD 1 RD.d).xs.length) - 1) % ((zn.R.getD 1 RD.d).xs.length)) 0) 0) u2) : Nat) : Int), vI ((t : Nat) : Int), vI ((u4 : Nat) : Int), vI ((u5 : Nat) : Int)] : List Value)) (runF_t hb11 u3).symm)), (Mod.refl [w.heap.size] w60)⟩
    ·refine CE.cond_t rfl (bnot_f hb11) ?_
     refine CE.region ?_
     iterate 2 refine WL.det (op_move rfl) rfl rfl rfl ?_
     refine WL.det (op_indexSl (off' := 3) rfl rfl rfl Try.runUnderlying36 Try.sizeOf2 (by omega) (by omega) rfl) rfl rfl rfl ?_
     refine WL.op0 (op_store (i := 3) (cs := [vI 0]) rfl rfl rfl Try.sizeOf2 rfl (r70.ext m48) rfl (lB rfl) rfl) rfl rfl ?_
     rintro _ w61 ⟨r72, m49, z15⟩
     have r73 : Row w61 w.heap.size 0 [vI (((runF (fEq .f32 (((zn.R.getD 0 RD.d).xs).getD (((((zn.R.getD 0 RD.d).at_)).toNat + ((zn.R.getD 0 RD.d).xs.length) - 1) % ((zn.R.getD 0 RD.d).xs.length)) 0) 0) u0) : Nat) : Int), vI (((runF (fEq .f32 (((zn.L.getD 0 RD.d).xs).getD (((((zn.L.getD 0 RD.d).at_)).toNat + ((zn.L.getD 0 RD.d).xs.length) - 1) % ((zn.L.getD 0 RD.d).xs.length)) 0) 0) u1) : Nat) : Int), vI (((runF (fEq .f32 (((zn.R.getD 1 RD.d).xs).getD (((((zn.R.getD 1 RD.d).at_)).toNat + ((zn.R.getD 1 RD.d).xs.length) - 1) % ((zn.R.getD 1 RD.d).xs.length)) 0) 0) u2) : Nat) : Int), vI 0, vI ((u4 : Nat) : Int), vI ((u5 : Nat) : Int)] := Row.congr r72 rfl
     refine WL.end ?_
     exact NE.cutend [(13, vI ((i : Nat) : Int)), (0, vI ((most : Nat) : Int)), (1, vS e 0 6 ce), (2, .func (.func 66) #[] #[vP p 0]), (3, .func (.func 68) #[] #[vP p 0]), (8, vI 0), (9, vI 0), (10, vS w.heap.size 0 6 6), (69, vS e 0 6 ce), (70, vI 6), (71, vI 3)] ⟨rfl, rfl, rfl, rfl, rfl, rfl, rfl, rfl, rfl, rfl, rfl, trivial⟩ ⟨rfl, (Row.congr r73 (congrArg (fun t : Nat => ([vI (((runF (fEq .f32 (((zn.R.getD 0 RD.d).xs).getD (((((zn.R.getD 0 RD.d).at_)).toNat + ((zn.R.getD 0 RD.d).xs.length) - 1) % ((zn.R.getD 0 RD.d).xs.length)) 0) 0) u0) : Nat) : Int), vI (((runF (fEq .f32 (((zn.L.getD 0 RD.d).xs).getD (((((zn.L.getD 0 RD.d).at_)).toNat + ((zn.L.getD 0 RD.d).xs.length) - 1) % ((zn.L.getD 0 RD.d).xs.length)) 0) 0) u1) : Nat) : Int), vI (((runF (fEq .f32 (((zn.R.getD 1 RD.d).xs).getD (((((zn.R.getD 1 RD.d).at_)).toNat + ((zn.R.getD 1 RD.d).xs.length) - 1) % ((zn.R.getD 1 RD.d).xs.length)) 0) 0) u2) : Nat) : Int), vI ((t : Nat) : Int), vI ((u4 : Nat) : Int), vI ((u5 : Nat) : Int)] : List Value)) (runF_f hb11 u3).symm)), ((Mod.refl [w.heap.size] w60).then m49 ((aC (.inl (by simp)) aN)))⟩
   rintro _ w62 ⟨rfl, r74, m50⟩
   refine NE.blk (NE.code (CE.region ?_))
   refine WL.det (op_add (r := 4) rfl rfl (by decide)) rfl rfl rfl ?_
   refine WL.det (op_move rfl) rfl rfl rfl ?_
   refine WL.end (NE.round (RN.one (CE.seq (CE.region ?_))))
   refine WL.det (op_lti rfl rfl) rfl rfl rfl ?_
   refine WL.end (NE.code (CE.seq ?_))
   refine CE.cond_t rfl rfl ?_
   refine CE.skip' (NE.code (CE.seq (CE.block (CE.seq (CE.region ?_)))))
   refine WL.det (op_move rfl) rfl rfl rfl ?_
   refine WL.det (op_indexSl (off' := 4) rfl rfl rfl Try.runUnderlying97 Try.sizeOf112 (by omega) (by omega) rfl) rfl rfl rfl ?_
   have r75 := (Rng.youngS rE ((Rng.youngS rE r68 m47 (allge_cons lR allge_nil)).ext m48) m50 (allge_cons lR allge_nil))
   refine WL.det (op_load1 (i := 4) rfl Try.isAgg112 r75 rfl rfl) rfl rfl rfl ?_
   iterate 2 refine WL.det (op_assign rfl) rfl rfl rfl ?_
   refine WL.end (NE.code (CE.seq (CE.region ?_)))
   iterate 2 refine WL.det (op_move rfl) rfl rfl rfl ?_
   refine WL.det (op_indexSl (off' := 4) rfl rfl rfl Try.runUnderlying36 Try.sizeOf2 (by omega) (by omega) rfl) rfl rfl rfl ?_
   refine WL.det (op_load1 (i := 4) rfl Try.isAgg2 r74.rng rfl rfl) rfl rfl rfl ?_
   refine WL.det (op_add (r := ((u4 + 1 : Nat) : Int)) rfl rfl (w_i64 (by omega) (by omega))) rfl rfl rfl ?_
   refine WL.det (op_indexSl (off' := 4) rfl rfl rfl Try.runUnderlying36 Try.sizeOf2 (by omega) (by omega) rfl) rfl rfl rfl ?_
   refine WL.op0 (op_store (i := 4) (cs := [vI ((u4 + 1 : Nat) : Int)]) rfl rfl rfl Try.sizeOf2 rfl r74 rfl (lB rfl) rfl) rfl rfl ?_
   rintro _ w63 ⟨r76, m51, z16⟩
   have r77 : Row w63 w.heap.size 0 [vI (((runF (fEq .f32 (((zn.R.getD 0 RD.d).xs).getD (((((zn.R.getD 0 RD.d).at_)).toNat + ((zn.R.getD 0 RD.d).xs.length) - 1) % ((zn.R.getD 0 RD.d).xs.length)) 0) 0) u0) : Nat) : Int), vI (((runF (fEq .f32 (((zn.L.getD 0 RD.d).xs).getD (((((zn.L.getD 0 RD.d).at_)).toNat + ((zn.L.getD 0 RD.d).xs.length) - 1) % ((zn.L.getD 0 RD.d).xs.length)) 0) 0) u1) : Nat) : Int), vI (((runF (fEq .f32 (((zn.R.getD 1 RD.d).xs).getD (((((zn.R.getD 1 RD.d).at_)).toNat + ((zn.R.getD 1 RD.d).xs.length) - 1) % ((zn.R.getD 1 RD.d).xs.length)) 0) 0) u2) : Nat) : Int), vI (((runF (fEq .f32 (((zn.L.getD 1 RD.d).xs).getD (((((zn.L.getD 1 RD.d).at_)).toNat + ((zn.L.getD 1 RD.d).xs.length) - 1) % ((zn.L.getD 1 RD.d).xs.length)) 0) 0) u3) : Nat) : Int), vI ((u4 + 1 : Nat) : Int), vI ((u5 : Nat) : Int)] := Row.congr r76 rfl
   refine WL.end (NE.code (CE.seq (CE.region ?_)))
   refine WL.det (op_move rfl) rfl rfl rfl ?_
   refine WL.det (op_nilCheck rfl) rfl rfl rfl ?_
   have r78 := ((((((r64.ext m44).mod m46 (nC (lE (lL rR.lt lR)) nN)).mod m47 (nC (lE (lL rR.lt lR)) nN)).ext m48).mod m50 (nC (lE (lL rR.lt lR)) nN)).mod m51 (nC (lE (lL rR.lt lR)) nN))
   refine WL.det (op_loadA (i := 2 * 2) (cs := [vS ((PR.getD 2 BC.d).b) 0 ((zn.R.getD 2 RD.d).xs.length) ((PR.getD 2 BC.d).c), vI ((zn.R.getD 2 RD.d).at_)]) rfl Try.isAgg60 Try.sizeOf60 r78.rng rfl (olc_at h17 lPR (show 2 < 3 by omega)) rfl) rfl rfl rfl ?_
   have fm13 : OF loR w63 zn.R PR := ((((((fm11.ext m44).mod m46 (fun j hj => (nC (lE (lL (OF.lt FR (Nat.lt_of_lt_of_eq (Nat.lt_of_lt_of_eq hj h17) lDR.symm)) lR)) nN))).mod m47 (fun j hj => (nC (lE (lL (OF.lt FR (Nat.lt_of_lt_of_eq (Nat.lt_of_lt_of_eq hj h17) lDR.symm)) lR)) nN))).ext m48).mod m50 (fun j hj => (nC (lE (lL (OF.lt FR (Nat.lt_of_lt_of_eq (Nat.lt_of_lt_of_eq hj h17) lDR.symm)) lR)) nN))).mod m51 (fun j hj => (nC (lE (lL (OF.lt FR (Nat.lt_of_lt_of_eq (Nat.lt_of_lt_of_eq hj h17) lDR.symm)) lR)) nN)))
   refine WL.call (oc_call (vs := [.agg #[vS ((PR.getD 2 BC.d).b) 0 ((zn.R.getD 2 RD.d).xs.length) ((PR.getD 2 BC.d).c), vI ((zn.R.getD 2 RD.d).at_)], vI 1]) (cap := []) rfl rfl rfl Try.call119 (c_backJ ((zn.R.getD 2 RD.d).xs.length) ((PR.getD 2 BC.d).c) ((PR.getD 2 BC.d).b) ((zn.R.getD 2 RD.d).xs) ((zn.R.getD 2 RD.d).at_) rfl (by first | omega | exact GoodD.ge (by assumption) _ (by omega)) (by first | omega | exact GoodD.lt (by assumption) _ (by omega)) (by first | omega | exact Nat.le_trans (Nat.le_of_eq (stR_lens _ _)) (by first | omega | exact z1 _) | exact Nat.le_trans (Nat.le_of_eq (endL_lens _)) (by first | omega | exact z2 _) | exact zn1 _ | exact zn2 _ | exact hzR _ | exact hzL _) w63 (OF.row fm13 2 (Nat.lt_of_lt_of_eq (show 2 < 3 by omega) h17.symm)).rng)) rfl rfl (ltb rfl) ?_
   rintro _ w64 ⟨rfl, m52⟩
   refine WL.det (op_fne (c := !(fEq .f32 (((zn.R.getD 2 RD.d).xs).getD (((((zn.R.getD 2 RD.d).at_)).toNat + ((zn.R.getD 2 RD.d).xs.length) - 1) % ((zn.R.getD 2 RD.d).xs.length)) 0) 0)) rfl rfl rfl rfl rfl) rfl rfl rfl ?_
   refine WL.end (NE.code ?_)
   refine CE.cut (fun ρ W => ρ = [(13, vI ((i : Nat) : Int)), (0, vI ((most : Nat) : Int)), (1, vS e 0 6 ce), (2, .func (.func 66) #[] #[vP p 0]), (3, .func (.func 68) #[] #[vP p 0]), (8, vI 0), (9, vI 0), (10, vS w.heap.size 0 6 6), (69, vS e 0 6 ce), (70, vI 6), (71, vI 4)] ∧ Row W w.heap.size 0 [vI (((runF (fEq .f32 (((zn.R.getD 0 RD.d).xs).getD (((((zn.R.getD 0 RD.d).at_)).toNat + ((zn.R.getD 0 RD.d).xs.length) - 1) % ((zn.R.getD 0 RD.d).xs.length)) 0) 0) u0) : Nat) : Int), vI (((runF (fEq .f32 (((zn.L.getD 0 RD.d).xs).getD (((((zn.L.getD 0 RD.d).at_)).toNat + ((zn.L.getD 0 RD.d).xs.length) - 1) % ((zn.L.getD 0 RD.d).xs.length)) 0) 0) u1) : Nat) : Int), vI (((runF (fEq .f32 (((zn.R.getD 1 RD.d).xs).getD (((((zn.R.getD 1 RD.d).at_)).toNat + ((zn.R.getD 1 RD.d).xs.length) - 1) % ((zn.R.getD 1 RD.d).xs.length)) 0) 0) u2) : Nat) : Int), vI (((runF (fEq .f32 (((zn.L.getD 1 RD.d).xs).getD (((((zn.L.getD 1 RD.d).at_)).toNat + ((zn.L.getD 1 RD.d).xs.length) - 1) % ((zn.L.getD 1 RD.d).xs.length)) 0) 0) u3) : Nat) : Int), vI (((runF (fEq .f32 (((zn.R.getD 2 RD.d).xs).getD (((((zn.R.getD 2 RD.d).at_)).toNat + ((zn.R.getD 2 RD.d).xs.length) - 1) % ((zn.R.getD 2 RD.d).xs.length)) 0) 0) u4) : Nat) : Int), vI ((u5 : Nat) : Int)] ∧ Mod [w.heap.size] w64 W) ?_ ?_
   ·rcases Bool.eq_false_or_eq_true (fEq .f32 (((zn.R.getD 2 RD.d).xs).getD (((((zn.R.getD 2 RD.d).at_)).toNat + ((zn.R.getD 2 RD.d).xs.length) - 1) % ((zn.R.getD 2 RD.d).xs.length)) 0) 0) with hb12 | hb12
    ·refine CE.cond_f rfl (bnot_t hb12) ?_
     refine CE.skip' ?_
     exact NE.cutend [(13, vI ((i : Nat) : Int)), (0, vI ((most : Nat) : Int)), (1, vS e 0 6 ce), (2, .func (.func 66) #[] #[vP p 0]), (3, .func (.func 68) #[] #[vP p 0]), (8, vI 0), (9, vI 0), (10, vS w.heap.size 0 6 6), (69, vS e 0 6 ce), (70, vI 6), (71, vI 4)] ⟨rfl, rfl, rfl, rfl, rfl, rfl, rfl, rfl, rfl, rfl, rfl, trivial⟩ ⟨rfl, (Row.congr (r77.ext m52) (congrArg (fun t : Nat => ([vI (((runF (fEq .f32 (((zn.R.getD 0 RD.d).xs).getD (((((zn.R.getD 0 RD.d).at_)).toNat + ((zn.R.getD 0 RD.d).xs.length) - 1) % ((zn.R.getD 0 RD.d).xs.length)) 0) 0) u0) : Nat) : Int), vI (((runF (fEq .f32 (((zn.L.getD 0 RD.d).xs).getD (((((zn.L.getD 0 RD.d).at_)).toNat + ((zn.L.getD 0 RD.d).xs.length) - 1) % ((zn.L.getD 0 RD.d).xs.length)) 0) 0) u1) : Nat) : Int), vI (((runF (fEq .f32 (((zn.R.getD 1 RD.d).xs).getD (((((zn.R.getD 1 RD.d).at_)).toNat + ((zn.R.getD 1 RD.d).xs.length) - 1) % ((zn.R.getD 1 RD.d).xs.length)) 0) 0) u2) : Nat) : Int), vI (((runF (fEq .f32 (((zn.L.getD 1 RD.d).xs).getD (((((zn.L.getD 1 RD.d).at_)).toNat + ((zn.L.getD 1 RD.d).xs.length) - 1) % ((zn.L.getD 1 RD.d).xs.length)) 0) 0) u3) : Nat) : Int), vI ((t : Nat) : Int), vI ((u5 : Nat) : Int)] : List Value)) (runF_t hb12 u4).symm)), (Mod.refl [w.heap.size] w64)⟩
    ·refine CE.cond_t rfl (bnot_f hb12) ?_
     refine CE.region ?_
     iterate 2 refine WL.det (op_move rfl) rfl rfl rfl ?_
     refine WL.det (op_indexSl (off' := 4) rfl rfl rfl Try.runUnderlying36 Try.sizeOf2 (by omega) (by omega) rfl) rfl rfl rfl ?_
     refine WL.op0 (op_store (i := 4) (cs := [vI 0]) rfl rfl rfl Try.sizeOf2 rfl (r77.ext m52) rfl (lB rfl) rfl) rfl rfl ?_
     rintro _ w65 ⟨r79, m53, z17⟩
     have r80 : Row w65 w.heap.size 0 [vI (((runF (fEq .f32 (((zn.R.getD 0 RD.d).xs).getD (((((zn.R.getD 0 RD.d).at_)).toNat + ((zn.R.getD 0 RD.d).xs.length) - 1) % ((zn.R.getD 0 RD.d).xs.length)) 0) 0) u0) : Nat) : Int), vI (((runF (fEq .f32 (((zn.L.getD 0 RD.d).xs).getD (((((zn.L.getD 0 RD.d).at_)).toNat + ((zn.L.getD 0 RD.d).xs.length) - 1) % ((zn.L.getD 0 RD.d).xs.length)) 0) 0) u1) : Nat) : Int), vI (((runF (fEq .f32 (((zn.R.getD 1 RD.d).xs).getD (((((zn.R.getD 1 RD.d).at_)).toNat + ((zn.R.getD 1 RD.d).xs.length) - 1) % ((zn.R.getD 1 RD.d).xs.length)) 0) 0) u2) : Nat) : Int), vI (((runF (fEq .f32 (((zn.L.getD 1 RD.d).xs).getD (((((zn.L.getD 1 RD.d).at_)).toNat + ((zn.L.getD 1 RD.d).xs.length) - 1) % ((zn.L.getD 1 RD.d).xs.length)) 0) 0) u3) : Nat) : Int), vI 0, vI ((u5 : Nat) : Int)] := Row.congr r79 rfl
     refine WL.end ?_
     exact NE.cutend [(13, vI ((i : Nat) : Int)), (0, vI ((most : Nat) : Int)), (1, vS e 0 6 ce), (2, .func (.func 66) #[] #[vP p 0]), (3, .func (.func 68) #[] #[vP p 0]), (8, vI 0), (9, vI 0), (10, vS w.heap.size 0 6 6), (69, vS e 0 6 ce), (70, vI 6), (71, vI 4)] ⟨rfl, rfl, rfl, rfl, rfl, rfl, rfl, rfl, rfl, rfl, rfl, trivial⟩ ⟨rfl, (Row.congr r80 (congrArg (fun t : Nat => ([vI (((runF (fEq .f32 (((zn.R.getD 0 RD.d).xs).getD (((((zn.R.getD 0 RD.d).at_)).toNat + ((zn.R.getD 0 RD.d).xs.length) - 1) % ((zn.R.getD 0 RD.d).xs.length)) 0) 0) u0) : Nat) : Int), vI (((runF (fEq .f32 (((zn.L.getD 0 RD.d).xs).getD (((((zn.L.getD 0 RD.d).at_)).toNat + ((zn.L.getD 0 RD.d).xs.length) - 1) % ((zn.L.getD 0 RD.d).xs.length)) 0) 0) u1) : Nat) : Int), vI (((runF (fEq .f32 (((zn.R.getD 1 RD.d).xs).getD (((((zn.R.getD 1 RD.d).at_)).toNat + ((zn.R.getD 1 RD.d).xs.length) - 1) % ((zn.R.getD 1 RD.d).xs.length)) 0) 0) u2) : Nat) : Int), vI (((runF (fEq .f32 (((zn.L.getD 1 RD.d).xs).getD (((((zn.L.getD 1 RD.d).at_)).toNat + ((zn.L.getD 1 RD.d).xs.length) - 1) % ((zn.L.getD 1 RD.d).xs.length)) 0) 0) u3) : Nat) : Int), vI ((t : Nat) : Int), vI ((u5 : Nat) : Int)] : List Value)) (runF_f hb12 u4).symm)), ((Mod.refl [w.heap.size] w64).then m53 ((aC (.inl (by simp)) aN)))⟩
   rintro _ w66 ⟨rfl, r81, m54⟩
   refine NE.blk (NE.code (CE.region ?_))
   refine WL.det (op_add (r := 5) rfl rfl (by decide)) rfl rfl rfl ?_
   refine WL.det (op_move rfl) rfl rfl rfl ?_
   refine WL.end (NE.round (RN.one (CE.seq (CE.region ?_))))
   refine WL.det (op_lti rfl rfl) rfl rfl rfl ?_
   refine WL.end (NE.code (CE.seq ?_))
   refine CE.cond_t rfl rfl ?_
   refine CE.skip' (NE.code (CE.seq (CE.block (CE.seq (CE.region ?_)))))
   refine WL.det (op_move rfl) rfl rfl rfl ?_
   refine WL.det (op_indexSl (off' := 5) rfl rfl rfl Try.runUnderlying97 Try.sizeOf112 (by omega) (by omega) rfl) rfl rfl rfl ?_
   have r82 := (Rng.youngS rE ((Rng.youngS rE r75 m51 (allge_cons lR allge_nil)).ext m52) m54 (allge_cons lR allge_nil))
   refine WL.det (op_load1 (i := 5) rfl Try.isAgg112 r82 rfl rfl) rfl rfl rfl ?_
   iterate 2 refine WL.det (op_assign rfl) rfl rfl rfl ?_
   refine WL.end (NE.code (CE.seq (CE.region ?_)))
   iterate 2 refine WL.det (op_move rfl) rfl rfl rfl ?_
   refine WL.det (op_indexSl (off' := 5) rfl rfl rfl Try.runUnderlying36 Try.sizeOf2 (by omega) (by omega) rfl) rfl rfl rfl ?_
   refine WL.det (op_load1 (i := 5) rfl Try.isAgg2 r81.rng rfl rfl) rfl rfl rfl ?_
   refine WL.det (op_add (r := ((u5 + 1 : Nat) : Int)) rfl rfl (w_i64 (by omega) (by omega))) rfl rfl rfl ?_
   refine WL.det (op_indexSl (off' := 5) rfl rfl rfl Try.runUnderlying36 Try.sizeOf2 (by omega) (by omega) rfl) rfl rfl rfl ?_
   refine WL.op0 (op_store (i := 5) (cs := [vI ((u5 + 1 : Nat) : Int)]) rfl rfl rfl Try.sizeOf2 rfl r81 rfl (lB rfl) rfl) rfl rfl ?_
   rintro _ w67 ⟨r83, m55, z18⟩
   have r84 : Row w67 w.heap.size 0 [vI (((runF (fEq .f32 (((zn.R.getD 0 RD.d).xs).getD (((((zn.R.getD 0 RD.d).at_)).toNat + ((zn.R.getD 0 RD.d).xs.length) - 1) % ((zn.R.getD 0 RD.d).xs.length)) 0) 0) u0) : Nat) : Int), vI (((runF (fEq .f32 (((zn.L.getD 0 RD.d).xs).getD (((((zn.L.getD 0 RD.d).at_)).toNat + ((zn.L.getD 0 RD.d).xs.length) - 1) % ((zn.L.getD 0 RD.d).xs.length)) 0) 0) u1) : Nat) : Int), vI (((runF (fEq .f32 (((zn.R.getD 1 RD.d).xs).getD (((((zn.R.getD 1 RD.d).at_)).toNat + ((zn.R.getD 1 RD.d).xs.length) - 1) % ((zn.R.getD 1 RD.d).xs.length)) 0) 0) u2) : Nat) : Int), vI (((runF (fEq .f32 (((zn.L.getD 1 RD.d).xs).getD (((((zn.L.getD 1 RD.d).at_)).toNat + ((zn.L.getD 1 RD.d).xs.length) - 1) % ((zn.L.getD 1 RD.d).xs.length)) 0) 0) u3) : Nat) : Int), vI (((runF (fEq .f32 (((zn.R.getD 2 RD.d).xs).getD (((((zn.R.getD 2 RD.d).at_)).toNat + ((zn.R.getD 2 RD.d).xs.length) - 1) % ((zn.R.getD 2 RD.d).xs.length)) 0) 0) u4) : Nat) : Int), vI ((u5 + 1 : Nat) : Int)] := Row.congr r83 rfl
   refine WL.end (NE.code (CE.seq (CE.region ?_)))
   refine WL.det (op_move rfl) rfl rfl rfl ?_
   refine WL.det (op_nilCheck rfl) rfl rfl rfl ?_
   have r85 := ((((((r71.ext m48).mod m50 (nC (lE (lL rL.lt lR)) nN)).mod m51 (nC (lE (lL rL.lt lR)) nN)).ext m52).mod m54 (nC (lE (lL rL.lt lR)) nN)).mod m55 (nC (lE (lL rL.lt lR)) nN))
   refine WL.det (op_loadA (i := 2 * 2) (cs := [vS ((PL.getD 2 BC.d).b) 0 ((zn.L.getD 2 RD.d).xs.length) ((PL.getD 2 BC.d).c), vI ((zn.L.getD 2 RD.d).at_)]) rfl Try.isAgg60 Try.sizeOf60 r85.rng rfl (olc_at h18 lPL (show 2 < 3 by omega)) rfl) rfl rfl rfl ?_
   have fm14 : OF loL w67 zn.L PL := ((((((fm12.ext m48).mod m50 (fun j hj => (nC (lE (lL (OF.lt FL (Nat.lt_of_lt_of_eq (Nat.lt_of_lt_of_eq hj h18) lDL.symm)) lR)) nN))).mod m51 (fun j hj => (nC (lE (lL (OF.lt FL (Nat.lt_of_lt_of_eq (Nat.lt_of_lt_of_eq hj h18) lDL.symm)) lR)) nN))).ext m52).mod m54 (fun j hj => (nC (lE (lL (OF.lt FL (Nat.lt_of_lt_of_eq (Nat.lt_of_lt_of_eq hj h18) lDL.symm)) lR)) nN))).mod m55 (fun j hj => (nC (lE (lL (OF.lt FL (Nat.lt_of_lt_of_eq (Nat.lt_of_lt_of_eq hj h18) lDL.symm)) lR)) nN)))
   refine WL.call (oc_call (vs := [.agg #[vS ((PL.getD 2 BC.d).b) 0 ((zn.L.getD 2 RD.d).xs.length) ((PL.getD 2 BC.d).c), vI ((zn.L.getD 2 RD.d).at_)], vI 1]) (cap := []) rfl rfl rfl Try.call119 (c_backJ ((zn.L.getD 2 RD.d).xs.length) ((PL.getD 2 BC.d).c) ((PL.getD 2 BC.d).b) ((zn.L.getD 2 RD.d).xs) ((zn.L.getD 2 RD.d).at_) rfl (by first | omega | exact GoodD.ge (by assumption) _ (by omega)) (by first | omega | exact GoodD.lt (by assumption) _ (by omega)) (by first | omega | exact Nat.le_trans (Nat.le_of_eq (stR_lens _ _)) (by first | omega | exact z1 _) | exact Nat.le_trans (Nat.le_of_eq (endL_lens _)) (by first | omega | exact z2 _) | exact zn1 _ | exact zn2 _ | exact hzR _ | exact hzL _) w67 (OF.row fm14 2 (Nat.lt_of_lt_of_eq (show 2 < 3 by omega) h18.symm)).rng)) rfl rfl (ltb rfl) ?_
   rintro _ w68 ⟨rfl, m56⟩
   refine WL.det (op_fne (c := !(fEq .f32 (((zn.L.getD 2 RD.d).xs).getD (((((zn.L.getD 2 RD.d).at_)).toNat + ((zn.L.getD 2 RD.d).xs.length) - 1) % ((zn.L.getD 2 RD.d).xs.length)) 0) 0)) rfl rfl rfl rfl rfl) rfl rfl rfl ?_
   refine WL.end (NE.code ?_)
   refine CE.cut (fun ρ W => ρ = [(13, vI ((i : Nat) : Int)), (0, vI ((most : Nat) : Int)), (1, vS e 0 6 ce), (2, .func (.func 66) #[] #[vP p 0]), (3, .func (.func 68) #[] #[vP p 0]), (8, vI 0), (9, vI 0), (10, vS w.heap.size 0 6 6), (69, vS e 0 6 ce), (70, vI 6), (71, vI 5)] ∧ Row W w.heap.size 0 [vI (((runF (fEq .f32 (((zn.R.getD 0 RD.d).xs).getD (((((zn.R.getD 0 RD.d).at_)).toNat + ((zn.R.getD 0 RD.d).xs.length) - 1) % ((zn.R.getD 0 RD.d).xs.length)) 0) 0) u0) : Nat) : Int), vI (((runF (fEq .f32 (((zn.L.getD 0 RD.d).xs).getD (((((zn.L.getD 0 RD.d).at_)).toNat + ((zn.L.getD 0 RD.d).xs.length) - 1) % ((zn.L.getD 0 RD.d).xs.length)) 0) 0) u1) : Nat) : Int), vI (((runF (fEq .f32 (((zn.R.getD 1 RD.d).xs).getD (((((zn.R.getD 1 RD.d).at_)).toNat + ((zn.R.getD 1 RD.d).xs.length) - 1) % ((zn.R.getD 1 RD.d).xs.length)) 0) 0) u2) : Nat) : Int), vI (((runF (fEq .f32 (((zn.L.getD 1 RD.d).xs).getD (((((zn.L.getD 1 RD.d).at_)).toNat + ((zn.L.getD 1 RD.d).xs.length) - 1) % ((zn.L.getD 1 RD.d).xs.length)) 0) 0) u3) : Nat) : Int), vI (((runF (fEq .f32 (((zn.R.getD 2 RD.d).xs).getD (((((zn.R.getD 2 RD.d).at_)).toNat + ((zn.R.getD 2 RD.d).xs.length) - 1) % ((zn.R.getD 2 RD.d).xs.length)) 0) 0) u4) : Nat) : Int), vI (((runF (fEq .f32 (((zn.L.getD 2 RD.d).xs).getD (((((zn.L.getD 2 RD.d).at_)).toNat + ((zn.L.getD 2 RD.d).xs.length) - 1) % ((zn.L.getD 2 RD.d).xs.length)) 0) 0) u5) : Nat) : Int)] ∧ Mod [w.heap.size] w68 W) ?_ ?_
   ·rcases Bool.eq_false_or_eq_true (fEq .f32 (((zn.L.getD 2 RD.d).xs).getD (((((zn.L.getD 2 RD.d).at_)).toNat + ((zn.L.getD 2 RD.d).xs.length) - 1) % ((zn.L.getD 2 RD.d).xs.length)) 0) 0) with hb13 | hb13
    ·refine CE.cond_f rfl (bnot_t hb13) ?_
     refine CE.skip' ?_
     exact NE.cutend [(13, vI ((i : Nat) : Int)), (0, vI ((most : Nat) : Int)), (1, vS e 0 6 ce), (2, .func (.func 66) #[] #[vP p 0]), (3, .func (.func 68) #[] #[vP p 0]), (8, vI 0), (9, vI 0), (10, vS w.heap.size 0 6 6), (69, vS e 0 6 ce), (70, vI 6), (71, vI 5)] ⟨rfl, rfl, rfl, rfl, rfl, rfl, rfl, rfl, rfl, rfl, rfl, trivial⟩ ⟨rfl, (Row.congr (r84.ext m56) (congrArg (fun t : Nat => ([vI (((runF (fEq .f32 (((zn.R.getD 0 RD.d).xs).getD (((((zn.R.getD 0 RD.d).at_)).toNat + ((zn.R.getD 0 RD.d).xs.length) - 1) % ((zn.R.getD 0 RD.d).xs.length)) 0) 0) u0) : Nat) : Int), vI (((runF (fEq .f32 (((zn.L.getD 0 RD.d).xs).getD (((((zn.L.getD 0 RD.d).at_)).toNat + ((zn.L.getD 0 RD.d).xs.length) - 1) % ((zn.L.getD 0 RD.d).xs.length)) 0) 0) u1) : Nat) : Int), vI (((runF (fEq .f32 (((zn.R.getD 1 RD.d).xs).getD (((((zn.R.getD 1 RD.d).at_)).toNat + ((zn.R.getD 1 RD.d).xs.length) - 1) % ((zn.R.getD 1 RD.d).xs.length)) 0) 0) u2) : Nat) : Int), vI (((runF (fEq .f32 (((zn.L.getD 1 RD.d).xs).getD (((((zn.L.getD 1 RD.d).at_)).toNat + ((zn.L.getD 1 RD.d).xs.length) - 1) % ((zn.L.getD 1 RD.d).xs.length)) 0) 0) u3) : Nat) : Int), vI (((runF (fEq .f32 (((zn.R.getD 2 RD.d).xs).getD (((((zn.R.getD 2 RD.d).at_)).toNat + ((zn.R.getD 2 RD.d).xs.length) - 1) % ((zn.R.getD 2 RD.d).xs.length)) 0) 0) u4) : Nat) : Int), vI ((t : Nat) : Int)] : List Value)) (runF_t hb13 u5).symm)), (Mod.refl [w.heap.size] w68)⟩
    ·refine CE.cond_t rfl (bnot_f hb13) ?_
     refine CE.region ?_
     iterate 2 refine WL.det (op_move rfl) rfl rfl rfl ?_
     refine WL.det (op_indexSl (off' := 5) rfl rfl rfl Try.runUnderlying36 Try.sizeOf2 (by omega) (by omega) rfl) rfl rfl rfl ?_
     refine WL.op0 (op_store (i := 5) (cs := [vI 0]) rfl rfl rfl Try.sizeOf2 rfl (r84.ext m56) rfl (lB rfl) rfl) rfl rfl ?_
     rintro _ w69 ⟨r86, m57, z19⟩
     have r87 : Row w69 w.heap.size 0 [vI (((runF (fEq .f32 (((zn.R.getD 0 RD.d).xs).getD (((((zn.R.getD 0 RD.d).at_)).toNat + ((zn.R.getD 0 RD.d).xs.length) - 1) % ((zn.R.getD 0 RD.d).xs.length)) 0) 0) u0) : Nat) : Int), vI (((runF (fEq .f32 (((zn.L.getD 0 RD.d).xs).getD (((((zn.L.getD 0 RD.d).at_)).toNat + ((zn.L.getD 0 RD.d).xs.length) - 1) % ((zn.L.getD 0 RD.d).xs.length)) 0) 0) u1) : Nat) : Int), vI (((runF (fEq .f32 (((zn.R.getD 1 RD.d).xs).getD (((((zn.R.getD 1 RD.d).at_)).toNat + ((zn.R.getD 1 RD.d).xs.length) - 1) % ((zn.R.getD 1 RD.d).xs.length)) 0) 0) u2) : Nat) : Int), vI (((runF (fEq .f32 (((zn.L.getD 1 RD.d).xs).getD (((((zn.L.getD 1 RD.d).at_)).toNat + ((zn.L.getD 1 RD.d).xs.length) - 1) % ((zn.L.getD 1 RD.d).xs.length)) 0) 0) u3) : Nat) : Int), vI (((runF (fEq .f32 (((zn.R.getD 2 RD.d).xs).getD (((((zn.R.getD 2 RD.d).at_)).toNat + ((zn.R.getD 2 RD.d).xs.length) - 1) % ((zn.R.getD 2 RD.d).xs.length)) 0) 0) u4) : Nat) : Int), vI 0] := Row.congr r86 rfl
     refine WL.end ?_
     exact NE.cutend [(13, vI ((i : Nat) : Int)), (0, vI ((most : Nat) : Int)), (1, vS e 0 6 ce), (2, .func (.func 66) #[] #[vP p 0]), (3, .func (.func 68) #[] #[vP p 0]), (8, vI 0), (9, vI 0), (10, vS w.heap.size 0 6 6), (69, vS e 0 6 ce), (70, vI 6), (71, vI 5)] ⟨rfl, rfl, rfl, rfl, rfl, rfl, rfl, rfl, rfl, rfl, rfl, trivial⟩ ⟨rfl, (Row.congr r87 (congrArg (fun t : Nat => ([vI (((runF (fEq .f32 (((zn.R.getD 0 RD.d).xs).getD (((((zn.R.getD 0 RD.d).at_)).toNat + ((zn.R.getD 0 RD.d).xs.length) - 1) % ((zn.R.getD 0 RD.d).xs.length)) 0) 0) u0) : Nat) : Int), vI (((runF (fEq .f32 (((zn.L.getD 0 RD.d).xs).getD (((((zn.L.getD 0 RD.d).at_)).toNat + ((zn.L.getD 0 RD.d).xs.length) - 1) % ((zn.L.getD 0 RD.d).xs.length)) 0) 0) u1) : Nat) : Int), vI (((runF (fEq .f32 (((zn.R.getD 1 RD.d).xs).getD (((((zn.R.getD 1 RD.d).at_)).toNat + ((zn.R.getD 1 RD.d).xs.length) - 1) % ((zn.R.getD 1 RD.d).xs.length)) 0) 0) u2) : Nat) : Int), vI (((runF (fEq .f32 (((zn.L.getD 1 RD.d).xs).getD (((((zn.L.getD 1 RD.d).at_)).toNat + ((zn.L.getD 1 RD.d).xs.length) - 1) % ((zn.L.getD 1 RD.d).xs.length)) 0) 0) u3) : Nat) : Int), vI (((runF (fEq .f32 (((zn.R.getD 2 RD.d).xs).getD (((((zn.R.getD 2 RD.d).at_)).toNat + ((zn.R.getD 2 RD.d).xs.length) - 1) % ((zn.R.getD 2 RD.d).xs.length)) 0) 0) u4) : Nat) : Int), vI ((t : Nat) : Int)] : List Value)) (runF_f hb13 u5).symm)), ((Mod.refl [w.heap.size] w68).then m57 ((aC (.inl (by simp)) aN)))⟩
   rintro _ w70 ⟨rfl, r88, m58⟩
   refine NE.blk (NE.code (CE.region ?_))
   refine WL.det (op_add (r := 6) rfl rfl (by decide)) rfl rfl rfl ?_
   refine WL.det (op_move rfl) rfl rfl rfl ?_
   refine WL.end (NE.round (RN.one (CE.seq (CE.region ?_))))
   refine WL.det (op_lti rfl rfl) rfl rfl rfl ?_
   refine WL.end (NE.code (CE.seq ?_))
   refine CE.cond_f rfl rfl ?_
   refine CE.exit' (XE.exit_then (XE.exit_then (XE.exit_here (NE.blk (NE.code (CE.region ?_))))))
   refine WL.det (op_move rfl) rfl rfl rfl ?_
   refine WL.det (op_add (r := ((i + 1 : Nat) : Int)) rfl rfl (w_i64 (by omega) (by omega))) rfl rfl rfl ?_
   refine WL.det (op_assign rfl) rfl rfl rfl ?_
   refine WL.end ?_
   have r89 := ((((((((((((((((((r44.mod m35 (nC (lE (lL q.lt lR)) nN)).ext m36).mod m38 (nC (lE (lL q.lt lR)) nN)).mod m39 (nC (lE (lL q.lt lR)) nN)).ext m40).mod m42 (nC (lE (lL q.lt lR)) nN)).mod m43 (nC (lE (lL q.lt lR)) nN)).ext m44).mod m46 (nC (lE (lL q.lt lR)) nN)).mod m47 (nC (lE (lL q.lt lR)) nN)).ext m48).mod m50 (nC (lE (lL q.lt lR)) nN)).mod m51 (nC (lE (lL q.lt lR)) nN)).ext m52).mod m54 (nC (lE (lL q.lt lR)) nN)).mod m55 (nC (lE (lL q.lt lR)) nN)).ext m56).mod m58 (nC (lE (lL q.lt lR)) nN))
   have r90 := (((((r78.ext m52).mod m54 (nC (lE (lL rR.lt lR)) nN)).mod m55 (nC (lE (lL rR.lt lR)) nN)).ext m56).mod m58 (nC (lE (lL rR.lt lR)) nN))
   exact NE.again ((i + 1), (runF (fEq .f32 (((zn.R.getD 0 RD.d).xs).getD (((((zn.R.getD 0 RD.d).at_)).toNat + ((zn.R.getD 0 RD.d).xs.length) - 1) % ((zn.R.getD 0 RD.d).xs.length)) 0) 0) u0), (runF (fEq .f32 (((zn.L.getD 0 RD.d).xs).getD (((((zn.L.getD 0 RD.d).at_)).toNat + ((zn.L.getD 0 RD.d).xs.length) - 1) % ((zn.L.getD 0 RD.d).xs.length)) 0) 0) u1), (runF (fEq .f32 (((zn.R.getD 1 RD.d).xs).getD (((((zn.R.getD 1 RD.d).at_)).toNat + ((zn.R.getD 1 RD.d).xs.length) - 1) % ((zn.R.getD 1 RD.d).xs.length)) 0) 0) u2), (runF (fEq .f32 (((zn.L.getD 1 RD.d).xs).getD (((((zn.L.getD 1 RD.d).at_)).toNat + ((zn.L.getD 1 RD.d).xs.length) - 1) % ((zn.L.getD 1 RD.d).xs.length)) 0) 0) u3), (runF (fEq .f32 (((zn.R.getD 2 RD.d).xs).getD (((((zn.R.getD 2 RD.d).at_)).toNat + ((zn.R.getD 2 RD.d).xs.length) - 1) % ((zn.R.getD 2 RD.d).xs.length)) 0) 0) u4), (runF (fEq .f32 (((zn.L.getD 2 RD.d).xs).getD (((((zn.L.getD 2 RD.d).at_)).toNat + ((zn.L.getD 2 RD.d).xs.length) - 1) % ((zn.L.getD 2 RD.d).xs.length)) 0) 0) u5)) (⟨rfl, rfl, rfl, rfl, rfl, rfl, rfl, rfl, trivial⟩) ⟨(by omega), (by rw [hzs]; assumption), (by rw [hzs]; assumption), (by rw [hzs]; exact (by assumption)), (by rw [hzs]; exact (by assumption)), (by exact fun j => Nat.le_trans (Nat.le_of_eq (pipeAt_lens j _).1) (hzR j)), (by exact fun j => Nat.le_trans (Nat.le_of_eq (pipeAt_lens j _).2) (hzL j)), (by rw [hzs]; assumption), (by rw [hzs]; assumption), (by rw [hzs]; exact QD.run q0 g1 (by decide) (by rw [hzn]; exact stR_pushed l1 (by decide) (by decide))), (by exact Nat.le_trans (runF_le _ _) (by omega)), (by rw [hzs]; exact QD.run q1 g2 (by decide) (by rw [hzn]; exact endL_pushed l2 (by decide) (by decide))), (by exact Nat.le_trans (runF_le _ _) (by omega)), (by rw [hzs]; exact QD.run q2 g1 (by decide) (by rw [hzn]; exact stR_pushed l1 (by decide) (by decide))), (by exact Nat.le_trans (runF_le _ _) (by omega)), (by rw [hzs]; exact QD.run q3 g2 (by decide) (by rw [hzn]; exact endL_pushed l2 (by decide) (by decide))), (by exact Nat.le_trans (runF_le _ _) (by omega)), (by rw [hzs]; exact QD.run q4 g1 (by decide) (by rw [hzn]; exact stR_pushed l1 (by decide) (by decide))), (by exact Nat.le_trans (runF_le _ _) (by omega)), (by rw [hzs]; exact QD.run q5 g2 (by decide) (by rw [hzn]; exact endL_pushed l2 (by decide) (by decide))), (by exact Nat.le_trans (runF_le _ _) (by omega)), (by exact silG_next he (hzE _ (hE.symm.trans hbE)) (by omega) (by omega)), (Row.congr r89 (by rw [hzs])), (Row.congr r90 (by rw [hzs])), (Row.congr ((r85.ext m56).mod m58 (nC (lE (lL rL.lt lR)) nN)) (by rw [hzs])), (Row.congr r88 rfl), (OF.congr (((((fm13.ext m52).mod m54 (fun j hj => (nC (lE (lL (OF.lt FR (Nat.lt_of_lt_of_eq (Nat.lt_of_lt_of_eq hj h17) lDR.symm)) lR)) nN))).mod m55 (fun j hj => (nC (lE (lL (OF.lt FR (Nat.lt_of_lt_of_eq (Nat.lt_of_lt_of_eq hj h17) lDR.symm)) lR)) nN))).ext m56).mod m58 (fun j hj => (nC (lE (lL (OF.lt FR (Nat.lt_of_lt_of_eq (Nat.lt_of_lt_of_eq hj h17) lDR.symm)) lR)) nN))) (by rw [hzs])), (OF.congr ((fm14.ext m56).mod m58 (fun j hj => (nC (lE (lL (OF.lt FL (Nat.lt_of_lt_of_eq (Nat.lt_of_lt_of_eq hj h18) lDL.symm)) lR)) nN))) (by rw [hzs])), ((((((((((((((((((((((((((m14.nt m15).nt m18).nt m21).nt m24).nt m27).nt m30).nt m33).then m34 ((aC (.inl (by simp)) (aC (.inl (by simp)) (aC (.inl (by simp)) (aI (fun x hx => by simp only [List.mem_cons, List.mem_append, hx, true_or, or_true]) (aI (fun x hx => by simp only [List.mem_cons, List.mem_append, hx, true_or, or_true]) aN))))))).then m35 ((aC (.inl (by simp)) aN))).nt m36).then m38 ((aC (.inl (by simp)) aN))).then m39 ((aC (.inl (by simp)) aN))).nt m40).then m42 ((aC (.inl (by simp)) aN))).then m43 ((aC (.inl (by simp)) aN))).nt m44).then m46 ((aC (.inl (by simp)) aN))).then m47 ((aC (.inl (by simp)) aN))).nt m48).then m50 ((aC (.inl (by simp)) aN))).then m51 ((aC (.inl (by simp)) aN))).nt m52).then m54 ((aC (.inl (by simp)) aN))).then m55 ((aC (.inl (by simp)) aN))).nt m56).then m58 ((aC (.inl (by simp)) aN)))⟩ (by first | (dsimp only; omega) | omega)
 ·have hp1 := of_decide_eq_false hb1
  refine CE.cond_f rfl hb1 ?_
  refine CE.exit' (XE.exit_then (XE.exit_then (XE.exit_here (NE.code (CE.seq (CE.region ?_))))))
  iterate 2 refine WL.det (op_assign rfl) rfl rfl rfl ?_
  refine WL.end (NE.code (CE.ret' ?_))
  refine XE.leaveT Try.results64 (res_tmp rfl (res_tmp rfl res_nil)) ?_
  refine ⟨?_, (((((((((((((((Mod.refl (p :: bR :: bL :: (PR.map BC.b ++ (PL.map BC.b ++ []))) w).nt m1).nt m2).then m3 ((aC (.inr lR) aN))).nt m4).then m5 ((aC (.inr lR) aN))).nt m6).then m7 ((aC (.inr lR) aN))).nt m8).then m9 ((aC (.inr lR) aN))).nt m10).then m11 ((aC (.inr lR) aN))).nt m12).then m13 ((aC (.inr lR) aN))).then m14 ((aC (.inl (by simp)) (aC (.inl (by simp)) (aC (.inl (by simp)) (aC (.inr lR) (aI (fun x hx => by simp only [List.mem_cons, List.mem_append, hx, true_or, or_true]) (aI (fun x hx => by simp only [List.mem_cons, List.mem_append, hx, true_or, or_true]) aN))))))))⟩
  all_goals first | (rw [← he, silG_yes (hzE _ (hE.symm.trans hbE)) (by omega)]; done) | (rw [← he, silG_no (by omega)]; done)

theorem c_iSilP3 (GR : List RD) (GL : List RD) (xS : List Nat) (cR : Nat) (bR : Nat) (PR : List BC) (loR : Nat) (cL : Nat) (bL : Nat) (PL : List BC) (loL : Nat) (cS : Nat) (bS : Nat) (k : Int) (kc0 : Nat) (kc1 : Nat) (kc2 : Nat) (ks0 : Nat) (ks1 : Nat) (op : Bool) (lo : Nat) (re : Nat) (sl : Nat) (most : Nat) (rv : Int × Int) (lDR : GR.length = 3) (lDL : GL.length = 3) (lnS : xS.length = 2) (hzR : ∀ i, (GR.getD i RD.d).xs.length ≤ 1048576) (hzL : ∀ i, (GL.getD i RD.d).xs.length ≤ 1048576) (lPR : PR.length = 3) (lPL : PL.length = 3) (hpR : ∀ i, i < 3 → 0 < (GR.getD i RD.d).xs.length) (hpL : ∀ i, i < 3 → 0 < (GL.getD i RD.d).xs.length) (gR : GoodD GR 3) (gL : GoodD GL 3) (lks0 : ks0 < wid .f32) (lks1 : ks1 < wid .f32) (hm : most ≤ 100000) (hv : vPipe 3 3 2 GR GL xS k kc0 kc1 kc2 ks0 ks1 lo re sl = true) (erv : rv = silG (fun ii => pipeSil 3 3 (pipeAt 3 2 xS k kc0 kc1 kc2 op lo re sl (PipeSt.mk GR GL ks0 ks1) (fun _ => 0) ii)) (most + 1) 0) (w : World) (rR : Rng w bR 0 (olc GR PR)) (rL : Rng w bL 0 (olc GL PL)) (rS : Rng w bS 0 (fl xS))  (FR : OF loR w GR PR) (FL : OF loL w GL PL) : Cl Try.prog 19 #[.agg #[vS bR 0 3 cR, vS bL 0 3 cL, vS bS 0 2 cS, vI k, vF kc0, vF kc1, vF kc2, vF ks0, vF ks1, .bool op, vF lo, vF re, vF sl], vI ((most : Nat) : Int)] w fun v w' => v = .tuple #[vI rv.1, vI rv.2] ∧ Mod [] w w' := by
 have hs : 1 ≤ 3 ∧ 3 ≤ 3 ∧ 3 = 3 ∧ 2 + 1 = 3 := by omega
 refine Cl.of Try.func19 Try.ntmps19 rfl rfl (ρ := [(0, .agg #[vS bR 0 3 cR, vS bL 0 3 cL, vS bS 0 2 cS, vI k, vF kc0, vF kc1, vF kc2, vF ks0, vF ks1, .bool op, vF lo, vF re, vF sl]), (1, vI ((most : Nat) : Int))]) rfl ?_
 refine CE.seq (CE.region ?_)
 refine WL.op (op_box (cs := [vS bR 0 3 cR, vS bL 0 3 cL, vS bS 0 2 cS, vI k, vF kc0, vF kc1, vF kc2, vF ks0, vF ks1, .bool op, vF lo, vF re, vF sl]) rfl rfl) rfl rfl (ltb rfl) ?_
 rintro _ w1 ⟨rfl, r1, m1, z1⟩
 iterate 2 refine WL.det (op_assign rfl) rfl rfl rfl ?_
 refine WL.end (NE.code (CE.seq (CE.block (CE.seq (CE.region ?_)))))
 refine WL.det (op_loadA (i := 0) (cs := [vS bR 0 3 cR, vS bL 0 3 cL, vS bS 0 2 cS, vI k, vF kc0, vF kc1, vF kc2, vF ks0, vF ks1, .bool op, vF lo, vF re, vF sl]) rfl Try.isAgg33 Try.sizeOf33 r1.rng rfl rfl rfl) rfl rfl rfl ?_
 refine WL.call (oc_call (vs := [.agg #[vS bR 0 3 cR, vS bL 0 3 cL, vS bS 0 2 cS, vI k, vF kc0, vF kc1, vF kc2, vF ks0, vF ks1, .bool op, vF lo, vF re, vF sl]]) (cap := []) rfl rfl rfl Try.call44 (c_ValidPipeS 3 GR 3 GL 2 xS cR bR PR loR cL bL PL loL cS bS k kc0 kc1 kc2 ks0 ks1 op lo re sl lDR lDL lnS (by first | assumption | exact rd_small (by assumption) (by assumption) | exact markD_small (by first | assumption | exact rd_small (by assumption) (by assumption)) _) (by first | assumption | exact rd_small (by assumption) (by assumption) | exact markD_small (by first | assumption | exact rd_small (by assumption) (by assumption)) _) lPR lPL (by first | assumption | omega) (by first | assumption | omega) (by first | assumption | omega) (by omega) w1 (rR.ext m1) (rL.ext m1) (rS.ext m1) (FR.ext m1) (FL.ext m1))) rfl rfl (ltb rfl) ?_
 rintro _ w2 ⟨rfl, m2⟩
 refine WL.det (op_not rfl) rfl rfl rfl ?_
 refine WL.det (op_assign rfl) rfl rfl rfl ?_
 refine WL.end (NE.code ?_)
 refine CE.cond_f rfl (bnot_t hv) ?_
 refine CE.seq (CE.region ?_)
 refine WL.det (op_move rfl) rfl rfl rfl ?_
 refine WL.call (oc_call (vs := [vI ((most : Nat) : Int), vI 0, vI 100000]) (cap := []) rfl rfl rfl Try.call62 (c_within ((most : Nat) : Int) (0 : Int) (100000 : Int) w2)) rfl rfl (ltb rfl) ?_
 rintro _ _ ⟨rfl, rfl⟩
 refine WL.det (op_not rfl) rfl rfl rfl ?_
 refine WL.det (op_assign rfl) rfl rfl rfl ?_
 refine WL.end (NE.code ?_)
 refine CE.cond_f rfl (bnot_t ((vIn_t _ _ _).2 ⟨by omega, by omega⟩)) ?_
 refine CE.skip' (NE.blk (NE.code (CE.seq (CE.region ?_))))
 refine WL.det (op_loadA (i := 0) (cs := [vS bR 0 3 cR, vS bL 0 3 cL, vS bS 0 2 cS, vI k, vF kc0, vF kc1, vF kc2, vF ks0, vF ks1, .bool op, vF lo, vF re, vF sl]) rfl Try.isAgg33 Try.sizeOf33 (r1.ext m2).rng rfl rfl rfl) rfl rfl rfl ?_
 refine WL.call (oc_call (vs := [.agg #[vS bR 0 3 cR, vS bL 0 3 cL, vS bS 0 2 cS, vI k, vF kc0, vF kc1, vF kc2, vF ks0, vF ks1, .bool op, vF lo, vF re, vF sl]]) (cap := []) rfl rfl rfl Try.call63 (c_clonePipeS 3 GR 3 GL 2 xS cR bR PR loR cL bL PL loL cS bS k kc0 kc1 kc2 ks0 ks1 op lo re sl lDR lDL lnS (by first | assumption | exact rd_small (by assumption) (by assumption) | exact markD_small (by first | assumption | exact rd_small (by assumption) (by assumption)) _) (by first | assumption | exact rd_small (by assumption) (by assumption) | exact markD_small (by first | assumption | exact rd_small (by assumption) (by assumption)) _) lPR lPL (by first | assumption | omega) (by first | assumption | omega) (by first | assumption | omega) (by omega) (by omega) (by first | assumption | exact vRings_pos (by assumption)) (by first | assumption | exact vRings_pos (by assumption)) (by first | assumption | omega) w2 ((rR.ext m1).ext m2) ((rL.ext m1).ext m2) ((rS.ext m1).ext m2) ((FR.ext m1).ext m2) ((FL.ext m1).ext m2))) rfl rfl (ltb rfl) ?_
 rintro _ w3 ⟨bR'1, cR'1, PR'1, bL'1, cL'1, PL'1, bS'1, cS'1, rfl, h1, h2, r2, r3, r4, ge1, ge2, ge3, ne1, ne2, ne3, fm1, fn1, fn2, fn3, fn4, fm2, fn5, fn6, fn7, m3⟩
 refine WL.op0 (op_store (i := 0) (cs := [vS bR'1 0 3 cR'1, vS bL'1 0 3 cL'1, vS bS'1 0 2 cS'1, vI k, vF kc0, vF kc1, vF kc2, vF ks0, vF ks1, .bool op, vF lo, vF re, vF sl]) rfl rfl rfl Try.sizeOf33 rfl ((r1.ext m2).ext m3) rfl (lB rfl) rfl) rfl rfl ?_
 rintro _ w4 ⟨r5, m4, z2⟩
 have r6 : Row w4 w.heap.size 0 [vS bR'1 0 3 cR'1, vS bL'1 0 3 cL'1, vS bS'1 0 2 cS'1, vI k, vF kc0, vF kc1, vF kc2, vF ks0, vF ks1, .bool op, vF lo, vF re, vF sl] := Row.congr r5 rfl
 refine WL.end (NE.code (CE.seq (CE.region ?_)))
 refine WL.det (op_move rfl) rfl rfl rfl ?_
 refine WL.call (oc_call (vs := [vP w.heap.size 0]) (cap := []) rfl rfl rfl Try.call65 (c_rings3 cR'1 bR'1 cL'1 bL'1 cS'1 bS'1 k kc0 kc1 kc2 ks0 ks1 op lo re sl w.heap.size w4 r6.rng)) rfl rfl (ltb rfl) ?_
 rintro _ w5 ⟨b'1, c'1, rfl, r7, ge4, m5⟩
 iterate 2 refine WL.det (op_makeFunc (vs := []) (us := [vP w.heap.size 0]) rfl rfl) rfl rfl rfl ?_
 have r8 := ((r2.mod m4 (nC (lG (lL (lL r1.lt m2.size) ge1)) nN)).ext m5)
 have r9 := ((r3.mod m4 (nC (lG (lL (lL r1.lt m2.size) ge2)) nN)).ext m5)
 have r10 := ((r4.mod m4 (nC (lG (lL (lL r1.lt m2.size) ge3)) nN)).ext m5)
 have sz1 := (lT (lT m2.size m3.size) m4.size)
 refine WL.call (oc_call (vs := [vI ((most : Nat) : Int), vS b'1 0 6 c'1, .func (.func 66) #[] #[vP w.heap.size 0], .func (.func 68) #[] #[vP w.heap.size 0]]) (cap := []) rfl rfl rfl Try.call64 (c_stepsP3 GR GL xS cR'1 bR'1 PR'1 w2.heap.size cL'1 bL'1 PL'1 w2.heap.size cS'1 bS'1 k kc0 kc1 kc2 ks0 ks1 op lo re sl w.heap.size b'1 c'1 most rv lDR lDL lnS (by first | assumption | exact rd_small (by assumption) (by assumption) | exact markD_small (by first | assumption | exact rd_small (by assumption) (by assumption)) _) (by first | assumption | exact rd_small (by assumption) (by assumption) | exact markD_small (by first | assumption | exact rd_small (by assumption) (by assumption)) _) h1 h2 (by assumption) (by assumption) lks0 lks1 (by omega) (by assumption) w5 (r6.ext m5) r8 r9 r10.rng r7.rng (lE (lL (lL r1.lt m2.size) ge1)) (lE (lL (lL r1.lt m2.size) ge2)) (lE (lL (lL r1.lt m2.size) ge3)) ne1 ne2 ne3 (lG (lL (lL r1.lt sz1) ge4)) (lG (lL (lL r2.lt m4.size) ge4)) (lG (lL (lL r3.lt m4.size) ge4)) (lG (lL (lL r4.lt m4.size) ge4)) ((fm1.mod m4 (fun j hj => (nC (lG (lL (lL r1.lt m2.size) (fm1.ge j (Nat.lt_of_lt_of_eq (Nat.lt_of_lt_of_eq hj lDR) lDR.symm)))) nN))).ext m5) (fun j hj => (lG (lL (lL r1.lt m2.size) (fm1.ge j (Nat.lt_of_lt_of_eq hj lDR.symm))))) (fun j hj => (fn1 j hj)) (fun j hj => (fn2 j hj)) (fun j hj => (fn3 j hj)) (fun j hj => (lE (lL (OF.lt fm1 (Nat.lt_of_lt_of_eq hj lDR.symm)) (lT m4.size ge4)))) (fun j q hj hq => (fn4 j q hj hq)) ((fm2.mod m4 (fun j hj => (nC (lG (lL (lL r1.lt m2.size) (fm2.ge j (Nat.lt_of_lt_of_eq (Nat.lt_of_lt_of_eq hj lDL) lDL.symm)))) nN))).ext m5) (fun j hj => (lG (lL (lL r1.lt m2.size) (fm2.ge j (Nat.lt_of_lt_of_eq hj lDL.symm))))) (fun j hj => (fn5 j hj)) (fun j hj => (fn6 j hj)) (fun j hj => (fn7 j hj)) (fun j hj => (lE (lL (OF.lt fm2 (Nat.lt_of_lt_of_eq hj lDL.symm)) (lT m4.size ge4)))))) rfl rfl (ltb rfl) ?_
 rintro _ w6 ⟨rfl, m6⟩
 iterate 2 refine WL.det (op_extract rfl rfl) rfl rfl rfl ?_
 iterate 2 refine WL.det (op_assign rfl) rfl rfl rfl ?_
 refine WL.end (NE.code (CE.ret' ?_))
 refine XE.leaveT Try.results19 (res_tmp rfl (res_tmp rfl res_nil)) ?_
 refine ⟨rfl, (((((((Mod.refl [] w).nt m1).nt m2).nt m3).then m4 ((aC (.inr lR) aN))).nt m5).then m6 ((aC (.inr lR) (aC (.inr (lT (lT m1.size m2.size) ge1)) (aC (.inr (lT (lT m1.size m2.size) ge2)) (aA h1 (fun j hj => (lT (lT m1.size m2.size) (fm1.ge j (Nat.lt_of_lt_of_eq hj lDR.symm)))) (aA h2 (fun j hj => (lT (lT m1.size m2.size) (fm2.ge j (Nat.lt_of_lt_of_eq hj lDL.symm)))) aN)))))))⟩

set_option maxRecDepth 100000 in
theorem c_iSilP (nR : Nat) (GR : List RD) (nL : Nat) (GL : List RD) (nS : Nat) (xS : List Nat) (cR : Nat) (bR : Nat) (PR : List BC) (loR : Nat) (cL : Nat) (bL : Nat) (PL : List BC) (loL : Nat) (cS : Nat) (bS : Nat) (k : Int) (kc0 : Nat) (kc1 : Nat) (kc2 : Nat) (ks0 : Nat) (ks1 : Nat) (op : Bool) (lo : Nat) (re : Nat) (sl : Nat) (most : Nat) (rv : Int × Int) (lDR : GR.length = nR) (lDL : GL.length = nL) (lnS : xS.length = nS) (hzR : ∀ i, (GR.getD i RD.d).xs.length ≤ 1048576) (hzL : ∀ i, (GL.getD i RD.d).xs.length ≤ 1048576) (lPR : PR.length = nR) (lPL : PL.length = nL) (mR : nR ≤ 1048576) (mL : nL ≤ 1048576) (mS : nS ≤ 1048576) (h0n : 0 < nR) (h0m : 0 < nL) (hpR : ∀ i, i < nR → 0 < (GR.getD i RD.d).xs.length) (hpL : ∀ i, i < nL → 0 < (GL.getD i RD.d).xs.length) (hs : 1 ≤ nR ∧ nR ≤ 3 ∧ nL = nR ∧ nS + 1 = nR) (h0s : 0 < nS) (gR : GoodD GR nR) (gL : GoodD GL nL) (lks0 : ks0 < wid .f32) (lks1 : ks1 < wid .f32) (hm : most ≤ 100000) (hv : vPipe nR nL nS GR GL xS k kc0 kc1 kc2 ks0 ks1 lo re sl = true) (erv : rv = silG (fun ii => pipeSil nR nL (pipeAt nR nS xS k kc0 kc1 kc2 op lo re sl (PipeSt.mk GR GL ks0 ks1) (fun _ => 0) ii)) (most + 1) 0) (w : World) (rR : Rng w bR 0 (olc GR PR)) (rL : Rng w bL 0 (olc GL PL)) (rS : Rng w bS 0 (fl xS))  (FR : OF loR w GR PR) (FL : OF loL w GL PL) : Cl Try.prog 19 #[.agg #[vS bR 0 nR cR, vS bL 0 nL cL, vS bS 0 nS cS, vI k, vF kc0, vF kc1, vF kc2, vF ks0, vF ks1, .bool op, vF lo, vF re, vF sl], vI ((most : Nat) : Int)] w fun v w' => v = .tuple #[vI rv.1, vI rv.2] ∧ Mod [] w w' := by
  rcases (show nR = 2 ∨ nR = 3 by omega) with e | e
  · obtain rfl : nL = 2 := by omega
    obtain rfl : nS = 1 := by omega
    subst e
    exact c_iSilP2 GR GL xS cR bR PR loR cL bL PL loL cS bS k kc0 kc1 kc2 ks0 ks1 op lo re sl most rv lDR lDL lnS hzR hzL lPR lPL hpR hpL gR gL lks0 lks1 hm hv erv w rR rL rS  FR FL
  · obtain rfl : nL = 3 := by omega
    obtain rfl : nS = 2 := by omega
    subst e
    exact c_iSilP3 GR GL xS cR bR PR loR cL bL PL loL cS bS k kc0 kc1 kc2 ks0 ks1 op lo re sl most rv lDR lDL lnS hzR hzL lPR lPL hpR hpL gR gL lks0 lks1 hm hv erv w rR rL rS  FR FL

set_option maxRecDepth 100000 in
theorem c_iSilP0 (nR : Nat) (GR : List RD) (nL : Nat) (GL : List RD) (xS : List Nat) (cR : Nat) (bR : Nat) (PR : List BC) (loR : Nat) (cL : Nat) (bL : Nat) (PL : List BC) (loL : Nat) (cS : Nat) (bS : Nat) (k : Int) (kc0 : Nat) (kc1 : Nat) (kc2 : Nat) (ks0 : Nat) (ks1 : Nat) (op : Bool) (lo : Nat) (re : Nat) (sl : Nat) (most : Nat) (rv : Int × Int) (lDR : GR.length = nR) (lDL : GL.length = nL) (lnS : xS.length = 0) (hzR : ∀ i, (GR.getD i RD.d).xs.length ≤ 1048576) (hzL : ∀ i, (GL.getD i RD.d).xs.length ≤ 1048576) (lPR : PR.length = nR) (lPL : PL.length = nL) (mR : nR ≤ 1048576) (mL : nL ≤ 1048576) (h0n : 0 < nR) (h0m : 0 < nL) (hpR : ∀ i, i < nR → 0 < (GR.getD i RD.d).xs.length) (hpL : ∀ i, i < nL → 0 < (GL.getD i RD.d).xs.length) (hs : 1 ≤ nR ∧ nR ≤ 3 ∧ nL = nR ∧ 0 + 1 = nR) (gR : GoodD GR nR) (gL : GoodD GL nL) (lks0 : ks0 < wid .f32) (lks1 : ks1 < wid .f32) (hm : most ≤ 100000) (hv : vPipe nR nL 0 GR GL xS k kc0 kc1 kc2 ks0 ks1 lo re sl = true) (erv : rv = silG (fun ii => pipeSil nR nL (pipeAt nR 0 xS k kc0 kc1 kc2 op lo re sl (PipeSt.mk GR GL ks0 ks1) (fun _ => 0) ii)) (most + 1) 0) (w : World) (rR : Rng w bR 0 (olc GR PR)) (rL : Rng w bL 0 (olc GL PL)) (rS : Rng w bS 0 (fl xS))  (FR : OF loR w GR PR) (FL : OF loL w GL PL) : Cl Try.prog 19 #[.agg #[vS bR 0 nR cR, vS bL 0 nL cL, vS bS 0 0 cS, vI k, vF kc0, vF kc1, vF kc2, vF ks0, vF ks1, .bool op, vF lo, vF re, vF sl], vI ((most : Nat) : Int)] w fun v w' => v = .tuple #[vI rv.1, vI rv.2] ∧ Mod [] w w' := by
  have e : nR = 1 := by omega
  obtain rfl : nL = 1 := by omega
  subst e
  exact c_iSilP1 GR GL xS cR bR PR loR cL bL PL loL cS bS k kc0 kc1 kc2 ks0 ks1 op lo re sl most rv lDR lDL lnS hzR hzL lPR lPL hpR hpL gR gL lks0 lks1 hm hv erv w rR rL rS  FR FL

end Go.Proofs.Ytnahhdnkbbdceaa
