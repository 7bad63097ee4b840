/- A block that a drawn pipe makes. -/
import Derived.Test.YtnahhdnkbbdceaaN10
set_option linter.unusedVariables false
set_option linter.unusedSimpArgs false
set_option maxRecDepth 100000
set_option maxHeartbeats 8000000
namespace Go.Proofs.Ytnahhdnkbbdceaa

theorem set_snoc {ys : List Nat} {g : Nat → Nat} {i a : Nat} (h : ∀ j, j < i → cn .f32 (ys.getD j 0) = cn .f32 (g j)) (hl : ys.length = 16) (hi : i < 16) (e : cn .f32 a = cn .f32 (g i)) : ∀ j, j < i + 1 → cn .f32 ((ys.set i a).getD j 0) = cn .f32 (g j) := fun j hj => by
  by_cases hji : j = i
  · subst hji
    rw [List.getD_eq_getElem?_getD, List.getElem?_set_self (by omega)]; exact e
  · rw [List.getD_eq_getElem?_getD, List.getElem?_set_ne (by omega), ← List.getD_eq_getElem?_getD]; exact h j (by omega)
theorem cn_of_all {ys : List Nat} {g : Nat → Nat} (hl : ys.length = 16) (h : ∀ j, j < 16 → cn .f32 (ys.getD j 0) = cn .f32 (g j)) : Cn ys (outs g 16) := by
  unfold Cn
  apply List.ext_getElem
  · rw [List.length_map, List.length_map, hl, outs_len]
  · intro j h1 h2
    have hj : j < 16 := by rw [List.length_map, hl] at h1; exact h1
    have := h j hj
    rw [List.getElem_map, List.getElem_map]
    rw [List.getD_eq_getElem?_getD, List.getElem?_eq_getElem (by omega)] at this
    simp only [outs, List.getElem_map, List.getElem_range]
    exact this

theorem c_blockP1 (nR : Nat) (GR : List RD) (nL : Nat) (GL : List RD) (nS : Nat) (xS : List Nat) (cR : Nat) (bR : Nat) (PR : List BC) (loR : Nat) (cL : Nat) (bL : Nat) (PL : List BC) (loL : Nat) (cS : Nat) (bS : Nat) (k : Int) (kc0 : Nat) (kc1 : Nat) (kc2 : Nat) (ks0 : Nat) (ks1 : Nat) (op : Bool) (lo : Nat) (re : Nat) (sl : Nat) (p : Nat) (d : Nat) (bs : List Nat) (i : Nat) (lDR : GR.length = nR) (lDL : GL.length = nL) (lnS : xS.length = nS) (hzR : ∀ i, (GR.getD i RD.d).xs.length ≤ 1048576) (hzL : ∀ i, (GL.getD i RD.d).xs.length ≤ 1048576) (lPR : PR.length = nR) (lPL : PL.length = nL) (mR : nR ≤ 1048576) (mL : nL ≤ 1048576) (mS : nS ≤ 1048576) (hs : 1 ≤ nR ∧ nR ≤ 3 ∧ nL = nR ∧ nS + 1 = nR) (gR : GoodD GR nR) (gL : GoodD GL nL) (lks0 : ks0 < wid .f32) (lks1 : ks1 < wid .f32) (lb : bs.length = 16) (wb : W32 bs) (hi : i < 16) (w : World) (q : Row w p 0 [vS bR 0 nR cR, vS bL 0 nL cL, vS bS 0 nS cS, vI k, vF kc0, vF kc1, vF kc2, vF ks0, vF ks1, .bool op, vF lo, vF re, vF sl]) (rR : Row w bR 0 (olc GR PR)) (rL : Row w bL 0 (olc GL PL)) (rS : Row w bS 0 (fl xS)) (rd : Rng w d 0 (fl bs)) (n1 : p ≠ bR) (n2 : p ≠ bL) (n3 : p ≠ bS) (n4 : bR ≠ bL) (n5 : bR ≠ bS) (n6 : bL ≠ bS) (n7 : d ≠ p) (n8 : d ≠ bR) (n9 : d ≠ bL)  (FR : OF loR w GR PR) (gRp : (∀ i, i < nR → (PR.getD i BC.d).b ≠ p)) (gRR : (∀ i, i < nR → (PR.getD i BC.d).b ≠ bR)) (gRL : (∀ i, i < nR → (PR.getD i BC.d).b ≠ bL)) (gRS : (∀ i, i < nR → (PR.getD i BC.d).b ≠ bS)) (gPP : (∀ i j, i < nR → j < nL → (PR.getD i BC.d).b ≠ (PL.getD j BC.d).b)) (gRd : (∀ i, i < nR → (PR.getD i BC.d).b ≠ d)) (FL : OF loL w GL PL) (gLp : (∀ i, i < nL → (PL.getD i BC.d).b ≠ p)) (gLR : (∀ i, i < nL → (PL.getD i BC.d).b ≠ bR)) (gLL : (∀ i, i < nL → (PL.getD i BC.d).b ≠ bL)) (gLS : (∀ i, i < nL → (PL.getD i BC.d).b ≠ bS)) (gLd : (∀ i, i < nL → (PL.getD i BC.d).b ≠ d)) : Cl Try.prog 106 #[vI ((i : Nat) : Int), vP p 0, vP d 0] w fun v w' => ∃ (y : Nat), v = vF y ∧ (cn .f32 y = cn .f32 (stepY k kc0 kc1 kc2 ks0 ks1 (oldD GR (nR - 1)))) ∧ (y < wid .f32) ∧ ((stepS k kc0 kc1 kc2 ks0 ks1 (oldD GR (nR - 1))) < wid .f32) ∧ ((stepT k kc0 kc1 kc2 ks0 ks1 (oldD GR (nR - 1))) < wid .f32) ∧ (GoodD (stR GR GL xS re sl (bs.getD i 0) nS) nR) ∧ (GoodD (endL GR GL xS op lo (stepY k kc0 kc1 kc2 ks0 ks1 (oldD GR (nR - 1))) nR nS) nL) ∧ Row w' p 0 [vS bR 0 nR cR, vS bL 0 nL cL, vS bS 0 nS cS, vI k, vF kc0, vF kc1, vF kc2, vF (stepS k kc0 kc1 kc2 ks0 ks1 (oldD GR (nR - 1))), vF (stepT k kc0 kc1 kc2 ks0 ks1 (oldD GR (nR - 1))), .bool op, vF lo, vF re, vF sl] ∧ Row w' bR 0 (olc (stR GR GL xS re sl (bs.getD i 0) nS) PR) ∧ Row w' bL 0 (olc (endL GR GL xS op lo (stepY k kc0 kc1 kc2 ks0 ks1 (oldD GR (nR - 1))) nR nS) PL) ∧ OF loR w' (stR GR GL xS re sl (bs.getD i 0) nS) PR ∧ OF loL w' (endL GR GL xS op lo (stepY k kc0 kc1 kc2 ks0 ks1 (oldD GR (nR - 1))) nR nS) PL ∧ Mod (p :: bR :: bL :: (PR.map BC.b ++ (PL.map BC.b ++ []))) w w' := by
 refine Cl.of Try.func106 Try.ntmps106 rfl rfl (ρ := [(0, vI ((i : Nat) : Int)), (1, vP p 0), (2, vP d 0)]) rfl ?_
 refine CE.seq (CE.region ?_)
 refine WD (op_assign rfl) rfl ?_
 refine WL.end (NE.code (CE.seq (CE.region ?_)))
 refine WD (op_move rfl) rfl ?_
 refine WD (op_indexArr (off' := 0 + i) rfl rfl Try.runUnderlying72 Try.sizeOf27 (by omega) (by omega) (by omega)) rfl ?_
 refine WD (op_load1 (i := i) rfl Try.isAgg27 rd rfl (fl_get (by have eL : List.length bs = 16 := lb; omega))) rfl ?_
 refine WL.call (oc_call (vs := [vP p 0, vF (bs.getD i 0)]) (cap := []) rfl rfl rfl Try.call69 (c_pipeStep nR GR nL GL nS xS cR bR PR loR cL bL PL loL cS bS k kc0 kc1 kc2 ks0 ks1 op lo re sl p (bs.getD i 0) (bs.getD i 0) lDR lDL lnS (by first | assumption | exact rd_small (by assumption) (by assumption) | exact markD_small (by first | assumption | exact rd_small (by assumption) (by assumption)) _) (by first | assumption | exact rd_small (by assumption) (by assumption) | exact markD_small (by first | assumption | exact rd_small (by assumption) (by assumption)) _) lPR lPL (by first | assumption | omega) (by first | assumption | omega) (by first | assumption | omega) (by first | assumption | omega) (by assumption) (by assumption) lks0 lks1 rfl (wb.get _) w q rR rL rS.rng n1 n2 n3 n4 n5 n6 FR (fun j hj => (gRp j hj)) (fun j hj => (gRR j hj)) (fun j hj => (gRL j hj)) (fun j hj => (gRS j hj)) (fun j q hj hq => (gPP j q hj hq)) FL (fun j hj => (gLp j hj)) (fun j hj => (gLR j hj)) (fun j hj => (gLL j hj)) (fun j hj => (gLS j hj)))) rfl rfl (ltb rfl) ?_
 rintro _ w1 ⟨y1, rfl, h1, h2, h3, h4, h5, h6, r1, r2, r3, fm1, fm2, m1⟩
 refine WD (op_assign rfl) rfl ?_
 refine WL.end (NE.code (CE.ret' ?_))
 refine XE.leave1 Try.results106 rfl ?_
 refine ⟨y1, rfl, h1, h2, ?_, ?_, ?_, ?_, r1, r2, r3, fm1, fm2, ((Mod.refl (p :: bR :: bL :: (PR.map BC.b ++ (PL.map BC.b ++ []))) w).then m1 ((aC (.inl (by simp)) (aC (.inl (by simp)) (aC (.inl (by simp)) (aI (fun x hx => by simp only [List.mem_cons, List.mem_append, hx, true_or, or_true]) (aI (fun x hx => by simp only [List.mem_cons, List.mem_append, hx, true_or, or_true]) aN)))))))⟩
 all_goals first | assumption | rfl

theorem c_made_blockP (nR : Nat) (GR : List RD) (nL : Nat) (GL : List RD) (nS : Nat) (xS : List Nat) (cR : Nat) (bR : Nat) (PR : List BC) (loR : Nat) (cL : Nat) (bL : Nat) (PL : List BC) (loL : Nat) (cS : Nat) (bS : Nat) (k : Int) (kc0 : Nat) (kc1 : Nat) (kc2 : Nat) (ks0 : Nat) (ks1 : Nat) (op : Bool) (lo : Nat) (re : Nat) (sl : Nat) (p : Nat) (d : Nat) (bs : List Nat) (lDR : GR.length = nR) (lDL : GL.length = nL) (lnS : xS.length = nS) (hzR : ∀ i, (GR.getD i RD.d).xs.length ≤ 1048576) (hzL : ∀ i, (GL.getD i RD.d).xs.length ≤ 1048576) (lPR : PR.length = nR) (lPL : PL.length = nL) (mR : nR ≤ 1048576) (mL : nL ≤ 1048576) (mS : nS ≤ 1048576) (hs : 1 ≤ nR ∧ nR ≤ 3 ∧ nL = nR ∧ nS + 1 = nR) (gR : GoodD GR nR) (gL : GoodD GL nL) (lks0 : ks0 < wid .f32) (lks1 : ks1 < wid .f32) (lb : bs.length = 16) (wb : W32 bs) (w : World) (q : Row w p 0 [vS bR 0 nR cR, vS bL 0 nL cL, vS bS 0 nS cS, vI k, vF kc0, vF kc1, vF kc2, vF ks0, vF ks1, .bool op, vF lo, vF re, vF sl]) (rR : Row w bR 0 (olc GR PR)) (rL : Row w bL 0 (olc GL PL)) (rS : Row w bS 0 (fl xS)) (rd : Rng w d 0 (fl bs)) (n1 : p ≠ bR) (n2 : p ≠ bL) (n3 : p ≠ bS) (n4 : bR ≠ bL) (n5 : bR ≠ bS) (n6 : bL ≠ bS) (n7 : d ≠ p) (n8 : d ≠ bR) (n9 : d ≠ bL)  (FR : OF loR w GR PR) (gRp : (∀ i, i < nR → (PR.getD i BC.d).b ≠ p)) (gRR : (∀ i, i < nR → (PR.getD i BC.d).b ≠ bR)) (gRL : (∀ i, i < nR → (PR.getD i BC.d).b ≠ bL)) (gRS : (∀ i, i < nR → (PR.getD i BC.d).b ≠ bS)) (gPP : (∀ i j, i < nR → j < nL → (PR.getD i BC.d).b ≠ (PL.getD j BC.d).b)) (gRd : (∀ i, i < nR → (PR.getD i BC.d).b ≠ d)) (FL : OF loL w GL PL) (gLp : (∀ i, i < nL → (PL.getD i BC.d).b ≠ p)) (gLR : (∀ i, i < nL → (PL.getD i BC.d).b ≠ bR)) (gLL : (∀ i, i < nL → (PL.getD i BC.d).b ≠ bL)) (gLS : (∀ i, i < nL → (PL.getD i BC.d).b ≠ bS)) (gLd : (∀ i, i < nL → (PL.getD i BC.d).b ≠ d)) : Cl Try.prog 105 #[.func (.func 106) #[] #[vP p 0, vP d 0]] w fun v w' => ∃ (ys : List Nat), v = .agg (fl ys).toArray ∧ (ys.length = 16) ∧ (W32 ys) ∧ (Cn ys (outs (pipeOut nR nS xS k kc0 kc1 kc2 op lo re sl (PipeSt.mk GR GL ks0 ks1) (fun j => bs.getD j 0)) 16)) ∧ ((pipeAt nR nS xS k kc0 kc1 kc2 op lo re sl (PipeSt.mk GR GL ks0 ks1) (fun j => bs.getD j 0) 16).R.length = nR) ∧ ((pipeAt nR nS xS k kc0 kc1 kc2 op lo re sl (PipeSt.mk GR GL ks0 ks1) (fun j => bs.getD j 0) 16).L.length = nL) ∧ ((pipeAt nR nS xS k kc0 kc1 kc2 op lo re sl (PipeSt.mk GR GL ks0 ks1) (fun j => bs.getD j 0) 16).s0 < wid .f32) ∧ ((pipeAt nR nS xS k kc0 kc1 kc2 op lo re sl (PipeSt.mk GR GL ks0 ks1) (fun j => bs.getD j 0) 16).s1 < wid .f32) ∧ Row w' p 0 [vS bR 0 nR cR, vS bL 0 nL cL, vS bS 0 nS cS, vI k, vF kc0, vF kc1, vF kc2, vF ((pipeAt nR nS xS k kc0 kc1 kc2 op lo re sl (PipeSt.mk GR GL ks0 ks1) (fun j => bs.getD j 0) 16).s0), vF ((pipeAt nR nS xS k kc0 kc1 kc2 op lo re sl (PipeSt.mk GR GL ks0 ks1) (fun j => bs.getD j 0) 16).s1), .bool op, vF lo, vF re, vF sl] ∧ Row w' bR 0 (olc ((pipeAt nR nS xS k kc0 kc1 kc2 op lo re sl (PipeSt.mk GR GL ks0 ks1) (fun j => bs.getD j 0) 16).R) PR) ∧ Row w' bL 0 (olc ((pipeAt nR nS xS k kc0 kc1 kc2 op lo re sl (PipeSt.mk GR GL ks0 ks1) (fun j => bs.getD j 0) 16).L) PL) ∧ OF loR w' ((pipeAt nR nS xS k kc0 kc1 kc2 op lo re sl (PipeSt.mk GR GL ks0 ks1) (fun j => bs.getD j 0) 16).R) PR ∧ OF loL w' ((pipeAt nR nS xS k kc0 kc1 kc2 op lo re sl (PipeSt.mk GR GL ks0 ks1) (fun j => bs.getD j 0) 16).L) PL ∧ Mod (p :: bR :: bL :: (PR.map BC.b ++ (PL.map BC.b ++ []))) w w' := by
 refine Cl.of Try.func105 Try.ntmps105 rfl rfl (ρ := [(0, .func (.func 106) #[] #[vP p 0, vP d 0])]) rfl ?_
 refine CE.seq (CE.region ?_)
 refine WL.op (op_alloc (cs := fl (List.replicate 16 0)) Try.zeroValue72 rfl) rfl rfl (ltb rfl) ?_
 rintro _ w1 ⟨rfl, r1, m1, z1⟩
 refine WL.end (NE.code (CE.seq (CE.region ?_)))
 refine WL.op (op_alloc (cs := fl (List.replicate 16 0)) Try.zeroValue72 rfl) rfl rfl (ltb rfl) ?_
 rintro _ w2 ⟨rfl, r2, m2, z2⟩
 refine WL.end (NE.code (CE.seq (CE.seq (CE.region ?_))))
 refine WD (op_move rfl) rfl ?_
 refine WL.end (NE.code (CE.block ?_))
 refine CE.loop (fun (z : Nat × List Nat) => [(5, vI ((z.1 : Nat) : Int)), (0, .func (.func 106) #[] #[vP p 0, vP d 0]), (2, vP w.heap.size 0), (3, vP w1.heap.size 0)]) (fun (z : Nat × List Nat) => fun W => (z.1 ≤ 16) ∧ (GoodD (pipeAt nR nS xS k kc0 kc1 kc2 op lo re sl (PipeSt.mk GR GL ks0 ks1) (fun j => bs.getD j 0) z.1).R nR) ∧ (GoodD (pipeAt nR nS xS k kc0 kc1 kc2 op lo re sl (PipeSt.mk GR GL ks0 ks1) (fun j => bs.getD j 0) z.1).L nL) ∧ ((pipeAt nR nS xS k kc0 kc1 kc2 op lo re sl (PipeSt.mk GR GL ks0 ks1) (fun j => bs.getD j 0) z.1).R.length = nR) ∧ ((pipeAt nR nS xS k kc0 kc1 kc2 op lo re sl (PipeSt.mk GR GL ks0 ks1) (fun j => bs.getD j 0) z.1).L.length = nL) ∧ (∀ j, ((pipeAt nR nS xS k kc0 kc1 kc2 op lo re sl (PipeSt.mk GR GL ks0 ks1) (fun j => bs.getD j 0) z.1).R.getD j RD.d).xs.length ≤ 1048576) ∧ (∀ j, ((pipeAt nR nS xS k kc0 kc1 kc2 op lo re sl (PipeSt.mk GR GL ks0 ks1) (fun j => bs.getD j 0) z.1).L.getD j RD.d).xs.length ≤ 1048576) ∧ ((pipeAt nR nS xS k kc0 kc1 kc2 op lo re sl (PipeSt.mk GR GL ks0 ks1) (fun j => bs.getD j 0) z.1).s0 < wid .f32) ∧ ((pipeAt nR nS xS k kc0 kc1 kc2 op lo re sl (PipeSt.mk GR GL ks0 ks1) (fun j => bs.getD j 0) z.1).s1 < wid .f32) ∧ (z.2.length = 16) ∧ (W32 z.2) ∧ (∀ j, j < z.1 → cn .f32 (z.2.getD j 0) = cn .f32 ((pipeOut nR nS xS k kc0 kc1 kc2 op lo re sl (PipeSt.mk GR GL ks0 ks1) (fun j => bs.getD j 0)) j)) ∧ Row W p 0 [vS bR 0 nR cR, vS bL 0 nL cL, vS bS 0 nS cS, vI k, vF kc0, vF kc1, vF kc2, vF ((pipeAt nR nS xS k kc0 kc1 kc2 op lo re sl (PipeSt.mk GR GL ks0 ks1) (fun j => bs.getD j 0) z.1).s0), vF ((pipeAt nR nS xS k kc0 kc1 kc2 op lo re sl (PipeSt.mk GR GL ks0 ks1) (fun j => bs.getD j 0) z.1).s1), .bool op, vF lo, vF re, vF sl] ∧ Row W bR 0 (olc ((pipeAt nR nS xS k kc0 kc1 kc2 op lo re sl (PipeSt.mk GR GL ks0 ks1) (fun j => bs.getD j 0) z.1).R) PR) ∧ Row W bL 0 (olc ((pipeAt nR nS xS k kc0 kc1 kc2 op lo re sl (PipeSt.mk GR GL ks0 ks1) (fun j => bs.getD j 0) z.1).L) PL) ∧ Row W w1.heap.size 0 (fl z.2) ∧ OF loR W ((pipeAt nR nS xS k kc0 kc1 kc2 op lo re sl (PipeSt.mk GR GL ks0 ks1) (fun j => bs.getD j 0) z.1).R) PR ∧ OF loL W ((pipeAt nR nS xS k kc0 kc1 kc2 op lo re sl (PipeSt.mk GR GL ks0 ks1) (fun j => bs.getD j 0) z.1).L) PL ∧ Mod (p :: bR :: bL :: w1.heap.size :: (PR.map BC.b ++ (PL.map BC.b ++ []))) w2 W) (fun (z : Nat × List Nat) => 16 - z.1) (0, (List.replicate 16 0)) (⟨rfl, rfl, rfl, rfl, trivial⟩) ⟨(by omega), (by rw [pipeAt_zero]; exact gR), (by rw [pipeAt_zero]; exact gL), (by rw [pipeAt_zero]; exact lDR), (by rw [pipeAt_zero]; exact lDL), (by exact fun j => Nat.le_trans (Nat.le_of_eq (pipeAt_lens j _).1) (hzR j)), (by exact fun j => Nat.le_trans (Nat.le_of_eq (pipeAt_lens j _).2) (hzL j)), (by rw [pipeAt_zero]; assumption), (by rw [pipeAt_zero]; assumption), (by exact List.length_replicate), (by exact W32.zeros _), (by intro j hj; omega), (Row.congr ((q.ext m1).ext m2) (by rw [pipeAt_zero])), (Row.congr ((rR.ext m1).ext m2) (by rw [pipeAt_zero])), (Row.congr ((rL.ext m1).ext m2) (by rw [pipeAt_zero])), (Row.congr r2 rfl), (OF.congr ((FR.ext m1).ext m2) (by rw [pipeAt_zero])), (OF.congr ((FL.ext m1).ext m2) (by rw [pipeAt_zero])), Mod.refl _ _⟩ ?_
 rintro ⟨i, ys⟩ w3 ⟨hi, g1, g2, l1, l2, z1, z2, b0, b1, hly, hwy, hcy, r3, r4, r5, r6, fm1, fm2, m3⟩
 replace hi : i ≤ 16 := hi
 replace g1 : GoodD (pipeAt nR nS xS k kc0 kc1 kc2 op lo re sl (PipeSt.mk GR GL ks0 ks1) (fun j => bs.getD j 0) i).R nR := g1
 replace g2 : GoodD (pipeAt nR nS xS k kc0 kc1 kc2 op lo re sl (PipeSt.mk GR GL ks0 ks1) (fun j => bs.getD j 0) i).L nL := g2
 replace l1 : (pipeAt nR nS xS k kc0 kc1 kc2 op lo re sl (PipeSt.mk GR GL ks0 ks1) (fun j => bs.getD j 0) i).R.length = nR := l1
 replace l2 : (pipeAt nR nS xS k kc0 kc1 kc2 op lo re sl (PipeSt.mk GR GL ks0 ks1) (fun j => bs.getD j 0) i).L.length = nL := l2
 replace z1 : ∀ j, ((pipeAt nR nS xS k kc0 kc1 kc2 op lo re sl (PipeSt.mk GR GL ks0 ks1) (fun j => bs.getD j 0) i).R.getD j RD.d).xs.length ≤ 1048576 := z1
 replace z2 : ∀ j, ((pipeAt nR nS xS k kc0 kc1 kc2 op lo re sl (PipeSt.mk GR GL ks0 ks1) (fun j => bs.getD j 0) i).L.getD j RD.d).xs.length ≤ 1048576 := z2
 replace b0 : (pipeAt nR nS xS k kc0 kc1 kc2 op lo re sl (PipeSt.mk GR GL ks0 ks1) (fun j => bs.getD j 0) i).s0 < wid .f32 := b0
 replace b1 : (pipeAt nR nS xS k kc0 kc1 kc2 op lo re sl (PipeSt.mk GR GL ks0 ks1) (fun j => bs.getD j 0) i).s1 < wid .f32 := b1
 replace hly : ys.length = 16 := hly
 replace hwy : W32 ys := hwy
 replace hcy : ∀ j, j < i → cn .f32 (ys.getD j 0) = cn .f32 ((pipeOut nR nS xS k kc0 kc1 kc2 op lo re sl (PipeSt.mk GR GL ks0 ks1) (fun j => bs.getD j 0)) j) := hcy
 replace r3 : Row w3 p 0 [vS bR 0 nR cR, vS bL 0 nL cL, vS bS 0 nS cS, vI k, vF kc0, vF kc1, vF kc2, vF ((pipeAt nR nS xS k kc0 kc1 kc2 op lo re sl (PipeSt.mk GR GL ks0 ks1) (fun j => bs.getD j 0) i).s0), vF ((pipeAt nR nS xS k kc0 kc1 kc2 op lo re sl (PipeSt.mk GR GL ks0 ks1) (fun j => bs.getD j 0) i).s1), .bool op, vF lo, vF re, vF sl] := r3
 replace r4 : Row w3 bR 0 (olc ((pipeAt nR nS xS k kc0 kc1 kc2 op lo re sl (PipeSt.mk GR GL ks0 ks1) (fun j => bs.getD j 0) i).R) PR) := r4
 replace r5 : Row w3 bL 0 (olc ((pipeAt nR nS xS k kc0 kc1 kc2 op lo re sl (PipeSt.mk GR GL ks0 ks1) (fun j => bs.getD j 0) i).L) PL) := r5
 replace r6 : Row w3 w1.heap.size 0 (fl ys) := r6
 replace fm1 : OF loR w3 ((pipeAt nR nS xS k kc0 kc1 kc2 op lo re sl (PipeSt.mk GR GL ks0 ks1) (fun j => bs.getD j 0) i).R) PR := fm1
 replace fm2 : OF loL w3 ((pipeAt nR nS xS k kc0 kc1 kc2 op lo re sl (PipeSt.mk GR GL ks0 ks1) (fun j => bs.getD j 0) i).L) PL := fm2
 show CE _ _ _ _ [(5, vI ((i : Nat) : Int)), (0, .func (.func 106) #[] #[vP p 0, vP d 0]), (2, vP w.heap.size 0), (3, vP w1.heap.size 0)] _
 refine CE.seq (CE.region ?_)
 refine WD (op_lti rfl rfl) rfl ?_
 refine WL.end (NE.code (CE.seq ?_))
 rcases Bool.eq_false_or_eq_true (decide (((i : Nat) : Int) < (16 : Int))) with hb1 | hb1
 ·have hp1 := of_decide_eq_true hb1
  refine CE.cond_t rfl hb1 ?_
  refine CE.skip' (NE.code (CE.seq (CE.block (CE.seq (CE.region ?_)))))
  refine WD (op_move rfl) rfl ?_
  refine WD (op_assign rfl) rfl ?_
  refine WL.end (NE.code (CE.region ?_))
  iterate 3 refine WD (op_move rfl) rfl ?_
  have r7 := (((rS.ext m1).ext m2).mod m3 (nC (Ne.symm n3) (nC (Ne.symm n5) (nC (Ne.symm n6) (nC (lE (lL (lL rS.lt m1.size) lR)) (nA lPR (fun j hj => (gRS j hj)) (nA lPL (fun j hj => (gLS j hj)) nN)))))))
  have r8 := (((rd.ext m1).ext m2).mod m3 (nC n7 (nC n8 (nC n9 (nC (lE (lL (lL (rd.lt (by have eL : List.length bs = 16 := lb; rw [fl_length]; omega)) m1.size) lR)) (nA lPR (fun j hj => (gRd j hj)) (nA lPL (fun j hj => (gLd j hj)) nN)))))))
  refine WL.call (oc_call (vs := [vI ((i : Nat) : Int)]) (cap := [vP p 0, vP d 0]) rfl rfl rfl Try.call106 (c_blockP1 nR ((pipeAt nR nS xS k kc0 kc1 kc2 op lo re sl (PipeSt.mk GR GL ks0 ks1) (fun j => bs.getD j 0) i).R) nL ((pipeAt nR nS xS k kc0 kc1 kc2 op lo re sl (PipeSt.mk GR GL ks0 ks1) (fun j => bs.getD j 0) i).L) nS xS cR bR PR loR cL bL PL loL cS bS k kc0 kc1 kc2 ((pipeAt nR nS xS k kc0 kc1 kc2 op lo re sl (PipeSt.mk GR GL ks0 ks1) (fun j => bs.getD j 0) i).s0) ((pipeAt nR nS xS k kc0 kc1 kc2 op lo re sl (PipeSt.mk GR GL ks0 ks1) (fun j => bs.getD j 0) i).s1) op lo re sl p d bs i l1 l2 lnS (by first | assumption | exact rd_small (by assumption) (by assumption) | exact markD_small (by first | assumption | exact rd_small (by assumption) (by assumption)) _) (by first | assumption | exact rd_small (by assumption) (by assumption) | exact markD_small (by first | assumption | exact rd_small (by assumption) (by assumption)) _) lPR lPL (by first | assumption | omega) (by first | assumption | omega) (by first | assumption | omega) (by first | assumption | omega) (by assumption) (by assumption) b0 b1 lb wb (by omega) w3 r3 r4 r5 r7 r8 n1 n2 n3 n4 n5 n6 n7 n8 n9 fm1 (fun j hj => (gRp j hj)) (fun j hj => (gRR j hj)) (fun j hj => (gRL j hj)) (fun j hj => (gRS j hj)) (fun j q hj hq => (gPP j q hj hq)) (fun j hj => (gRd j hj)) fm2 (fun j hj => (gLp j hj)) (fun j hj => (gLR j hj)) (fun j hj => (gLL j hj)) (fun j hj => (gLS j hj)) (fun j hj => (gLd j hj)))) rfl rfl (ltb rfl) ?_
  rintro _ w4 ⟨y1, rfl, h1, h2, h3, h4, h5, h6, r9, r10, r11, fm3, fm4, m4⟩
  refine WD (op_indexArr (off' := 0 + i) rfl rfl Try.runUnderlying72 Try.sizeOf27 (by omega) (by omega) (by omega)) rfl ?_
  have r12 := (r6.mod m4 (nC (lG (lL (lL q.lt m1.size) lR)) (nC (lG (lL (lL rR.lt m1.size) lR)) (nC (lG (lL (lL rL.lt m1.size) lR)) (nA lPR (fun j hj => (lE (lL (OF.lt FR (lQ hj lDR.symm)) (lT m1.size lR)))) (nA lPL (fun j hj => (lE (lL (OF.lt FL (lQ hj lDL.symm)) (lT m1.size lR)))) nN))))))
  refine WL.op0 (op_store (i := i) (cs := [vF y1]) rfl rfl rfl Try.sizeOf27 rfl r12 rfl (by rw [fl_length]; have eL : List.length ys = 16 := hly; omega) rfl) rfl rfl ?_
  rintro _ w5 ⟨r13, m5, z3⟩
  have r14 : Row w5 w1.heap.size 0 (fl (ys.set i y1)) := Row.congr r13 (fl_splice (by have eL : List.length ys = 16 := hly; omega))
  refine WL.end (NE.blk (NE.code (CE.region ?_)))
  refine WD (op_add (r := ((i + 1 : Nat) : Int)) rfl rfl (w_i64 (by omega) (by omega))) rfl ?_
  refine WD (op_move rfl) rfl ?_
  refine WL.end ?_
  exact NE.again ((i + 1), (ys.set i y1)) (⟨rfl, rfl, rfl, rfl, trivial⟩) ⟨(by omega), (by rw [pipeAt_succ]; assumption), (by rw [pipeAt_succ]; assumption), (by rw [pipeAt_succ]; exact stR_len l1 _), (by rw [pipeAt_succ]; exact endL_len l2), (by exact fun j => Nat.le_trans (Nat.le_of_eq (pipeAt_lens j _).1) (hzR j)), (by exact fun j => Nat.le_trans (Nat.le_of_eq (pipeAt_lens j _).2) (hzL j)), (by rw [pipeAt_succ]; assumption), (by rw [pipeAt_succ]; assumption), (by exact (List.length_set).trans hly), (by exact W32.set hwy (by assumption)), (by exact set_snoc hcy hly (by omega) (by assumption)), (Row.congr (r9.mod m5 (nC (lE (lL (lL q.lt m1.size) lR)) nN)) (by rw [pipeAt_succ]; rfl)), (Row.congr (r10.mod m5 (nC (lE (lL (lL rR.lt m1.size) lR)) nN)) (by rw [pipeAt_succ]; rfl)), (Row.congr (r11.mod m5 (nC (lE (lL (lL rL.lt m1.size) lR)) nN)) (by rw [pipeAt_succ]; rfl)), (Row.congr r14 rfl), (OF.congr (fm3.mod m5 (fun j hj => (nC (lE (lL (OF.lt FR (lQ (lQ hj (stR_len l1 _)) lDR.symm)) (lT m1.size lR))) nN))) (by rw [pipeAt_succ]; rfl)), (OF.congr (fm4.mod m5 (fun j hj => (nC (lE (lL (OF.lt FL (lQ (lQ hj (endL_len l2)) lDL.symm)) (lT m1.size lR))) nN))) (by rw [pipeAt_succ]; rfl)), ((m3.then m4 ((aC (.inl (by simp)) (aC (.inl (by simp)) (aC (.inl (by simp)) (aI (fun x hx => by simp only [List.mem_cons, List.mem_append, hx, true_or, or_true]) (aI (fun x hx => by simp only [List.mem_cons, List.mem_append, hx, true_or, or_true]) aN))))))).then m5 ((aC (.inl (by simp)) aN)))⟩ (by first | (dsimp only; omega) | omega)
 ·have hp1 := of_decide_eq_false hb1
  refine CE.cond_f rfl hb1 ?_
  refine CE.exit' (XE.exit_then (XE.exit_then (XE.exit_here (NE.code (CE.seq (CE.region ?_))))))
  refine WD (op_loadA (i := 0) (cs := fl ys) rfl Try.isAgg72 Try.sizeOf72 r6.rng rfl (fl_whole hly) (fl_len hly)) rfl ?_
  have r15 := ((r1.ext m2).mod m3 (nC (lG (lL q.lt lR)) (nC (lG (lL rR.lt lR)) (nC (lG (lL rL.lt lR)) (nC (lE (lL r1.lt lR)) (nA lPR (fun j hj => (lE (lL (OF.lt FR (lQ hj lDR.symm)) lR))) (nA lPL (fun j hj => (lE (lL (OF.lt FL (lQ hj lDL.symm)) lR))) nN)))))))
  refine WL.op0 (op_store (i := 0) (cs := fl ys) rfl rfl rfl Try.sizeOf72 (fl_len hly) r15 rfl (by rw [fl_length, List.length_replicate]; decide) (fl_one _)) rfl rfl ?_
  rintro _ w6 ⟨r16, m6, z4⟩
  have r17 : Row w6 w.heap.size 0 (fl ys) := Row.congr r16 (splice_all ((fl_len (List.length_replicate)).trans (fl_len (hly)).symm))
  refine WL.end (NE.code (CE.ret' ?_))
  have ei : 16 = i := by omega
  subst ei
  refine XE.leaveC Try.results105 (res_agg (cs := fl ys) rfl Try.isAgg72 Try.sizeOf72 r17.rng (fl_len hly) res_nil) ?_
  refine ⟨ys, rfl, hly, hwy, ?_, ?_, ?_, ?_, ?_, (r3.mod m6 (nC (lE (lL q.lt lR)) nN)), (r4.mod m6 (nC (lE (lL rR.lt lR)) nN)), (r5.mod m6 (nC (lE (lL rL.lt lR)) nN)), (fm1.mod m6 (fun j hj => (nC (lE (lL (OF.lt FR (lQ (lQ hj l1) lDR.symm)) lR)) nN))), (fm2.mod m6 (fun j hj => (nC (lE (lL (OF.lt FL (lQ (lQ hj l2) lDL.symm)) lR)) nN))), (((((Mod.refl (p :: bR :: bL :: (PR.map BC.b ++ (PL.map BC.b ++ []))) w).nt m1).nt m2).then m3 ((aC (.inl (by simp)) (aC (.inl (by simp)) (aC (.inl (by simp)) (aC (.inr (lT m1.size lR)) (aI (fun x hx => by simp only [List.mem_cons, List.mem_append, hx, true_or, or_true]) (aI (fun x hx => by simp only [List.mem_cons, List.mem_append, hx, true_or, or_true]) aN)))))))).then m6 ((aC (.inr lR) aN)))⟩
  all_goals first | assumption | rfl | exact cn_of_all hly hcy

theorem c_iBlockZ (nR : Nat) (nS : Nat) (xS : List Nat) (kc0 : Nat) (kc1 : Nat) (op : Bool) (lo : Nat) (re : Nat) (sl : Nat) (z : PipeSt) (cR : Nat) (bR : Nat) (PR : List BC) (loR : Nat) (cL : Nat) (bL : Nat) (PL : List BC) (loL : Nat) (cS : Nat) (bS : Nat) (bs : List Nat) (hdz : DPz nR nS xS kc0 kc1 lo re sl z 57) (lDR : z.R.length = nR) (lDL : z.L.length = nR) (lPR : PR.length = nR) (lPL : PL.length = nR) (lnS : xS.length = nS) (lb : bs.length = 16) (wb : W32 bs) (w : World) (rR : Rng w bR 0 (olc z.R PR)) (rL : Rng w bL 0 (olc z.L PL)) (rS : Rng w bS 0 (fl xS))  (FR : OF loR w z.R PR) (FL : OF loL w z.L PL) : Cl Try.prog 45 #[.agg #[vS bR 0 nR cR, vS bL 0 nR cL, vS bS 0 nS cS, vI 1, vF kc0, vF kc1, vF 0, vF (z.s0), vF (z.s1), .bool op, vF lo, vF re, vF sl], .agg (fl bs).toArray] w fun v w' => ∃ (bR' : Nat) (cR' : Nat) (PR' : List BC) (bL' : Nat) (cL' : Nat) (PL' : List BC) (bS' : Nat) (cS' : Nat) (zz : PipeSt) (ys : List Nat), v = .tuple #[.agg #[vS bR' 0 nR cR', vS bL' 0 nR cL', vS bS' 0 nS cS', vI 1, vF kc0, vF kc1, vF 0, vF (zz.s0), vF (zz.s1), .bool op, vF lo, vF re, vF sl], .agg (fl ys).toArray, vI 0] ∧ (PR'.length = nR) ∧ (PL'.length = nR) ∧ (zz = zTo nR nS xS kc0 kc1 op lo re sl z bs 16) ∧ (zz.R.length = nR) ∧ (zz.L.length = nR) ∧ (xS.length = nS) ∧ (ys.length = 16) ∧ (W32 ys) ∧ (Cn ys (oTo nR nS xS kc0 kc1 op lo re sl z bs 16)) ∧ Row w' bR' 0 (olc zz.R PR') ∧ Row w' bL' 0 (olc zz.L PL') ∧ Row w' bS' 0 (fl xS) ∧ w.heap.size ≤ bR' ∧ w.heap.size ≤ bL' ∧ w.heap.size ≤ bS' ∧ bR' ≠ bL' ∧ bR' ≠ bS' ∧ bL' ≠ bS' ∧ OF w.heap.size w' zz.R PR' ∧ (∀ i, i < nR → (PR'.getD i BC.d).b ≠ bR') ∧ (∀ i, i < nR → (PR'.getD i BC.d).b ≠ bL') ∧ (∀ i, i < nR → (PR'.getD i BC.d).b ≠ bS') ∧ (∀ i j, i < nR → j < nR → (PR'.getD i BC.d).b ≠ (PL'.getD j BC.d).b) ∧ OF w.heap.size w' zz.L PL' ∧ (∀ i, i < nR → (PL'.getD i BC.d).b ≠ bR') ∧ (∀ i, i < nR → (PL'.getD i BC.d).b ≠ bL') ∧ (∀ i, i < nR → (PL'.getD i BC.d).b ≠ bS') ∧ Mod [] w w' := by
 have hnA := hdz.n1
 have hnB := hdz.n3
 have hnC := hdz.sn
 have hzR := hdz.small.1
 have hzL := hdz.small.2
 have hgR := hdz.gR
 have hgL := hdz.gL
 have hpR := hdz.pos.1
 have hpL := hdz.pos.2
 refine Cl.of Try.func45 Try.ntmps45 rfl rfl (ρ := [(0, .agg #[vS bR 0 nR cR, vS bL 0 nR cL, vS bS 0 nS cS, vI 1, vF kc0, vF kc1, vF 0, vF (z.s0), vF (z.s1), .bool op, vF lo, vF re, vF sl]), (1, .agg (fl bs).toArray)]) rfl ?_
 refine CE.seq (CE.region ?_)
 refine WL.op (op_box (cs := [vS bR 0 nR cR, vS bL 0 nR cL, vS bS 0 nS cS, vI 1, vF kc0, vF kc1, vF 0, vF (z.s0), vF (z.s1), .bool op, vF lo, vF re, vF sl]) rfl rfl) rfl rfl (ltb rfl) ?_
 rintro _ w1 ⟨rfl, r1, m1, z1⟩
 refine WL.op (op_box (cs := fl bs) rfl rfl) rfl rfl (ltb rfl) ?_
 rintro _ w2 ⟨rfl, r2, m2, z2⟩
 refine WL.op (op_alloc (cs := [.slice none 0 0, .slice none 0 0, .slice none 0 0, vI 0, vF 0, vF 0, vF 0, vF 0, vF 0, .bool false, vF 0, vF 0, vF 0]) Try.zeroValue33 rfl) rfl rfl (ltb rfl) ?_
 rintro _ w3 ⟨rfl, r3, m3, z3⟩
 refine WL.op (op_alloc (cs := fl (List.replicate 16 0)) Try.zeroValue72 rfl) rfl rfl (ltb rfl) ?_
 rintro _ w4 ⟨rfl, r4, m4, z4⟩
 refine WD (op_assign rfl) rfl ?_
 refine WL.end (NE.code (CE.seq (CE.seq (CE.region ?_))))
 have r5 := (((r1.ext m2).ext m3).ext m4)
 refine WD (op_loadA (i := 0) (cs := [vS bR 0 nR cR, vS bL 0 nR cL, vS bS 0 nS cS, vI 1, vF kc0, vF kc1, vF 0, vF (z.s0), vF (z.s1), .bool op, vF lo, vF re, vF sl]) rfl Try.isAgg33 Try.sizeOf33 r5.rng rfl rfl rfl) rfl ?_
 have r6 := ((((rR.ext m1).ext m2).ext m3).ext m4)
 have r7 := ((((rL.ext m1).ext m2).ext m3).ext m4)
 have r8 := ((((rS.ext m1).ext m2).ext m3).ext m4)
 refine WL.call (oc_call (vs := [.agg #[vS bR 0 nR cR, vS bL 0 nR cL, vS bS 0 nS cS, vI 1, vF kc0, vF kc1, vF 0, vF (z.s0), vF (z.s1), .bool op, vF lo, vF re, vF sl]]) (cap := []) rfl rfl rfl Try.call44 (c_ValidZ nR nS xS kc0 kc1 op lo re sl z cR bR PR loR cL bL PL loL cS bS (by first | assumption | exact DPz.mono (by assumption) (by omega) | exact zTo_dz (by assumption) (by assumption) (by first | assumption | exact bd_take (by assumption) _) (by omega)) lDR lDL lPR lPL lnS w4 r6 r7 r8 ((((FR.ext m1).ext m2).ext m3).ext m4) ((((FL.ext m1).ext m2).ext m3).ext m4))) rfl rfl (ltb rfl) ?_
 rintro _ w5 ⟨rfl, m5⟩
 refine WD (op_not rfl) rfl ?_
 refine WL.end (NE.code ?_)
 refine CE.cond_f rfl rfl ?_
 refine CE.skip' (NE.code (CE.seq (CE.region ?_)))
 refine WD (op_loadA (i := 0) (cs := [vS bR 0 nR cR, vS bL 0 nR cL, vS bS 0 nS cS, vI 1, vF kc0, vF kc1, vF 0, vF (z.s0), vF (z.s1), .bool op, vF lo, vF re, vF sl]) rfl Try.isAgg33 Try.sizeOf33 (r5.ext m5).rng rfl rfl rfl) rfl ?_
 refine WL.call (oc_call (vs := [.agg #[vS bR 0 nR cR, vS bL 0 nR cL, vS bS 0 nS cS, vI 1, vF kc0, vF kc1, vF 0, vF (z.s0), vF (z.s1), .bool op, vF lo, vF re, vF sl]]) (cap := []) rfl rfl rfl Try.call63 (c_cloneZ nR nS xS kc0 kc1 op lo re sl z cR bR PR loR cL bL PL loL cS bS (by first | assumption | exact DPz.mono (by assumption) (by omega) | exact zTo_dz (by assumption) (by assumption) (by first | assumption | exact bd_take (by assumption) _) (by omega)) lDR lDL lPR lPL lnS w5 (r6.ext m5) (r7.ext m5) (r8.ext m5) (((((FR.ext m1).ext m2).ext m3).ext m4).ext m5) (((((FL.ext m1).ext m2).ext m3).ext m4).ext m5))) rfl rfl (ltb rfl) ?_
 rintro _ w6 ⟨bR'1, cR'1, PR'1, bL'1, cL'1, PL'1, bS'1, cS'1, rfl, h1, h2, h3, h4, h5, h6, r9, r10, r11, ge1, ge2, ge3, ne1, ne2, ne3, fm1, fn1, fn2, fn3, fn4, fm2, fn5, fn6, fn7, m6⟩
 refine WL.op0 (op_store (i := 0) (cs := [vS bR'1 0 nR cR'1, vS bL'1 0 nR cL'1, vS bS'1 0 nS cS'1, vI 1, vF kc0, vF kc1, vF 0, vF (z.s0), vF (z.s1), .bool op, vF lo, vF re, vF sl]) rfl rfl rfl Try.sizeOf33 rfl ((r5.ext m5).ext m6) rfl (lB rfl) rfl) rfl rfl ?_
 rintro _ w7 ⟨r12, m7, z5⟩
 have r13 : Row w7 w.heap.size 0 [vS bR'1 0 nR cR'1, vS bL'1 0 nR cL'1, vS bS'1 0 nS cS'1, vI 1, vF kc0, vF kc1, vF 0, vF (z.s0), vF (z.s1), .bool op, vF lo, vF re, vF sl] := Row.congr r12 rfl
 refine WL.end (NE.code (CE.seq (CE.region ?_)))
 refine WD (op_makeFunc (vs := []) (us := [vP w.heap.size 0, vP w1.heap.size 0]) rfl rfl) rfl ?_
 have sz1 := SzLe.mk (lT (lT (lT m2.size m3.size) m4.size) m5.size)
 have r14 := (((((r2.ext m3).ext m4).ext m5).ext m6).mod m7 (nC (lG (lL r1.lt lR)) nN))
 have sz2 := SzLe.mk (lT (lT m3.size m4.size) m5.size)
 refine WL.call (oc_call (vs := [.func (.func 106) #[] #[vP w.heap.size 0, vP w1.heap.size 0]]) (cap := []) rfl rfl rfl Try.call105 (c_made_blockP nR z.R nR z.L nS xS cR'1 bR'1 PR'1 w5.heap.size cL'1 bL'1 PL'1 w5.heap.size cS'1 bS'1 (1 : Int) kc0 kc1 0 (z.s0) (z.s1) op lo re sl w.heap.size w1.heap.size bs h4 h5 h6 (by first | assumption | exact rd_small (by assumption) (by assumption) | exact markD_small (by first | assumption | exact rd_small (by assumption) (by assumption)) _) (by first | assumption | exact rd_small (by assumption) (by assumption) | exact markD_small (by first | assumption | exact rd_small (by assumption) (by assumption)) _) h1 h2 (by first | assumption | omega) (by first | assumption | omega) (by first | assumption | omega) (by first | assumption | omega) (by assumption) (by assumption) (DPz.w0 (by assumption)) (DPz.b1 (by assumption)) lb wb w7 r13 (r9.mod m7 (nC (lG (lL (lL r1.lt sz1) ge1)) nN)) (r10.mod m7 (nC (lG (lL (lL r1.lt sz1) ge2)) nN)) (r11.mod m7 (nC (lG (lL (lL r1.lt sz1) ge3)) nN)) r14.rng (lE (lL (lL r1.lt sz1) ge1)) (lE (lL (lL r1.lt sz1) ge2)) (lE (lL (lL r1.lt sz1) ge3)) ne1 ne2 ne3 (lG (lL r1.lt lR)) (lE (lL (lL r2.lt sz2) ge1)) (lE (lL (lL r2.lt sz2) ge2)) (fm1.mod m7 (fun j hj => (nC (lG (lL (lL r1.lt sz1) (fm1.ge j (lQ (lQ hj h4) h4.symm)))) nN))) (fun j hj => (lG (lL (lL r1.lt sz1) (fm1.ge j (lQ hj h4.symm))))) (fun j hj => (fn1 j hj)) (fun j hj => (fn2 j hj)) (fun j hj => (fn3 j hj)) (fun j q hj hq => (fn4 j q hj hq)) (fun j hj => (lG (lL (lL r2.lt sz2) (fm1.ge j (lQ hj h4.symm))))) (fm2.mod m7 (fun j hj => (nC (lG (lL (lL r1.lt sz1) (fm2.ge j (lQ (lQ hj h5) h5.symm)))) nN))) (fun j hj => (lG (lL (lL r1.lt sz1) (fm2.ge j (lQ hj h5.symm))))) (fun j hj => (fn5 j hj)) (fun j hj => (fn6 j hj)) (fun j hj => (fn7 j hj)) (fun j hj => (lG (lL (lL r2.lt sz2) (fm2.ge j (lQ hj h5.symm))))))) rfl rfl (ltb rfl) ?_
 rintro _ w8 ⟨ys1, rfl, h7, h8, h9, h10, h11, h12, h13, r15, r16, r17, fm3, fm4, m8⟩
 refine WL.op (op_alloc (cs := fl (List.replicate 16 0)) Try.zeroValue72 rfl) rfl rfl (ltb rfl) ?_
 rintro _ w9 ⟨rfl, r18, m9, z6⟩
 refine WL.op0 (op_store (i := 0) (cs := fl ys1) rfl rfl rfl Try.sizeOf72 (fl_len h7) r18 rfl (by rw [fl_length, List.length_replicate]; decide) (fl_one _)) rfl rfl ?_
 rintro _ w10 ⟨r19, m10, z7⟩
 have r20 : Row w10 w8.heap.size 0 (fl ys1) := Row.congr r19 (splice_all ((fl_len (List.length_replicate)).trans (fl_len (h7)).symm))
 refine WL.end (NE.code (CE.seq ?_))
 refine CE.draw (fun _ => none) [0, 1, 2] [3, 4] [w2.heap.size] (by kernel_rfl) (by kernel_rfl) ?_
 have md1 : Mod [] w10 w10.drew := (Mod.refl _ _).drew
 generalize w10.drew = w11 at md1 ⊢
 refine DD 0 rfl (by kernel_rfl) rfl (fun wD mD => op_loadA (i := 0) (cs := [vS bR'1 0 nR cR'1, vS bL'1 0 nR cL'1, vS bS'1 0 nS cS'1, vI 1, vF kc0, vF kc1, vF 0, vF ((pipeAt nR nS xS (1 : Int) kc0 kc1 0 op lo re sl (PipeSt.mk z.R z.L (z.s0) (z.s1)) (fun j => bs.getD j 0) 16).s0), vF ((pipeAt nR nS xS (1 : Int) kc0 kc1 0 op lo re sl (PipeSt.mk z.R z.L (z.s0) (z.s1)) (fun j => bs.getD j 0) 16).s1), .bool op, vF lo, vF re, vF sl]) rfl Try.isAgg33 Try.sizeOf33 ((((r15.ext m9).mod m10 (nC (lE (lL (lL r1.lt (lT (lT (lT sz1 m6.size) m7.size) m8.size)) lR)) nN)).ext md1).mod mD (nC (lE (lL (lL r1.lt m2.size) lR)) nN)).rng rfl rfl rfl) ?_
 refine DD 1 rfl (by kernel_rfl) rfl (fun wD mD => op_loadA (i := 0) (cs := fl ys1) rfl Try.isAgg72 Try.sizeOf72 ((r20.ext md1).mod mD (nC (lG (lL (lL r3.lt (lT (lT (lT (lT m4.size m5.size) m6.size) m7.size) m8.size)) lR)) nN)).rng rfl (fl_whole h7) (fl_len h7)) ?_
 refine DR.st1 (i := 2) rfl rfl (by kernel_rfl) (.free rfl) rfl ?_
 intro w12 m11
 refine Op1.mono (op_store (i := 0) (cs := [vS bR'1 0 nR cR'1, vS bL'1 0 nR cL'1, vS bS'1 0 nS cS'1, vI 1, vF kc0, vF kc1, vF 0, vF ((pipeAt nR nS xS (1 : Int) kc0 kc1 0 op lo re sl (PipeSt.mk z.R z.L (z.s0) (z.s1)) (fun j => bs.getD j 0) 16).s0), vF ((pipeAt nR nS xS (1 : Int) kc0 kc1 0 op lo re sl (PipeSt.mk z.R z.L (z.s0) (z.s1)) (fun j => bs.getD j 0) 16).s1), .bool op, vF lo, vF re, vF sl]) rfl rfl rfl Try.sizeOf33 rfl (((((((((r3.ext m4).ext m5).ext m6).mod m7 (nC (lG (lL (lL r1.lt m2.size) lR)) nN)).mod m8 (nC (lG (lL (lL r1.lt m2.size) lR)) (nC (lE (lL (lL r3.lt (lT m4.size m5.size)) ge1)) (nC (lE (lL (lL r3.lt (lT m4.size m5.size)) ge2)) (nA h1 (fun j hj => (lG (lL (lL r3.lt (lT m4.size m5.size)) (fm3.ge j (lQ hj h10.symm))))) (nA h2 (fun j hj => (lG (lL (lL r3.lt (lT m4.size m5.size)) (fm4.ge j (lQ hj h11.symm))))) nN)))))).ext m9).mod m10 (nC (lE (lL (lL r3.lt (lT (lT (lT (lT m4.size m5.size) m6.size) m7.size) m8.size)) lR)) nN)).ext md1).ext m11) rfl (lB rfl) rfl) ?_
 rintro _ w13 ⟨r21, m12, z8⟩
 have r22 : Row w13 w2.heap.size 0 [vS bR'1 0 nR cR'1, vS bL'1 0 nR cL'1, vS bS'1 0 nS cS'1, vI 1, vF kc0, vF kc1, vF 0, vF ((pipeAt nR nS xS (1 : Int) kc0 kc1 0 op lo re sl (PipeSt.mk z.R z.L (z.s0) (z.s1)) (fun j => bs.getD j 0) 16).s0), vF ((pipeAt nR nS xS (1 : Int) kc0 kc1 0 op lo re sl (PipeSt.mk z.R z.L (z.s0) (z.s1)) (fun j => bs.getD j 0) 16).s1), .bool op, vF lo, vF re, vF sl] := Row.congr r21 rfl
 refine ⟨(((Mod.refl [w2.heap.size] w11).nt m11).then m12 ((aC (.inl (by simp)) aN))), ?_⟩
 refine DR.done rfl ?_
 intro w14 m13
 have sz3 := SzLe.mk (lT (lT (lT m5.size m6.size) m7.size) m8.size)
 have r23 := ((((((((((r4.ext m5).ext m6).mod m7 (nC (lG (lL (lL r1.lt (lT m2.size m3.size)) lR)) nN)).mod m8 (nC (lG (lL (lL r1.lt (lT m2.size m3.size)) lR)) (nC (lE (lL (lL r4.lt m5.size) ge1)) (nC (lE (lL (lL r4.lt m5.size) ge2)) (nA h1 (fun j hj => (lG (lL (lL r4.lt m5.size) (fm3.ge j (lQ hj h10.symm))))) (nA h2 (fun j hj => (lG (lL (lL r4.lt m5.size) (fm4.ge j (lQ hj h11.symm))))) nN)))))).ext m9).mod m10 (nC (lE (lL (lL r4.lt sz3) lR)) nN)).ext md1).ext m11).mod m12 (nC (lG (lL r3.lt lR)) nN)).ext m13)
 refine WO.op0 rfl (.free rfl) rfl (op_store (i := 0) (cs := fl ys1) rfl rfl rfl Try.sizeOf72 (fl_len h7) r23 rfl (by rw [fl_length, List.length_replicate]; decide) (fl_one _)) ?_
 rintro _ w15 ⟨r24, m14, z9⟩
 have r25 : Row w15 w3.heap.size 0 (fl ys1) := Row.congr r24 (splice_all ((fl_len (List.length_replicate)).trans (fl_len (h7)).symm))
 refine WO.det (op_assign rfl) rfl (.free rfl) rfl rfl ?_
 refine WO.end (NE.code (CE.ret' ?_))
 refine XE.leaveT Try.results45 (res_agg (cs := [vS bR'1 0 nR cR'1, vS bL'1 0 nR cL'1, vS bS'1 0 nS cS'1, vI 1, vF kc0, vF kc1, vF 0, vF ((pipeAt nR nS xS (1 : Int) kc0 kc1 0 op lo re sl (PipeSt.mk z.R z.L (z.s0) (z.s1)) (fun j => bs.getD j 0) 16).s0), vF ((pipeAt nR nS xS (1 : Int) kc0 kc1 0 op lo re sl (PipeSt.mk z.R z.L (z.s0) (z.s1)) (fun j => bs.getD j 0) 16).s1), .bool op, vF lo, vF re, vF sl]) rfl Try.isAgg33 Try.sizeOf33 ((r22.ext m13).mod m14 (nC (lE (lL r3.lt lR)) nN)).rng rfl (res_agg (cs := fl ys1) rfl Try.isAgg72 Try.sizeOf72 r25.rng (fl_len h7) (res_tmp rfl res_nil))) ?_
 have r26 := (((((((r16.ext m9).mod m10 (nC (lE (lL (lL r9.lt (lT m7.size m8.size)) lR)) nN)).ext md1).ext m11).mod m12 (nC (lG (lL (lL r3.lt (lT m4.size m5.size)) ge1)) nN)).ext m13).mod m14 (nC (lG (lL (lL r4.lt m5.size) ge1)) nN))
 have r27 := (((((((r17.ext m9).mod m10 (nC (lE (lL (lL r10.lt (lT m7.size m8.size)) lR)) nN)).ext md1).ext m11).mod m12 (nC (lG (lL (lL r3.lt (lT m4.size m5.size)) ge2)) nN)).ext m13).mod m14 (nC (lG (lL (lL r4.lt m5.size) ge2)) nN))
 have r28 := (((((((((r11.mod m7 (nC (lG (lL (lL r1.lt sz1) ge3)) nN)).mod m8 (nC (lG (lL (lL r1.lt sz1) ge3)) (nC (Ne.symm ne2) (nC (Ne.symm ne3) (nA h1 (fun j hj => (fn3 j hj)) (nA h2 (fun j hj => (fn7 j hj)) nN)))))).ext m9).mod m10 (nC (lE (lL (lL r11.lt (lT m7.size m8.size)) lR)) nN)).ext md1).ext m11).mod m12 (nC (lG (lL (lL r3.lt (lT m4.size m5.size)) ge3)) nN)).ext m13).mod m14 (nC (lG (lL (lL r4.lt m5.size) ge3)) nN))
 have sz4 := SzLe.mk (lT (lT (lT (lT m1.size m2.size) m3.size) m4.size) m5.size)
 have sz5 := SzLe.mk (lT (lT (lT sz4 m6.size) m7.size) m8.size)
 have sz6 := SzLe.mk (lT (lT m1.size m2.size) m3.size)
 refine ⟨bR'1, cR'1, PR'1, bL'1, cL'1, PL'1, bS'1, cS'1, (pipeAt nR nS xS (1 : Int) kc0 kc1 0 op lo re sl (PipeSt.mk z.R z.L (z.s0) (z.s1)) (fun j => bs.getD j 0) 16), ys1, ?_, h1, h2, ?_, ?_, ?_, ?_, h7, h8, ?_, r26, r27, r28, (lT sz4 ge1), (lT sz4 ge2), (lT sz4 ge3), ne1, ne2, ne3, (OF.low (((((((fm3.ext m9).mod m10 (fun j hj => (nC (lE (lL (OF.lt fm1 (lQ (lQ hj h10) h4.symm)) (lT (lT m7.size m8.size) lR))) nN))).ext md1).ext m11).mod m12 (fun j hj => (nC (lG (lL (lL r3.lt (lT m4.size m5.size)) (fm3.ge j (lQ (lQ hj h10) h10.symm)))) nN))).ext m13).mod m14 (fun j hj => (nC (lG (lL (lL r4.lt m5.size) (fm3.ge j (lQ (lQ hj h10) h10.symm)))) nN))) sz4), (fun j hj => (fn1 j (show j < nR by omega))), (fun j hj => (fn2 j (show j < nR by omega))), (fun j hj => (fn3 j (show j < nR by omega))), (fun j q hj hq => (fn4 j q (show j < nR by omega) (show q < nR by omega))), (OF.low (((((((fm4.ext m9).mod m10 (fun j hj => (nC (lE (lL (OF.lt fm2 (lQ (lQ hj h11) h5.symm)) (lT (lT m7.size m8.size) lR))) nN))).ext md1).ext m11).mod m12 (fun j hj => (nC (lG (lL (lL r3.lt (lT m4.size m5.size)) (fm4.ge j (lQ (lQ hj h11) h11.symm)))) nN))).ext m13).mod m14 (fun j hj => (nC (lG (lL (lL r4.lt m5.size) (fm4.ge j (lQ (lQ hj h11) h11.symm)))) nN))) sz4), (fun j hj => (fn5 j (show j < nR by omega))), (fun j hj => (fn6 j (show j < nR by omega))), (fun j hj => (fn7 j (show j < nR by omega))), ((((((((((((((((Mod.refl [] w).nt m1).nt m2).nt m3).nt m4).nt m5).nt m6).then m7 ((aC (.inr lR) aN))).then m8 ((aC (.inr lR) (aC (.inr (lT sz4 ge1)) (aC (.inr (lT sz4 ge2)) (aA h1 (fun j hj => (lT sz4 (fm3.ge j (lQ hj h10.symm)))) (aA h2 (fun j hj => (lT sz4 (fm4.ge j (lQ hj h11.symm)))) aN))))))).nt m9).then m10 ((aC (.inr (lT sz5 lR)) aN))).nt md1).nt m11).then m12 ((aC (.inr (lT (lT m1.size m2.size) lR)) aN))).nt m13).then m14 ((aC (.inr (lT sz6 lR)) aN)))⟩
 all_goals first | assumption | rfl

end Go.Proofs.Ytnahhdnkbbdceaa
