/- What playing a pipe does. -/
import Derived.Test.YtnahhdnkbbdceaaT2
import Derived.Test.YtnahhdnkbbdceaaE11
set_option linter.unusedVariables false
set_option linter.unusedSimpArgs false
set_option maxRecDepth 100000
set_option maxHeartbeats 8000000
namespace Go.Proofs.Ytnahhdnkbbdceaa

structure PipeSt where
  R : List RD
  L : List RD
  s0 : Nat
  s1 : Nat
/-- a pipe behind a step that is given `x` -/
def pipeNext (n m : Nat) (xS : List Nat) (k : Int) (kc0 kc1 kc2 : Nat) (op : Bool) (lo re sl : Nat) (z : PipeSt) (x : Nat) : PipeSt :=
  ⟨stR z.R z.L xS re sl x m, endL z.R z.L xS op lo (stepY k kc0 kc1 kc2 z.s0 z.s1 (oldD z.R (n - 1))) n m, stepS k kc0 kc1 kc2 z.s0 z.s1 (oldD z.R (n - 1)), stepT k kc0 kc1 kc2 z.s0 z.s1 (oldD z.R (n - 1))⟩
/-- the same before step number `q`, where step `j` is given `f j` -/
def pipeAt (n m : Nat) (xS : List Nat) (k : Int) (kc0 kc1 kc2 : Nat) (op : Bool) (lo re sl : Nat) (z : PipeSt) (f : Nat → Nat) (q : Nat) : PipeSt :=
  if h : q = 0 then z else pipeNext n m xS k kc0 kc1 kc2 op lo re sl (pipeAt n m xS k kc0 kc1 kc2 op lo re sl z f (q - 1)) (f (q - 1))
termination_by q
decreasing_by omega
/-- what step number `q` makes -/
def pipeOut (n m : Nat) (xS : List Nat) (k : Int) (kc0 kc1 kc2 : Nat) (op : Bool) (lo re sl : Nat) (z : PipeSt) (f : Nat → Nat) (q : Nat) : Nat :=
  stepY k kc0 kc1 kc2 (pipeAt n m xS k kc0 kc1 kc2 op lo re sl z f q).s0 (pipeAt n m xS k kc0 kc1 kc2 op lo re sl z f q).s1 (oldD (pipeAt n m xS k kc0 kc1 kc2 op lo re sl z f q).R (n - 1))
section
variable {n m : Nat} {xS : List Nat} {k : Int} {kc0 kc1 kc2 : Nat} {op : Bool} {lo re sl : Nat} {z : PipeSt} {f : Nat → Nat} {q : Nat}
theorem pipeAt_zero : pipeAt n m xS k kc0 kc1 kc2 op lo re sl z f 0 = z := by rw [pipeAt]; simp
theorem pipeAt_succ : pipeAt n m xS k kc0 kc1 kc2 op lo re sl z f (q + 1) = pipeNext n m xS k kc0 kc1 kc2 op lo re sl (pipeAt n m xS k kc0 kc1 kc2 op lo re sl z f q) (f q) := by rw [pipeAt]; simp
theorem pipeAt_lens (j : Nat) : ∀ q, (((pipeAt n m xS k kc0 kc1 kc2 op lo re sl z f q).R.getD j RD.d).xs.length = (z.R.getD j RD.d).xs.length) ∧ (((pipeAt n m xS k kc0 kc1 kc2 op lo re sl z f q).L.getD j RD.d).xs.length = (z.L.getD j RD.d).xs.length)
  | 0 => by rw [pipeAt_zero]; exact ⟨rfl, rfl⟩
  | q + 1 => by rw [pipeAt_succ]; exact ⟨(stR_lens j m).trans (pipeAt_lens j q).1, (endL_lens j).trans (pipeAt_lens j q).2⟩
end
theorem pipeAt_lenR {n m : Nat} {xS : List Nat} {k : Int} {kc0 kc1 kc2 : Nat} {op : Bool} {lo re sl : Nat} {z : PipeSt} {f : Nat → Nat} {c : Nat} (h : z.R.length = c) : ∀ q, (pipeAt n m xS k kc0 kc1 kc2 op lo re sl z f q).R.length = c
  | 0 => by rw [pipeAt_zero]; exact h
  | q + 1 => by rw [pipeAt_succ]; exact stR_len (pipeAt_lenR h q) m
theorem pipeAt_lenL {n m : Nat} {xS : List Nat} {k : Int} {kc0 kc1 kc2 : Nat} {op : Bool} {lo re sl : Nat} {z : PipeSt} {f : Nat → Nat} {c : Nat} (h : z.L.length = c) : ∀ q, (pipeAt n m xS k kc0 kc1 kc2 op lo re sl z f q).L.length = c
  | 0 => by rw [pipeAt_zero]; exact h
  | q + 1 => by rw [pipeAt_succ]; exact endL_len (pipeAt_lenL h q)
theorem Cn.eq2 {xs ys zs : List Nat} (h : Cn xs zs) (k : Cn ys zs) : Cn xs ys := h.trans k.symm
theorem fl_snoc (ys : List Nat) (f : Nat) : fl ys ++ [Value.float .f32 f] = fl (ys ++ [f]) := by simp [fl]
theorem W32.snoc {ys : List Nat} {f : Nat} (h : W32 ys) (hf : f < wid .f32) : W32 (ys ++ [f]) := fun x hx => by
  rcases List.mem_append.1 hx with hx | hx
  · exact h x hx
  · rw [List.mem_singleton.1 hx]; exact hf
theorem Cn.snoc {ys : List Nat} {g : Nat → Nat} {i a : Nat} (h : Cn ys (outs g i)) (e : cn .f32 a = cn .f32 (g i)) : Cn (ys ++ [a]) (outs g (i + 1)) := by
  unfold Cn outs at *
  rw [List.range_succ, List.map_append, List.map_append, List.map_append, h, List.map_cons, List.map_nil, List.map_cons, List.map_nil, List.map_cons, List.map_nil, e]

theorem c_sPlayP0 (nR : Nat) (GR : List RD) (nL : Nat) (GL : List RD) (xS : List Nat) (cR : Nat) (bR : Nat) (PR : List BC) (loR : Nat) (cL : Nat) (bL : Nat) (PL : List BC) (loL : Nat) (cS : Nat) (bS : Nat) (k : Int) (kc0 : Nat) (kc1 : Nat) (kc2 : Nat) (ks0 : Nat) (ks1 : Nat) (op : Bool) (lo : Nat) (re : Nat) (sl : Nat) (l : Nat) (cl : Nat) (Al : Option Addr) (bl : Nat) (ol : Nat) (ss : List Nat) (z : PipeSt) (ou : List Nat) (lDR : GR.length = nR) (lDL : GL.length = nL) (lnS : xS.length = 0) (hzR : ∀ i, (GR.getD i RD.d).xs.length ≤ 1048576) (hzL : ∀ i, (GL.getD i RD.d).xs.length ≤ 1048576) (lPR : PR.length = nR) (lPL : PL.length = nL) (mR : nR ≤ 1048576) (mL : nL ≤ 1048576) (h0n : 0 < nR) (h0m : 0 < nL) (hpR : ∀ i, i < nR → 0 < (GR.getD i RD.d).xs.length) (hpL : ∀ i, i < nL → 0 < (GL.getD i RD.d).xs.length) (hs : 1 ≤ nR ∧ nR ≤ 3 ∧ nL = nR ∧ 0 + 1 = nR) (gR : GoodD GR nR) (gL : GoodD GL nL) (lks0 : ks0 < wid .f32) (lks1 : ks1 < wid .f32) (ls : ss.length = l) (hAl : 0 < l → Al = some ⟨bl, ol, none⟩) (wl : W32 ss) (hll : l ≤ 4096) (hv : vPipe nR nL 0 GR GL xS k kc0 kc1 kc2 ks0 ks1 lo re sl = true) (hze : z = (pipeAt nR 0 xS k kc0 kc1 kc2 op lo re sl (PipeSt.mk GR GL ks0 ks1) (fun j => ss.getD j 0) l)) (hoe : ou = (outs (pipeOut nR 0 xS k kc0 kc1 kc2 op lo re sl (PipeSt.mk GR GL ks0 ks1) (fun j => ss.getD j 0)) l)) (lZR : z.R.length = nR) (lZL : z.L.length = nL) (w : World) (rR : Rng w bR 0 (olc GR PR)) (rL : Rng w bL 0 (olc GL PL)) (rS : Rng w bS 0 (fl xS)) (rl : Rng w bl ol (fl ss))  (FR : OF loR w GR PR) (FL : OF loL w GL PL) : Cl Try.prog 17 #[.agg #[vS bR 0 nR cR, vS bL 0 nL cL, vS bS 0 0 cS, vI k, vF kc0, vF kc1, vF kc2, vF ks0, vF ks1, .bool op, vF lo, vF re, vF sl], .slice Al l cl] w fun v w' => ∃ (bR' : Nat) (cR' : Nat) (PR' : List BC) (bL' : Nat) (cL' : Nat) (PL' : List BC) (bS' : Nat) (cS' : Nat) (e' : Nat) (c3' : Nat) (A' : Option Addr) (ys : List Nat), v = .tuple #[.agg #[vS bR' 0 nR cR', vS bL' 0 nL cL', vS bS' 0 0 cS', vI k, vF kc0, vF kc1, vF kc2, vF z.s0, vF z.s1, .bool op, vF lo, vF re, vF sl], .slice A' l c3', vI 0] ∧ (PR'.length = nR) ∧ (PL'.length = nL) ∧ (0 < l → A' = some ⟨e', 0, none⟩) ∧ (ys.length = l) ∧ (W32 ys) ∧ (Cn ys ou) ∧ Row w' bR' 0 (olc z.R PR') ∧ Row w' bL' 0 (olc z.L PL') ∧ Row w' bS' 0 (fl xS) ∧ Row w' e' 0 (fl ys) ∧ w.heap.size ≤ bR' ∧ w.heap.size ≤ bL' ∧ w.heap.size ≤ bS' ∧ w.heap.size ≤ e' ∧ bR' ≠ bL' ∧ bR' ≠ bS' ∧ bL' ≠ bS' ∧ bR' ≠ e' ∧ bL' ≠ e' ∧ bS' ≠ e' ∧ OF w.heap.size w' z.R PR' ∧ (∀ i, i < nR → (PR'.getD i BC.d).b ≠ bR') ∧ (∀ i, i < nR → (PR'.getD i BC.d).b ≠ bL') ∧ (∀ i, i < nR → (PR'.getD i BC.d).b ≠ bS') ∧ (∀ i j, i < nR → j < nL → (PR'.getD i BC.d).b ≠ (PL'.getD j BC.d).b) ∧ (∀ i, i < nR → (PR'.getD i BC.d).b ≠ e') ∧ OF w.heap.size w' z.L PL' ∧ (∀ i, i < nL → (PL'.getD i BC.d).b ≠ bR') ∧ (∀ i, i < nL → (PL'.getD i BC.d).b ≠ bL') ∧ (∀ i, i < nL → (PL'.getD i BC.d).b ≠ bS') ∧ (∀ i, i < nL → (PL'.getD i BC.d).b ≠ e') ∧ Mod [] w w' := by
 refine Cl.of Try.func17 Try.ntmps17 rfl rfl (ρ := [(0, .agg #[vS bR 0 nR cR, vS bL 0 nL cL, vS bS 0 0 cS, vI k, vF kc0, vF kc1, vF kc2, vF ks0, vF ks1, .bool op, vF lo, vF re, vF sl]), (1, .slice Al l cl)]) rfl ?_
 refine CE.seq (CE.region ?_)
 refine WL.op (op_box (cs := [vS bR 0 nR cR, vS bL 0 nL cL, vS bS 0 0 cS, vI k, vF kc0, vF kc1, vF kc2, vF ks0, vF ks1, .bool op, vF lo, vF re, vF sl]) rfl rfl) rfl rfl (ltb rfl) ?_
 rintro _ w1 ⟨rfl, r1, m1, z1⟩
 refine WL.op (op_alloc (cs := [.slice none 0 0, .slice none 0 0, .slice none 0 0, vI 0, vF 0, vF 0, vF 0, vF 0, vF 0, .bool false, vF 0, vF 0, vF 0]) Try.zeroValue33 rfl) rfl rfl (ltb rfl) ?_
 rintro _ w2 ⟨rfl, r2, m2, z2⟩
 iterate 2 refine WL.det (op_assign rfl) rfl rfl rfl ?_
 refine WL.end (NE.code (CE.seq (CE.seq (CE.region ?_))))
 refine WL.call (oc_call (vs := [vP w.heap.size 0]) (cap := []) rfl rfl rfl Try.call57 (c_l04OkS nR GR nL GL 0 xS cR bR PR loR cL bL PL loL cS bS k kc0 kc1 kc2 ks0 ks1 op lo re sl w.heap.size lDR lDL lnS (by first | assumption | exact rd_small (by assumption) (by assumption) | exact markD_small (by first | assumption | exact rd_small (by assumption) (by assumption)) _) (by first | assumption | exact rd_small (by assumption) (by assumption) | exact markD_small (by first | assumption | exact rd_small (by assumption) (by assumption)) _) lPR lPL (by first | assumption | omega) (by first | assumption | omega) (by first | assumption | omega) (by omega) w2 (r1.ext m2).rng ((rR.ext m1).ext m2) ((rL.ext m1).ext m2) ((rS.ext m1).ext m2) ((FR.ext m1).ext m2) ((FL.ext m1).ext m2))) rfl rfl (ltb rfl) ?_
 rintro _ w3 ⟨rfl, m3⟩
 refine WL.det (op_not rfl) rfl rfl rfl ?_
 refine WL.end (NE.code ?_)
 refine CE.cond_f rfl (bnot_t hv) ?_
 refine CE.skip' (NE.code (CE.seq (CE.seq (CE.region ?_))))
 refine WL.det (op_move rfl) rfl rfl rfl ?_
 refine WL.det (op_len rfl Try.runUnderlying26) rfl rfl rfl ?_
 refine WL.det (op_gti rfl rfl) rfl rfl rfl ?_
 refine WL.end (NE.code ?_)
 refine CE.cond_f rfl (decide_eq_false (by omega)) ?_
 refine CE.skip' (NE.code (CE.seq (CE.region ?_)))
 have r3 := (((rR.ext m1).ext m2).ext m3)
 have r4 := (((rL.ext m1).ext m2).ext m3)
 have r5 := (((rS.ext m1).ext m2).ext m3)
 refine WL.call (oc_call (vs := [vP w.heap.size 0]) (cap := []) rfl rfl rfl Try.call59 (c_l04CopyS0 nR GR nL GL xS cR bR PR loR cL bL PL loL cS bS k kc0 kc1 kc2 ks0 ks1 op lo re sl w.heap.size lDR lDL lnS (by first | assumption | exact rd_small (by assumption) (by assumption) | exact markD_small (by first | assumption | exact rd_small (by assumption) (by assumption)) _) (by first | assumption | exact rd_small (by assumption) (by assumption) | exact markD_small (by first | assumption | exact rd_small (by assumption) (by assumption)) _) lPR lPL (by first | assumption | omega) (by first | assumption | omega) (by omega) (by omega) (by first | assumption | exact vRings_pos (by assumption)) (by first | assumption | exact vRings_pos (by assumption)) w3 ((r1.ext m2).ext m3).rng r3 r4 r5 (((FR.ext m1).ext m2).ext m3) (((FL.ext m1).ext m2).ext m3))) rfl rfl (ltb rfl) ?_
 rintro _ w4 ⟨bR'1, cR'1, PR'1, bL'1, cL'1, PL'1, bS'1, cS'1, rfl, h1, h2, r6, r7, r8, ge1, ge2, ge3, ne1, ne2, ne3, fm1, fn1, fn2, fn3, fn4, fm2, fn5, fn6, fn7, m4⟩
 refine WL.op (op_alloc (cs := [.slice none 0 0, .slice none 0 0, .slice none 0 0, vI 0, vF 0, vF 0, vF 0, vF 0, vF 0, .bool false, vF 0, vF 0, vF 0]) Try.zeroValue33 rfl) rfl rfl (ltb rfl) ?_
 rintro _ w5 ⟨rfl, r9, m5, z3⟩
 refine WL.op0 (op_store (i := 0) (cs := [vS bR'1 0 nR cR'1, vS bL'1 0 nL cL'1, vS bS'1 0 0 cS'1, vI k, vF kc0, vF kc1, vF kc2, vF ks0, vF ks1, .bool op, vF lo, vF re, vF sl]) rfl rfl rfl Try.sizeOf33 rfl r9 rfl (lB rfl) rfl) rfl rfl ?_
 rintro _ w6 ⟨r10, m6, z4⟩
 have r11 : Row w6 w4.heap.size 0 [vS bR'1 0 nR cR'1, vS bL'1 0 nL cL'1, vS bS'1 0 0 cS'1, vI k, vF kc0, vF kc1, vF kc2, vF ks0, vF ks1, .bool op, vF lo, vF re, vF sl] := Row.congr r10 rfl
 refine WL.end (NE.code (CE.seq (CE.region ?_)))
 refine WL.op (op_emptySl rfl Try.runUnderlying26 Try.sizeOf27) rfl rfl (ltb rfl) ?_
 rintro _ w7 ⟨rfl, r12, m7, z5⟩
 refine WL.det (op_assign rfl) rfl rfl rfl ?_
 refine WL.end (NE.code (CE.seq (CE.seq (CE.region ?_))))
 refine WL.det (op_assign rfl) rfl rfl rfl ?_
 refine WL.end (NE.code (CE.block ?_))
 have r13 := (((r6.ext m5).mod m6 (nC (lE (lL r6.lt lR)) nN)).ext m7)
 have r14 := (((r7.ext m5).mod m6 (nC (lE (lL r7.lt lR)) nN)).ext m7)
 refine CE.loop (fun (z : Nat × Option Addr × Nat × List Nat) => [(9, vI ((z.1 : Nat) : Int)), (8, .slice z.2.1 z.1 z.2.2.1), (1, .slice Al l cl), (4, vP w1.heap.size 0), (5, .slice none 0 0), (6, vI 0), (7, vP w4.heap.size 0)]) (fun (z : Nat × Option Addr × Nat × List Nat) => fun W => (z.1 ≤ l) ∧ (GoodD (pipeAt nR 0 xS k kc0 kc1 kc2 op lo re sl (PipeSt.mk GR GL ks0 ks1) (fun j => ss.getD j 0) z.1).R nR) ∧ (GoodD (pipeAt nR 0 xS k kc0 kc1 kc2 op lo re sl (PipeSt.mk GR GL ks0 ks1) (fun j => ss.getD j 0) z.1).L nL) ∧ ((pipeAt nR 0 xS k kc0 kc1 kc2 op lo re sl (PipeSt.mk GR GL ks0 ks1) (fun j => ss.getD j 0) z.1).R.length = nR) ∧ ((pipeAt nR 0 xS k kc0 kc1 kc2 op lo re sl (PipeSt.mk GR GL ks0 ks1) (fun j => ss.getD j 0) z.1).L.length = nL) ∧ (∀ j, ((pipeAt nR 0 xS k kc0 kc1 kc2 op lo re sl (PipeSt.mk GR GL ks0 ks1) (fun j => ss.getD j 0) z.1).R.getD j RD.d).xs.length ≤ 1048576) ∧ (∀ j, ((pipeAt nR 0 xS k kc0 kc1 kc2 op lo re sl (PipeSt.mk GR GL ks0 ks1) (fun j => ss.getD j 0) z.1).L.getD j RD.d).xs.length ≤ 1048576) ∧ ((pipeAt nR 0 xS k kc0 kc1 kc2 op lo re sl (PipeSt.mk GR GL ks0 ks1) (fun j => ss.getD j 0) z.1).s0 < wid .f32) ∧ ((pipeAt nR 0 xS k kc0 kc1 kc2 op lo re sl (PipeSt.mk GR GL ks0 ks1) (fun j => ss.getD j 0) z.1).s1 < wid .f32) ∧ (z.2.2.2.length = z.1) ∧ (W32 z.2.2.2) ∧ (Cn z.2.2.2 (outs (pipeOut nR 0 xS k kc0 kc1 kc2 op lo re sl (PipeSt.mk GR GL ks0 ks1) (fun j => ss.getD j 0)) z.1)) ∧ Row W w4.heap.size 0 [vS bR'1 0 nR cR'1, vS bL'1 0 nL cL'1, vS bS'1 0 0 cS'1, vI k, vF kc0, vF kc1, vF kc2, vF ((pipeAt nR 0 xS k kc0 kc1 kc2 op lo re sl (PipeSt.mk GR GL ks0 ks1) (fun j => ss.getD j 0) z.1).s0), vF ((pipeAt nR 0 xS k kc0 kc1 kc2 op lo re sl (PipeSt.mk GR GL ks0 ks1) (fun j => ss.getD j 0) z.1).s1), .bool op, vF lo, vF re, vF sl] ∧ Row W bR'1 0 (olc ((pipeAt nR 0 xS k kc0 kc1 kc2 op lo re sl (PipeSt.mk GR GL ks0 ks1) (fun j => ss.getD j 0) z.1).R) PR'1) ∧ Row W bL'1 0 (olc ((pipeAt nR 0 xS k kc0 kc1 kc2 op lo re sl (PipeSt.mk GR GL ks0 ks1) (fun j => ss.getD j 0) z.1).L) PL'1) ∧ Own 27 1 w7.heap.size W z.2.1 z.1 z.2.2.1 (fl z.2.2.2) ∧ OF w3.heap.size W ((pipeAt nR 0 xS k kc0 kc1 kc2 op lo re sl (PipeSt.mk GR GL ks0 ks1) (fun j => ss.getD j 0) z.1).R) PR'1 ∧ OF w3.heap.size W ((pipeAt nR 0 xS k kc0 kc1 kc2 op lo re sl (PipeSt.mk GR GL ks0 ks1) (fun j => ss.getD j 0) z.1).L) PL'1 ∧ Mod (w4.heap.size :: bR'1 :: bL'1 :: (PR'1.map BC.b ++ (PL'1.map BC.b ++ []))) w7 W) (fun (z : Nat × Option Addr × Nat × List Nat) => l - z.1) (0, (some ⟨w6.heap.size, 0, none⟩), 0, []) (⟨rfl, rfl, rfl, rfl, rfl, rfl, rfl, trivial⟩) ⟨(by omega), (by rw [pipeAt_zero]; exact gR), (by rw [pipeAt_zero]; exact gL), (by rw [pipeAt_zero]; exact lDR), (by rw [pipeAt_zero]; exact lDL), (by exact fun j => Nat.le_trans (Nat.le_of_eq (pipeAt_lens j _).1) (hzR j)), (by exact fun j => Nat.le_trans (Nat.le_of_eq (pipeAt_lens j _).2) (hzL j)), (by rw [pipeAt_zero]; assumption), (by rw [pipeAt_zero]; assumption), (by rfl), (by exact W32.nil), (by exact Cn.refl _), (Row.congr (r11.ext m7) (by rw [pipeAt_zero])), (Row.congr r13 (by rw [pipeAt_zero])), (Row.congr r14 (by rw [pipeAt_zero])), (Own.congr Own.emp (rfl)), (OF.congr (((fm1.ext m5).mod m6 (fun j hj => (nC (lE (lL (OF.lt fm1 (Nat.lt_of_lt_of_eq (Nat.lt_of_lt_of_eq hj lDR) lDR.symm)) lR)) nN))).ext m7) (by rw [pipeAt_zero])), (OF.congr (((fm2.ext m5).mod m6 (fun j hj => (nC (lE (lL (OF.lt fm2 (Nat.lt_of_lt_of_eq (Nat.lt_of_lt_of_eq hj lDL) lDL.symm)) lR)) nN))).ext m7) (by rw [pipeAt_zero])), Mod.refl _ _⟩ ?_
 rintro ⟨i, A, cc, ys⟩ w8 ⟨hi, g1, g2, l1, l2, z1, z2, b0, b1, hly, hwy, hcy, r15, r16, r17, ow1, fm3, fm4, m8⟩
 replace hi : i ≤ l := hi
 replace g1 : GoodD (pipeAt nR 0 xS k kc0 kc1 kc2 op lo re sl (PipeSt.mk GR GL ks0 ks1) (fun j => ss.getD j 0) i).R nR := g1
 replace g2 : GoodD (pipeAt nR 0 xS k kc0 kc1 kc2 op lo re sl (PipeSt.mk GR GL ks0 ks1) (fun j => ss.getD j 0) i).L nL := g2
 replace l1 : (pipeAt nR 0 xS k kc0 kc1 kc2 op lo re sl (PipeSt.mk GR GL ks0 ks1) (fun j => ss.getD j 0) i).R.length = nR := l1
 replace l2 : (pipeAt nR 0 xS k kc0 kc1 kc2 op lo re sl (PipeSt.mk GR GL ks0 ks1) (fun j => ss.getD j 0) i).L.length = nL := l2
 replace z1 : ∀ j, ((pipeAt nR 0 xS k kc0 kc1 kc2 op lo re sl (PipeSt.mk GR GL ks0 ks1) (fun j => ss.getD j 0) i).R.getD j RD.d).xs.length ≤ 1048576 := z1
 replace z2 : ∀ j, ((pipeAt nR 0 xS k kc0 kc1 kc2 op lo re sl (PipeSt.mk GR GL ks0 ks1) (fun j => ss.getD j 0) i).L.getD j RD.d).xs.length ≤ 1048576 := z2
 replace b0 : (pipeAt nR 0 xS k kc0 kc1 kc2 op lo re sl (PipeSt.mk GR GL ks0 ks1) (fun j => ss.getD j 0) i).s0 < wid .f32 := b0
 replace b1 : (pipeAt nR 0 xS k kc0 kc1 kc2 op lo re sl (PipeSt.mk GR GL ks0 ks1) (fun j => ss.getD j 0) i).s1 < wid .f32 := b1
 replace hly : ys.length = i := hly
 replace hwy : W32 ys := hwy
 replace hcy : Cn ys (outs (pipeOut nR 0 xS k kc0 kc1 kc2 op lo re sl (PipeSt.mk GR GL ks0 ks1) (fun j => ss.getD j 0)) i) := hcy
 replace r15 : Row w8 w4.heap.size 0 [vS bR'1 0 nR cR'1, vS bL'1 0 nL cL'1, vS bS'1 0 0 cS'1, vI k, vF kc0, vF kc1, vF kc2, vF ((pipeAt nR 0 xS k kc0 kc1 kc2 op lo re sl (PipeSt.mk GR GL ks0 ks1) (fun j => ss.getD j 0) i).s0), vF ((pipeAt nR 0 xS k kc0 kc1 kc2 op lo re sl (PipeSt.mk GR GL ks0 ks1) (fun j => ss.getD j 0) i).s1), .bool op, vF lo, vF re, vF sl] := r15
 replace r16 : Row w8 bR'1 0 (olc ((pipeAt nR 0 xS k kc0 kc1 kc2 op lo re sl (PipeSt.mk GR GL ks0 ks1) (fun j => ss.getD j 0) i).R) PR'1) := r16
 replace r17 : Row w8 bL'1 0 (olc ((pipeAt nR 0 xS k kc0 kc1 kc2 op lo re sl (PipeSt.mk GR GL ks0 ks1) (fun j => ss.getD j 0) i).L) PL'1) := r17
 replace ow1 : Own 27 1 w7.heap.size w8 A i cc (fl ys) := ow1
 replace fm3 : OF w3.heap.size w8 ((pipeAt nR 0 xS k kc0 kc1 kc2 op lo re sl (PipeSt.mk GR GL ks0 ks1) (fun j => ss.getD j 0) i).R) PR'1 := fm3
 replace fm4 : OF w3.heap.size w8 ((pipeAt nR 0 xS k kc0 kc1 kc2 op lo re sl (PipeSt.mk GR GL ks0 ks1) (fun j => ss.getD j 0) i).L) PL'1 := fm4
 show CE _ _ _ _ [(9, vI ((i : Nat) : Int)), (8, .slice A i cc), (1, .slice Al l cl), (4, vP w1.heap.size 0), (5, .slice none 0 0), (6, vI 0), (7, vP w4.heap.size 0)] _
 refine CE.seq (CE.seq (CE.region ?_))
 iterate 2 refine WL.det (op_move rfl) rfl rfl rfl ?_
 refine WL.det (op_len rfl Try.runUnderlying26) rfl rfl rfl ?_
 refine WL.det (op_lti rfl rfl) rfl rfl rfl ?_
 refine WL.end (NE.code ?_)
 rcases Bool.eq_false_or_eq_true (decide (((i : Nat) : Int) < ((l : Nat) : Int))) with hb1 | hb1
 ·have hp1 := of_decide_eq_true hb1
  refine CE.cond_t rfl hb1 ?_
  refine CE.skip' (NE.code (CE.seq (CE.block (CE.region ?_))))
  iterate 3 refine WL.det (op_move rfl) rfl rfl rfl ?_
  refine WL.det (op_indexSl (off' := ol + i) rfl (hAl (by omega)) rfl Try.runUnderlying26 Try.sizeOf27 (by omega) (by omega) (by omega)) rfl rfl rfl ?_
  have sz1 := (lT (lT (lT m1.size m2.size) m3.size) m4.size)
  have sz2 := (lT (lT m1.size m2.size) m3.size)
  have r18 := (Rng.youngS rl ((Rng.youngS rl (((((rl.ext m1).ext m2).ext m3).ext m4).ext m5) m6 (allge_cons (lT sz1 lR) allge_nil)).ext m7) m8 (allge_cons (lT sz1 lR) (allge_cons (lT sz2 ge1) (allge_cons (lT sz2 ge2) (gA h1 (fun j hj => (lT sz2 (fm3.ge j (Nat.lt_of_lt_of_eq hj l1.symm)))) (gA h2 (fun j hj => (lT sz2 (fm4.ge j (Nat.lt_of_lt_of_eq hj l2.symm)))) allge_nil))))))
  refine WL.det (op_load1 (i := i) rfl Try.isAgg27 r18 rfl (fl_get (by have eL : List.length ss = l := ls; omega))) rfl rfl rfl ?_
  have r19 := ((((r8.ext m5).mod m6 (nC (lE (lL r8.lt lR)) nN)).ext m7).mod m8 (nC (lE (lL r8.lt lR)) (nC (Ne.symm ne2) (nC (Ne.symm ne3) (nA h1 (fun j hj => (fn3 j hj)) (nA h2 (fun j hj => (fn7 j hj)) nN))))))
  refine WL.call (oc_call (vs := [vP w4.heap.size 0, vF (ss.getD i 0)]) (cap := []) rfl rfl rfl Try.call60 (c_l04Step nR ((pipeAt nR 0 xS k kc0 kc1 kc2 op lo re sl (PipeSt.mk GR GL ks0 ks1) (fun j => ss.getD j 0) i).R) nL ((pipeAt nR 0 xS k kc0 kc1 kc2 op lo re sl (PipeSt.mk GR GL ks0 ks1) (fun j => ss.getD j 0) i).L) 0 xS cR'1 bR'1 PR'1 w3.heap.size cL'1 bL'1 PL'1 w3.heap.size cS'1 bS'1 k kc0 kc1 kc2 ((pipeAt nR 0 xS k kc0 kc1 kc2 op lo re sl (PipeSt.mk GR GL ks0 ks1) (fun j => ss.getD j 0) i).s0) ((pipeAt nR 0 xS k kc0 kc1 kc2 op lo re sl (PipeSt.mk GR GL ks0 ks1) (fun j => ss.getD j 0) i).s1) op lo re sl w4.heap.size (ss.getD i 0) (ss.getD i 0) l1 l2 lnS (by first | assumption | exact rd_small (by assumption) (by assumption) | exact markD_small (by first | assumption | exact rd_small (by assumption) (by assumption)) _) (by first | assumption | exact rd_small (by assumption) (by assumption) | exact markD_small (by first | assumption | exact rd_small (by assumption) (by assumption)) _) h1 h2 (by first | assumption | omega) (by first | assumption | omega) (by first | assumption | omega) (by first | assumption | omega) (by assumption) (by assumption) b0 b1 rfl (wl.get _) w8 r15 r16 r17 r19.rng (lG (lL r6.lt lR)) (lG (lL r7.lt lR)) (lG (lL r8.lt lR)) ne1 ne2 ne3 fm3 (fun j hj => (lE (lL (OF.lt fm1 (Nat.lt_of_lt_of_eq hj lDR.symm)) lR))) (fun j hj => (fn1 j hj)) (fun j hj => (fn2 j hj)) (fun j hj => (fn3 j hj)) (fun j q hj hq => (fn4 j q hj hq)) fm4 (fun j hj => (lE (lL (OF.lt fm2 (Nat.lt_of_lt_of_eq hj lDL.symm)) lR))) (fun j hj => (fn5 j hj)) (fun j hj => (fn6 j hj)) (fun j hj => (fn7 j hj)))) rfl rfl (ltb rfl) ?_
  rintro _ w9 ⟨y1, rfl, h3, h4, h5, h6, h7, h8, r20, r21, r22, fm5, fm6, m9⟩
  refine WL.op (op_buildSl (qs := [(0, vF y1)]) (cells := #[vF y1]) rfl Try.runUnderlying26 Try.sizeOf27 Try.zeroValue27 (by decide) (by decide) (by kernel_rfl)) rfl rfl (ltb rfl) ?_
  rintro _ w10 ⟨rfl, r23, m10, z6⟩
  have sz3 := (lT (lT m5.size m6.size) m7.size)
  have sz4 := (lT (lT m8.size m9.size) m10.size)
  refine WL.op (op_app (i := Try.t27) (m := 1) (bt := 4) (news := [vF y1]) rfl rfl Try.underlying26 rfl rfl rfl rfl rfl (by decide) r23.rng rfl rfl ((ow1.mod m9 (altC (lL r9.lt (lT m6.size m7.size)) (altC (lL r6.lt sz3) (altC (lL r7.lt sz3) (tA h1 (fun j hj => lL (OF.lt fm1 (Nat.lt_of_lt_of_eq hj lDR.symm)) sz3) (tA h2 (fun j hj => lL (OF.lt fm2 (Nat.lt_of_lt_of_eq hj lDL.symm)) sz3) altN)))))).ext m10) sz4 (by omega) (by decide)) rfl rfl (ltb rfl) ?_
  rintro _ w11 ⟨A1, c1, b1, rfl, ow2, ge4, m11⟩
  refine WL.det (op_assign rfl) rfl rfl rfl ?_
  refine WL.end (NE.blk (NE.code (CE.region ?_)))
  refine WL.det (op_move rfl) rfl rfl rfl ?_
  refine WL.det (op_add (r := ((i + 1 : Nat) : Int)) rfl rfl (w_i64 (by omega) (by omega))) rfl rfl rfl ?_
  refine WL.det (op_assign rfl) rfl rfl rfl ?_
  refine WL.end ?_
  have r24 := ((r20.ext m10).mod m11 (nC (lE (lL (lL r9.lt (lT m6.size m7.size)) ge4)) nN))
  exact NE.again ((i + 1), A1, c1, (ys ++ [y1])) (⟨rfl, rfl, rfl, rfl, rfl, rfl, rfl, trivial⟩) ⟨(by omega), (by rw [pipeAt_succ]; assumption), (by rw [pipeAt_succ]; assumption), (by rw [pipeAt_succ]; exact stR_len l1 _), (by rw [pipeAt_succ]; exact endL_len l2), (by exact fun j => Nat.le_trans (Nat.le_of_eq (pipeAt_lens j _).1) (hzR j)), (by exact fun j => Nat.le_trans (Nat.le_of_eq (pipeAt_lens j _).2) (hzL j)), (by rw [pipeAt_succ]; assumption), (by rw [pipeAt_succ]; assumption), (by simp [hly]), (by exact W32.snoc hwy (by assumption)), (by exact Cn.snoc hcy (by assumption)), (Row.congr r24 (by rw [pipeAt_succ]; rfl)), (Row.congr ((r21.ext m10).mod m11 (nC (lE (lL (lL r6.lt sz3) ge4)) nN)) (by rw [pipeAt_succ]; rfl)), (Row.congr ((r22.ext m10).mod m11 (nC (lE (lL (lL r7.lt sz3) ge4)) nN)) (by rw [pipeAt_succ]; rfl)), (Own.congr ow2 (fl_snoc _ _)), (OF.congr ((fm5.ext m10).mod m11 (fun j hj => (nC (lE (lL (OF.lt fm1 (Nat.lt_of_lt_of_eq (Nat.lt_of_lt_of_eq hj (stR_len l1 _)) lDR.symm)) (lT sz3 ge4))) nN))) (by rw [pipeAt_succ]; rfl)), (OF.congr ((fm6.ext m10).mod m11 (fun j hj => (nC (lE (lL (OF.lt fm2 (Nat.lt_of_lt_of_eq (Nat.lt_of_lt_of_eq hj (endL_len l2)) lDL.symm)) (lT sz3 ge4))) nN))) (by rw [pipeAt_succ]; rfl)), (((m8.then m9 ((aC (.inl (by simp)) (aC (.inl (by simp)) (aC (.inl (by simp)) (aI (fun x hx => by simp only [List.mem_cons, List.mem_append, hx, true_or, or_true]) (aI (fun x hx => by simp only [List.mem_cons, List.mem_append, hx, true_or, or_true]) aN))))))).nt m10).then m11 ((aC (.inr ge4) aN)))⟩ (by first | (dsimp only; omega) | omega)
 ·have hp1 := of_decide_eq_false hb1
  refine CE.cond_f rfl hb1 ?_
  refine CE.exit' (XE.exit_then (XE.exit_then (XE.exit_here (NE.code (CE.seq (CE.region ?_))))))
  refine WL.det (op_loadA (i := 0) (cs := [vS bR'1 0 nR cR'1, vS bL'1 0 nL cL'1, vS bS'1 0 0 cS'1, vI k, vF kc0, vF kc1, vF kc2, vF ((pipeAt nR 0 xS k kc0 kc1 kc2 op lo re sl (PipeSt.mk GR GL ks0 ks1) (fun j => ss.getD j 0) i).s0), vF ((pipeAt nR 0 xS k kc0 kc1 kc2 op lo re sl (PipeSt.mk GR GL ks0 ks1) (fun j => ss.getD j 0) i).s1), .bool op, vF lo, vF re, vF sl]) rfl Try.isAgg33 Try.sizeOf33 r15.rng rfl rfl rfl) rfl rfl rfl ?_
  refine WL.det (op_move rfl) rfl rfl rfl ?_
  have r25 := ((((((r2.ext m3).ext m4).ext m5).mod m6 (nC (lE (lL (lL r2.lt (lT m3.size m4.size)) lR)) nN)).ext m7).mod m8 (nC (lE (lL (lL r2.lt (lT m3.size m4.size)) lR)) (nC (lE (lL (lL r2.lt m3.size) ge1)) (nC (lE (lL (lL r2.lt m3.size) ge2)) (nA h1 (fun j hj => (lG (lL (lL r2.lt m3.size) (fm3.ge j (Nat.lt_of_lt_of_eq hj l1.symm))))) (nA h2 (fun j hj => (lG (lL (lL r2.lt m3.size) (fm4.ge j (Nat.lt_of_lt_of_eq hj l2.symm))))) nN))))))
  refine WL.op0 (op_store (i := 0) (cs := [vS bR'1 0 nR cR'1, vS bL'1 0 nL cL'1, vS bS'1 0 0 cS'1, vI k, vF kc0, vF kc1, vF kc2, vF ((pipeAt nR 0 xS k kc0 kc1 kc2 op lo re sl (PipeSt.mk GR GL ks0 ks1) (fun j => ss.getD j 0) i).s0), vF ((pipeAt nR 0 xS k kc0 kc1 kc2 op lo re sl (PipeSt.mk GR GL ks0 ks1) (fun j => ss.getD j 0) i).s1), .bool op, vF lo, vF re, vF sl]) rfl rfl rfl Try.sizeOf33 rfl r25 rfl (lB rfl) rfl) rfl rfl ?_
  rintro _ w12 ⟨r26, m12, z7⟩
  have r27 : Row w12 w1.heap.size 0 [vS bR'1 0 nR cR'1, vS bL'1 0 nL cL'1, vS bS'1 0 0 cS'1, vI k, vF kc0, vF kc1, vF kc2, vF ((pipeAt nR 0 xS k kc0 kc1 kc2 op lo re sl (PipeSt.mk GR GL ks0 ks1) (fun j => ss.getD j 0) i).s0), vF ((pipeAt nR 0 xS k kc0 kc1 kc2 op lo re sl (PipeSt.mk GR GL ks0 ks1) (fun j => ss.getD j 0) i).s1), .bool op, vF lo, vF re, vF sl] := Row.congr r26 rfl
  iterate 2 refine WL.det (op_assign rfl) rfl rfl rfl ?_
  refine WL.end (NE.code (CE.ret' ?_))
  have ei : l = i := by omega
  subst ei
  have r29 := (r15.mod m12 (nC (lG (lL (lL r2.lt (lT m3.size m4.size)) lR)) nN))
  have sz5 := (lT (lT (lT (lT m3.size m4.size) m5.size) m6.size) m7.size)
  obtain ⟨b2, hA1, r28, hq1⟩ := Own.out (ow1.mod m12 (altC (lL r2.lt sz5) altN)) r29
  have sz6 := (lT (lT (lT m1.size m2.size) m3.size) m4.size)
  have sz7 := (lT (lT (lT sz6 m5.size) m6.size) m7.size)
  have sz8 := (lT (lT m2.size m3.size) m4.size)
  have sz9 := (lT (lT (lT sz8 m5.size) m6.size) m7.size)
  have sz10 := (lT (lT m5.size m6.size) m7.size)
  have fq1 : ∀ j, j < nR → (PR.getD j BC.d).b ≠ b2 := (fun j hj => own_ne hq1 (lE (lL (OF.lt FR (Nat.lt_of_lt_of_eq hj lDR.symm)) (lT sz6 lR))) (lL (OF.lt FR (Nat.lt_of_lt_of_eq hj lDR.symm)) sz7))
  have fq2 : ∀ j, j < nL → (PL.getD j BC.d).b ≠ b2 := (fun j hj => own_ne hq1 (lE (lL (OF.lt FL (Nat.lt_of_lt_of_eq hj lDL.symm)) (lT sz6 lR))) (lL (OF.lt FL (Nat.lt_of_lt_of_eq hj lDL.symm)) sz7))
  have fq3 : ∀ j, j < nR → (PR'1.getD j BC.d).b ≠ b2 := (fun j hj => own_ne hq1 (lE (lL (OF.lt fm1 (Nat.lt_of_lt_of_eq hj lDR.symm)) lR)) (lL (OF.lt fm1 (Nat.lt_of_lt_of_eq hj lDR.symm)) sz10))
  have fq4 : ∀ j, j < nL → (PL'1.getD j BC.d).b ≠ b2 := (fun j hj => own_ne hq1 (lE (lL (OF.lt fm2 (Nat.lt_of_lt_of_eq hj lDL.symm)) lR)) (lL (OF.lt fm2 (Nat.lt_of_lt_of_eq hj lDL.symm)) sz10))
  refine XE.leaveT Try.results17 (res_agg (cs := [vS bR'1 0 nR cR'1, vS bL'1 0 nL cL'1, vS bS'1 0 0 cS'1, vI k, vF kc0, vF kc1, vF kc2, vF ((pipeAt nR 0 xS k kc0 kc1 kc2 op lo re sl (PipeSt.mk GR GL ks0 ks1) (fun j => ss.getD j 0) l).s0), vF ((pipeAt nR 0 xS k kc0 kc1 kc2 op lo re sl (PipeSt.mk GR GL ks0 ks1) (fun j => ss.getD j 0) l).s1), .bool op, vF lo, vF re, vF sl]) rfl Try.isAgg33 Try.sizeOf33 r27.rng rfl (res_tmp rfl (res_tmp rfl res_nil))) ?_
  have r30 := (((((r8.ext m5).mod m6 (nC (lE (lL r8.lt lR)) nN)).ext m7).mod m8 (nC (lE (lL r8.lt lR)) (nC (Ne.symm ne2) (nC (Ne.symm ne3) (nA h1 (fun j hj => (fn3 j hj)) (nA h2 (fun j hj => (fn7 j hj)) nN)))))).mod m12 (nC (lG (lL (lL r2.lt m3.size) ge3)) nN))
  have sz11 := (lT (lT m1.size m2.size) m3.size)
  refine ⟨bR'1, cR'1, PR'1, bL'1, cL'1, PL'1, bS'1, cS'1, b2, cc, A, ys, ?_, h1, h2, hA1, ?_, ?_, ?_, (Row.congr (r16.mod m12 (nC (lG (lL (lL r2.lt m3.size) ge1)) nN)) ?_), (Row.congr (r17.mod m12 (nC (lG (lL (lL r2.lt m3.size) ge2)) nN)) ?_), r30, r28, (lT sz11 ge1), (lT sz11 ge2), (lT sz11 ge3), (own_ge hq1 (lT sz6 lR) sz7), ne1, ne2, ne3, (own_ne hq1 (lE (lL r6.lt lR)) (lL r6.lt sz10)), (own_ne hq1 (lE (lL r7.lt lR)) (lL r7.lt sz10)), (own_ne hq1 (lE (lL r8.lt lR)) (lL r8.lt sz10)), (OF.congr (OF.low (fm3.mod m12 (fun j hj => (nC (lG (lL (lL r2.lt m3.size) (fm3.ge j (Nat.lt_of_lt_of_eq (Nat.lt_of_lt_of_eq hj l1) l1.symm)))) nN))) sz11) (by rw [hze])), (fun j hj => (fn1 j (show j < nR by omega))), (fun j hj => (fn2 j (show j < nR by omega))), (fun j hj => (fn3 j (show j < nR by omega))), (fun j q hj hq => (fn4 j q (show j < nR by omega) (show q < nL by omega))), (fun j hj => (fq3 j (show j < nR by omega))), (OF.congr (OF.low (fm4.mod m12 (fun j hj => (nC (lG (lL (lL r2.lt m3.size) (fm4.ge j (Nat.lt_of_lt_of_eq (Nat.lt_of_lt_of_eq hj l2) l2.symm)))) nN))) sz11) (by rw [hze])), (fun j hj => (fn5 j (show j < nL by omega))), (fun j hj => (fn6 j (show j < nL by omega))), (fun j hj => (fn7 j (show j < nL by omega))), (fun j hj => (fq4 j (show j < nL by omega))), ((((((((((Mod.refl [] w).nt m1).nt m2).nt m3).nt m4).nt m5).then m6 ((aC (.inr (lT sz6 lR)) aN))).nt m7).then m8 ((aC (.inr (lT sz6 lR)) (aC (.inr (lT sz11 ge1)) (aC (.inr (lT sz11 ge2)) (aA h1 (fun j hj => (lT sz11 (fm3.ge j (Nat.lt_of_lt_of_eq hj l1.symm)))) (aA h2 (fun j hj => (lT sz11 (fm4.ge j (Nat.lt_of_lt_of_eq hj l2.symm)))) aN))))))).then m12 ((aC (.inr (lT m1.size lR)) aN)))⟩
  all_goals subst hze
  all_goals subst hoe
  all_goals first | assumption | rfl

theorem c_iPlayP (nR : Nat) (GR : List RD) (nL : Nat) (GL : List RD) (nS : Nat) (xS : List Nat) (cR : Nat) (bR : Nat) (PR : List BC) (loR : Nat) (cL : Nat) (bL : Nat) (PL : List BC) (loL : Nat) (cS : Nat) (bS : Nat) (k : Int) (kc0 : Nat) (kc1 : Nat) (kc2 : Nat) (ks0 : Nat) (ks1 : Nat) (op : Bool) (lo : Nat) (re : Nat) (sl : Nat) (l : Nat) (cl : Nat) (Al : Option Addr) (bl : Nat) (ol : Nat) (ss : List Nat) (z : PipeSt) (ou : List Nat) (lDR : GR.length = nR) (lDL : GL.length = nL) (lnS : xS.length = nS) (hzR : ∀ i, (GR.getD i RD.d).xs.length ≤ 1048576) (hzL : ∀ i, (GL.getD i RD.d).xs.length ≤ 1048576) (lPR : PR.length = nR) (lPL : PL.length = nL) (mR : nR ≤ 1048576) (mL : nL ≤ 1048576) (mS : nS ≤ 1048576) (h0n : 0 < nR) (h0m : 0 < nL) (hpR : ∀ i, i < nR → 0 < (GR.getD i RD.d).xs.length) (hpL : ∀ i, i < nL → 0 < (GL.getD i RD.d).xs.length) (hs : 1 ≤ nR ∧ nR ≤ 3 ∧ nL = nR ∧ nS + 1 = nR) (h0s : 0 < nS) (gR : GoodD GR nR) (gL : GoodD GL nL) (lks0 : ks0 < wid .f32) (lks1 : ks1 < wid .f32) (ls : ss.length = l) (hAl : 0 < l → Al = some ⟨bl, ol, none⟩) (wl : W32 ss) (hll : l ≤ 4096) (hv : vPipe nR nL nS GR GL xS k kc0 kc1 kc2 ks0 ks1 lo re sl = true) (hze : z = (pipeAt nR nS xS k kc0 kc1 kc2 op lo re sl (PipeSt.mk GR GL ks0 ks1) (fun j => ss.getD j 0) l)) (hoe : ou = (outs (pipeOut nR nS xS k kc0 kc1 kc2 op lo re sl (PipeSt.mk GR GL ks0 ks1) (fun j => ss.getD j 0)) l)) (lZR : z.R.length = nR) (lZL : z.L.length = nL) (w : World) (rR : Rng w bR 0 (olc GR PR)) (rL : Rng w bL 0 (olc GL PL)) (rS : Rng w bS 0 (fl xS)) (rl : Rng w bl ol (fl ss))  (FR : OF loR w GR PR) (FL : OF loL w GL PL) : Cl Try.prog 21 #[.agg #[vS bR 0 nR cR, vS bL 0 nL cL, vS bS 0 nS cS, vI k, vF kc0, vF kc1, vF kc2, vF ks0, vF ks1, .bool op, vF lo, vF re, vF sl], .slice Al l cl] w fun v w' => ∃ (bR' : Nat) (cR' : Nat) (PR' : List BC) (bL' : Nat) (cL' : Nat) (PL' : List BC) (bS' : Nat) (cS' : Nat) (e' : Nat) (c3' : Nat) (A' : Option Addr) (ys : List Nat), v = .tuple #[.agg #[vS bR' 0 nR cR', vS bL' 0 nL cL', vS bS' 0 nS cS', vI k, vF kc0, vF kc1, vF kc2, vF z.s0, vF z.s1, .bool op, vF lo, vF re, vF sl], .slice A' l c3', vI 0] ∧ (PR'.length = nR) ∧ (PL'.length = nL) ∧ (0 < l → A' = some ⟨e', 0, none⟩) ∧ (ys.length = l) ∧ (W32 ys) ∧ (Cn ys ou) ∧ Row w' bR' 0 (olc z.R PR') ∧ Row w' bL' 0 (olc z.L PL') ∧ Row w' bS' 0 (fl xS) ∧ Row w' e' 0 (fl ys) ∧ w.heap.size ≤ bR' ∧ w.heap.size ≤ bL' ∧ w.heap.size ≤ bS' ∧ w.heap.size ≤ e' ∧ bR' ≠ bL' ∧ bR' ≠ bS' ∧ bL' ≠ bS' ∧ bR' ≠ e' ∧ bL' ≠ e' ∧ bS' ≠ e' ∧ OF w.heap.size w' z.R PR' ∧ (∀ i, i < nR → (PR'.getD i BC.d).b ≠ bR') ∧ (∀ i, i < nR → (PR'.getD i BC.d).b ≠ bL') ∧ (∀ i, i < nR → (PR'.getD i BC.d).b ≠ bS') ∧ (∀ i j, i < nR → j < nL → (PR'.getD i BC.d).b ≠ (PL'.getD j BC.d).b) ∧ (∀ i, i < nR → (PR'.getD i BC.d).b ≠ e') ∧ OF w.heap.size w' z.L PL' ∧ (∀ i, i < nL → (PL'.getD i BC.d).b ≠ bR') ∧ (∀ i, i < nL → (PL'.getD i BC.d).b ≠ bL') ∧ (∀ i, i < nL → (PL'.getD i BC.d).b ≠ bS') ∧ (∀ i, i < nL → (PL'.getD i BC.d).b ≠ e') ∧ Mod [] w w' := by
 refine Cl.of Try.func21 Try.ntmps21 rfl rfl (ρ := [(0, .agg #[vS bR 0 nR cR, vS bL 0 nL cL, vS bS 0 nS cS, vI k, vF kc0, vF kc1, vF kc2, vF ks0, vF ks1, .bool op, vF lo, vF re, vF sl]), (1, .slice Al l cl)]) rfl ?_
 refine CE.seq (CE.region ?_)
 refine WL.op (op_box (cs := [vS bR 0 nR cR, vS bL 0 nL cL, vS bS 0 nS cS, vI k, vF kc0, vF kc1, vF kc2, vF ks0, vF ks1, .bool op, vF lo, vF re, vF sl]) rfl rfl) rfl rfl (ltb rfl) ?_
 rintro _ w1 ⟨rfl, r1, m1, z1⟩
 refine WL.op (op_alloc (cs := [.slice none 0 0, .slice none 0 0, .slice none 0 0, vI 0, vF 0, vF 0, vF 0, vF 0, vF 0, .bool false, vF 0, vF 0, vF 0]) Try.zeroValue33 rfl) rfl rfl (ltb rfl) ?_
 rintro _ w2 ⟨rfl, r2, m2, z2⟩
 iterate 2 refine WL.det (op_assign rfl) rfl rfl rfl ?_
 refine WL.end (NE.code (CE.seq (CE.block (CE.seq (CE.region ?_)))))
 refine WL.det (op_loadA (i := 0) (cs := [vS bR 0 nR cR, vS bL 0 nL cL, vS bS 0 nS cS, vI k, vF kc0, vF kc1, vF kc2, vF ks0, vF ks1, .bool op, vF lo, vF re, vF sl]) rfl Try.isAgg33 Try.sizeOf33 (r1.ext m2).rng rfl rfl rfl) rfl rfl rfl ?_
 refine WL.call (oc_call (vs := [.agg #[vS bR 0 nR cR, vS bL 0 nL cL, vS bS 0 nS cS, vI k, vF kc0, vF kc1, vF kc2, vF ks0, vF ks1, .bool op, vF lo, vF re, vF sl]]) (cap := []) rfl rfl rfl Try.call44 (c_ValidPipeS nR GR nL GL nS xS cR bR PR loR cL bL PL loL cS bS k kc0 kc1 kc2 ks0 ks1 op lo re sl lDR lDL lnS (by first | assumption | exact rd_small (by assumption) (by assumption) | exact markD_small (by first | assumption | exact rd_small (by assumption) (by assumption)) _) (by first | assumption | exact rd_small (by assumption) (by assumption) | exact markD_small (by first | assumption | exact rd_small (by assumption) (by assumption)) _) lPR lPL (by first | assumption | omega) (by first | assumption | omega) (by first | assumption | omega) (by omega) w2 ((rR.ext m1).ext m2) ((rL.ext m1).ext m2) ((rS.ext m1).ext m2) ((FR.ext m1).ext m2) ((FL.ext m1).ext m2))) rfl rfl (ltb rfl) ?_
 rintro _ w3 ⟨rfl, m3⟩
 refine WL.det (op_not rfl) rfl rfl rfl ?_
 refine WL.det (op_assign rfl) rfl rfl rfl ?_
 refine WL.end (NE.code ?_)
 refine CE.cond_f rfl (bnot_t hv) ?_
 refine CE.seq (CE.region ?_)
 refine WL.det (op_move rfl) rfl rfl rfl ?_
 refine WL.det (op_len rfl Try.runUnderlying26) rfl rfl rfl ?_
 refine WL.det (op_gti rfl rfl) rfl rfl rfl ?_
 refine WL.det (op_assign rfl) rfl rfl rfl ?_
 refine WL.end (NE.code ?_)
 refine CE.cond_f rfl (decide_eq_false (by omega)) ?_
 refine CE.skip' (NE.blk (NE.code (CE.seq (CE.region ?_))))
 refine WL.det (op_loadA (i := 0) (cs := [vS bR 0 nR cR, vS bL 0 nL cL, vS bS 0 nS cS, vI k, vF kc0, vF kc1, vF kc2, vF ks0, vF ks1, .bool op, vF lo, vF re, vF sl]) rfl Try.isAgg33 Try.sizeOf33 ((r1.ext m2).ext m3).rng rfl rfl rfl) rfl rfl rfl ?_
 have r3 := (((rR.ext m1).ext m2).ext m3)
 have r4 := (((rL.ext m1).ext m2).ext m3)
 have r5 := (((rS.ext m1).ext m2).ext m3)
 refine WL.call (oc_call (vs := [.agg #[vS bR 0 nR cR, vS bL 0 nL cL, vS bS 0 nS cS, vI k, vF kc0, vF kc1, vF kc2, vF ks0, vF ks1, .bool op, vF lo, vF re, vF sl]]) (cap := []) rfl rfl rfl Try.call63 (c_clonePipeS nR GR nL GL nS xS cR bR PR loR cL bL PL loL cS bS k kc0 kc1 kc2 ks0 ks1 op lo re sl lDR lDL lnS (by first | assumption | exact rd_small (by assumption) (by assumption) | exact markD_small (by first | assumption | exact rd_small (by assumption) (by assumption)) _) (by first | assumption | exact rd_small (by assumption) (by assumption) | exact markD_small (by first | assumption | exact rd_small (by assumption) (by assumption)) _) lPR lPL (by first | assumption | omega) (by first | assumption | omega) (by first | assumption | omega) (by omega) (by omega) (by first | assumption | exact vRings_pos (by assumption)) (by first | assumption | exact vRings_pos (by assumption)) (by first | assumption | omega) w3 r3 r4 r5 (((FR.ext m1).ext m2).ext m3) (((FL.ext m1).ext m2).ext m3))) rfl rfl (ltb rfl) ?_
 rintro _ w4 ⟨bR'1, cR'1, PR'1, bL'1, cL'1, PL'1, bS'1, cS'1, rfl, h1, h2, r6, r7, r8, ge1, ge2, ge3, ne1, ne2, ne3, fm1, fn1, fn2, fn3, fn4, fm2, fn5, fn6, fn7, m4⟩
 have r9 := (((r1.ext m2).ext m3).ext m4)
 refine WL.op0 (op_store (i := 0) (cs := [vS bR'1 0 nR cR'1, vS bL'1 0 nL cL'1, vS bS'1 0 nS cS'1, vI k, vF kc0, vF kc1, vF kc2, vF ks0, vF ks1, .bool op, vF lo, vF re, vF sl]) rfl rfl rfl Try.sizeOf33 rfl r9 rfl (lB rfl) rfl) rfl rfl ?_
 rintro _ w5 ⟨r10, m5, z3⟩
 have r11 : Row w5 w.heap.size 0 [vS bR'1 0 nR cR'1, vS bL'1 0 nL cL'1, vS bS'1 0 nS cS'1, vI k, vF kc0, vF kc1, vF kc2, vF ks0, vF ks1, .bool op, vF lo, vF re, vF sl] := Row.congr r10 rfl
 refine WL.end (NE.code (CE.seq (CE.region ?_)))
 refine WL.det (op_assign rfl) rfl rfl rfl ?_
 refine WL.end (NE.code (CE.seq (CE.seq (CE.region ?_))))
 refine WL.det (op_move rfl) rfl rfl rfl ?_
 refine WL.det (op_len rfl Try.runUnderlying26) rfl rfl rfl ?_
 refine WL.det (op_move rfl) rfl rfl rfl ?_
 refine WL.end (NE.code (CE.block ?_))
 have r12 := (r6.mod m5 (nC (lG (lL (lL r1.lt (lT m2.size m3.size)) ge1)) nN))
 have r13 := (r7.mod m5 (nC (lG (lL (lL r1.lt (lT m2.size m3.size)) ge2)) nN))
 refine CE.loop (fun (z : Nat × Option Addr × Nat × List Nat) => [(24, vI ((z.1 : Nat) : Int)), (7, .slice z.2.1 z.1 z.2.2.1), (2, vP w.heap.size 0), (4, vP w1.heap.size 0), (5, .slice none 0 0), (6, vI 0), (22, .slice Al l cl), (23, vI ((l : Nat) : Int))]) (fun (z : Nat × Option Addr × Nat × List Nat) => fun W => (z.1 ≤ l) ∧ (GoodD (pipeAt nR nS xS k kc0 kc1 kc2 op lo re sl (PipeSt.mk GR GL ks0 ks1) (fun j => ss.getD j 0) z.1).R nR) ∧ (GoodD (pipeAt nR nS xS k kc0 kc1 kc2 op lo re sl (PipeSt.mk GR GL ks0 ks1) (fun j => ss.getD j 0) z.1).L nL) ∧ ((pipeAt nR nS xS k kc0 kc1 kc2 op lo re sl (PipeSt.mk GR GL ks0 ks1) (fun j => ss.getD j 0) z.1).R.length = nR) ∧ ((pipeAt nR nS xS k kc0 kc1 kc2 op lo re sl (PipeSt.mk GR GL ks0 ks1) (fun j => ss.getD j 0) z.1).L.length = nL) ∧ (∀ j, ((pipeAt nR nS xS k kc0 kc1 kc2 op lo re sl (PipeSt.mk GR GL ks0 ks1) (fun j => ss.getD j 0) z.1).R.getD j RD.d).xs.length ≤ 1048576) ∧ (∀ j, ((pipeAt nR nS xS k kc0 kc1 kc2 op lo re sl (PipeSt.mk GR GL ks0 ks1) (fun j => ss.getD j 0) z.1).L.getD j RD.d).xs.length ≤ 1048576) ∧ ((pipeAt nR nS xS k kc0 kc1 kc2 op lo re sl (PipeSt.mk GR GL ks0 ks1) (fun j => ss.getD j 0) z.1).s0 < wid .f32) ∧ ((pipeAt nR nS xS k kc0 kc1 kc2 op lo re sl (PipeSt.mk GR GL ks0 ks1) (fun j => ss.getD j 0) z.1).s1 < wid .f32) ∧ (z.2.2.2.length = z.1) ∧ (W32 z.2.2.2) ∧ (Cn z.2.2.2 (outs (pipeOut nR nS xS k kc0 kc1 kc2 op lo re sl (PipeSt.mk GR GL ks0 ks1) (fun j => ss.getD j 0)) z.1)) ∧ Row W w.heap.size 0 [vS bR'1 0 nR cR'1, vS bL'1 0 nL cL'1, vS bS'1 0 nS cS'1, vI k, vF kc0, vF kc1, vF kc2, vF ((pipeAt nR nS xS k kc0 kc1 kc2 op lo re sl (PipeSt.mk GR GL ks0 ks1) (fun j => ss.getD j 0) z.1).s0), vF ((pipeAt nR nS xS k kc0 kc1 kc2 op lo re sl (PipeSt.mk GR GL ks0 ks1) (fun j => ss.getD j 0) z.1).s1), .bool op, vF lo, vF re, vF sl] ∧ Row W bR'1 0 (olc ((pipeAt nR nS xS k kc0 kc1 kc2 op lo re sl (PipeSt.mk GR GL ks0 ks1) (fun j => ss.getD j 0) z.1).R) PR'1) ∧ Row W bL'1 0 (olc ((pipeAt nR nS xS k kc0 kc1 kc2 op lo re sl (PipeSt.mk GR GL ks0 ks1) (fun j => ss.getD j 0) z.1).L) PL'1) ∧ Own 27 1 w5.heap.size W z.2.1 z.1 z.2.2.1 (fl z.2.2.2) ∧ OF w3.heap.size W ((pipeAt nR nS xS k kc0 kc1 kc2 op lo re sl (PipeSt.mk GR GL ks0 ks1) (fun j => ss.getD j 0) z.1).R) PR'1 ∧ OF w3.heap.size W ((pipeAt nR nS xS k kc0 kc1 kc2 op lo re sl (PipeSt.mk GR GL ks0 ks1) (fun j => ss.getD j 0) z.1).L) PL'1 ∧ Mod (w.heap.size :: bR'1 :: bL'1 :: (PR'1.map BC.b ++ (PL'1.map BC.b ++ []))) w5 W) (fun (z : Nat × Option Addr × Nat × List Nat) => l - z.1) (0, none, 0, []) (⟨rfl, rfl, rfl, rfl, rfl, rfl, rfl, rfl, trivial⟩) ⟨(by omega), (by rw [pipeAt_zero]; exact gR), (by rw [pipeAt_zero]; exact gL), (by rw [pipeAt_zero]; exact lDR), (by rw [pipeAt_zero]; exact lDL), (by exact fun j => Nat.le_trans (Nat.le_of_eq (pipeAt_lens j _).1) (hzR j)), (by exact fun j => Nat.le_trans (Nat.le_of_eq (pipeAt_lens j _).2) (hzL j)), (by rw [pipeAt_zero]; assumption), (by rw [pipeAt_zero]; assumption), (by rfl), (by exact W32.nil), (by exact Cn.refl _), (Row.congr r11 (by rw [pipeAt_zero])), (Row.congr r12 (by rw [pipeAt_zero])), (Row.congr r13 (by rw [pipeAt_zero])), (Own.congr Own.nil (rfl)), (OF.congr (fm1.mod m5 (fun j hj => (nC (lG (lL (lL r1.lt (lT m2.size m3.size)) (fm1.ge j (Nat.lt_of_lt_of_eq (Nat.lt_of_lt_of_eq hj lDR) lDR.symm)))) nN))) (by rw [pipeAt_zero])), (OF.congr (fm2.mod m5 (fun j hj => (nC (lG (lL (lL r1.lt (lT m2.size m3.size)) (fm2.ge j (Nat.lt_of_lt_of_eq (Nat.lt_of_lt_of_eq hj lDL) lDL.symm)))) nN))) (by rw [pipeAt_zero])), Mod.refl _ _⟩ ?_
 rintro ⟨i, A, cc, ys⟩ w6 ⟨hi, g1, g2, l1, l2, z1, z2, b0, b1, hly, hwy, hcy, r14, r15, r16, ow1, fm3, fm4, m6⟩
 replace hi : i ≤ l := hi
 replace g1 : GoodD (pipeAt nR nS xS k kc0 kc1 kc2 op lo re sl (PipeSt.mk GR GL ks0 ks1) (fun j => ss.getD j 0) i).R nR := g1
 replace g2 : GoodD (pipeAt nR nS xS k kc0 kc1 kc2 op lo re sl (PipeSt.mk GR GL ks0 ks1) (fun j => ss.getD j 0) i).L nL := g2
 replace l1 : (pipeAt nR nS xS k kc0 kc1 kc2 op lo re sl (PipeSt.mk GR GL ks0 ks1) (fun j => ss.getD j 0) i).R.length = nR := l1
 replace l2 : (pipeAt nR nS xS k kc0 kc1 kc2 op lo re sl (PipeSt.mk GR GL ks0 ks1) (fun j => ss.getD j 0) i).L.length = nL := l2
 replace z1 : ∀ j, ((pipeAt nR nS xS k kc0 kc1 kc2 op lo re sl (PipeSt.mk GR GL ks0 ks1) (fun j => ss.getD j 0) i).R.getD j RD.d).xs.length ≤ 1048576 := z1
 replace z2 : ∀ j, ((pipeAt nR nS xS k kc0 kc1 kc2 op lo re sl (PipeSt.mk GR GL ks0 ks1) (fun j => ss.getD j 0) i).L.getD j RD.d).xs.length ≤ 1048576 := z2
 replace b0 : (pipeAt nR nS xS k kc0 kc1 kc2 op lo re sl (PipeSt.mk GR GL ks0 ks1) (fun j => ss.getD j 0) i).s0 < wid .f32 := b0
 replace b1 : (pipeAt nR nS xS k kc0 kc1 kc2 op lo re sl (PipeSt.mk GR GL ks0 ks1) (fun j => ss.getD j 0) i).s1 < wid .f32 := b1
 replace hly : ys.length = i := hly
 replace hwy : W32 ys := hwy
 replace hcy : Cn ys (outs (pipeOut nR nS xS k kc0 kc1 kc2 op lo re sl (PipeSt.mk GR GL ks0 ks1) (fun j => ss.getD j 0)) i) := hcy
 replace r14 : Row w6 w.heap.size 0 [vS bR'1 0 nR cR'1, vS bL'1 0 nL cL'1, vS bS'1 0 nS cS'1, vI k, vF kc0, vF kc1, vF kc2, vF ((pipeAt nR nS xS k kc0 kc1 kc2 op lo re sl (PipeSt.mk GR GL ks0 ks1) (fun j => ss.getD j 0) i).s0), vF ((pipeAt nR nS xS k kc0 kc1 kc2 op lo re sl (PipeSt.mk GR GL ks0 ks1) (fun j => ss.getD j 0) i).s1), .bool op, vF lo, vF re, vF sl] := r14
 replace r15 : Row w6 bR'1 0 (olc ((pipeAt nR nS xS k kc0 kc1 kc2 op lo re sl (PipeSt.mk GR GL ks0 ks1) (fun j => ss.getD j 0) i).R) PR'1) := r15
 replace r16 : Row w6 bL'1 0 (olc ((pipeAt nR nS xS k kc0 kc1 kc2 op lo re sl (PipeSt.mk GR GL ks0 ks1) (fun j => ss.getD j 0) i).L) PL'1) := r16
 replace ow1 : Own 27 1 w5.heap.size w6 A i cc (fl ys) := ow1
 replace fm3 : OF w3.heap.size w6 ((pipeAt nR nS xS k kc0 kc1 kc2 op lo re sl (PipeSt.mk GR GL ks0 ks1) (fun j => ss.getD j 0) i).R) PR'1 := fm3
 replace fm4 : OF w3.heap.size w6 ((pipeAt nR nS xS k kc0 kc1 kc2 op lo re sl (PipeSt.mk GR GL ks0 ks1) (fun j => ss.getD j 0) i).L) PL'1 := fm4
 show CE _ _ _ _ [(24, vI ((i : Nat) : Int)), (7, .slice A i cc), (2, vP w.heap.size 0), (4, vP w1.heap.size 0), (5, .slice none 0 0), (6, vI 0), (22, .slice Al l cl), (23, vI ((l : Nat) : Int))] _
 refine CE.seq (CE.region ?_)
 refine WL.det (op_lti rfl rfl) rfl rfl rfl ?_
 refine WL.end (NE.code (CE.seq ?_))
 rcases Bool.eq_false_or_eq_true (decide (((i : Nat) : Int) < ((l : Nat) : Int))) with hb1 | hb1
 ·have hp1 := of_decide_eq_true hb1
  refine CE.cond_t rfl hb1 ?_
  refine CE.skip' (NE.code (CE.seq (CE.block (CE.seq (CE.region ?_)))))
  refine WL.det (op_indexSl (off' := ol + i) rfl (hAl (by omega)) rfl Try.runUnderlying26 Try.sizeOf27 (by omega) (by omega) (by omega)) rfl rfl rfl ?_
  have sz1 := (lT (lT m1.size m2.size) m3.size)
  have r17 := (Rng.youngS rl (Rng.youngS rl ((((rl.ext m1).ext m2).ext m3).ext m4) m5 (allge_cons lR allge_nil)) m6 (allge_cons lR (allge_cons (lT sz1 ge1) (allge_cons (lT sz1 ge2) (gA h1 (fun j hj => (lT sz1 (fm3.ge j (Nat.lt_of_lt_of_eq hj l1.symm)))) (gA h2 (fun j hj => (lT sz1 (fm4.ge j (Nat.lt_of_lt_of_eq hj l2.symm)))) allge_nil))))))
  refine WL.det (op_load1 (i := i) rfl Try.isAgg27 r17 rfl (fl_get (by have eL : List.length ss = l := ls; omega))) rfl rfl rfl ?_
  refine WL.det (op_assign rfl) rfl rfl rfl ?_
  refine WL.end (NE.code (CE.region ?_))
  iterate 2 refine WL.det (op_move rfl) rfl rfl rfl ?_
  have r18 := ((r8.mod m5 (nC (lG (lL (lL r1.lt (lT m2.size m3.size)) ge3)) nN)).mod m6 (nC (lG (lL (lL r1.lt (lT m2.size m3.size)) ge3)) (nC (Ne.symm ne2) (nC (Ne.symm ne3) (nA h1 (fun j hj => (fn3 j hj)) (nA h2 (fun j hj => (fn7 j hj)) nN))))))
  refine WL.call (oc_call (vs := [vP w.heap.size 0, vF (ss.getD i 0)]) (cap := []) rfl rfl rfl Try.call69 (c_pipeStep nR ((pipeAt nR nS xS k kc0 kc1 kc2 op lo re sl (PipeSt.mk GR GL ks0 ks1) (fun j => ss.getD j 0) i).R) nL ((pipeAt nR nS xS k kc0 kc1 kc2 op lo re sl (PipeSt.mk GR GL ks0 ks1) (fun j => ss.getD j 0) i).L) nS xS cR'1 bR'1 PR'1 w3.heap.size cL'1 bL'1 PL'1 w3.heap.size cS'1 bS'1 k kc0 kc1 kc2 ((pipeAt nR nS xS k kc0 kc1 kc2 op lo re sl (PipeSt.mk GR GL ks0 ks1) (fun j => ss.getD j 0) i).s0) ((pipeAt nR nS xS k kc0 kc1 kc2 op lo re sl (PipeSt.mk GR GL ks0 ks1) (fun j => ss.getD j 0) i).s1) op lo re sl w.heap.size (ss.getD i 0) (ss.getD i 0) l1 l2 lnS (by first | assumption | exact rd_small (by assumption) (by assumption) | exact markD_small (by first | assumption | exact rd_small (by assumption) (by assumption)) _) (by first | assumption | exact rd_small (by assumption) (by assumption) | exact markD_small (by first | assumption | exact rd_small (by assumption) (by assumption)) _) h1 h2 (by first | assumption | omega) (by first | assumption | omega) (by first | assumption | omega) (by first | assumption | omega) (by assumption) (by assumption) b0 b1 rfl (wl.get _) w6 r14 r15 r16 r18.rng (lE (lL (lL r1.lt (lT m2.size m3.size)) ge1)) (lE (lL (lL r1.lt (lT m2.size m3.size)) ge2)) (lE (lL (lL r1.lt (lT m2.size m3.size)) ge3)) ne1 ne2 ne3 fm3 (fun j hj => (lG (lL (lL r1.lt (lT m2.size m3.size)) (fm3.ge j (Nat.lt_of_lt_of_eq hj l1.symm))))) (fun j hj => (fn1 j hj)) (fun j hj => (fn2 j hj)) (fun j hj => (fn3 j hj)) (fun j q hj hq => (fn4 j q hj hq)) fm4 (fun j hj => (lG (lL (lL r1.lt (lT m2.size m3.size)) (fm4.ge j (Nat.lt_of_lt_of_eq hj l2.symm))))) (fun j hj => (fn5 j hj)) (fun j hj => (fn6 j hj)) (fun j hj => (fn7 j hj)))) rfl rfl (ltb rfl) ?_
  rintro _ w7 ⟨y1, rfl, h3, h4, h5, h6, h7, h8, r19, r20, r21, fm5, fm6, m7⟩
  refine WL.op (op_buildSl (qs := [(0, vF y1)]) (cells := #[vF y1]) rfl Try.runUnderlying26 Try.sizeOf27 Try.zeroValue27 (by decide) (by decide) (by kernel_rfl)) rfl rfl (ltb rfl) ?_
  rintro _ w8 ⟨rfl, r22, m8, z4⟩
  have sz2 := (lT (lT (lT m2.size m3.size) m4.size) m5.size)
  have sz3 := (lT (lT m6.size m7.size) m8.size)
  refine WL.op (op_app (i := Try.t27) (m := 1) (bt := 4) (news := [vF y1]) rfl rfl Try.underlying26 rfl rfl rfl rfl rfl (by decide) r22.rng rfl rfl ((ow1.mod m7 (altC (lL r1.lt sz2) (altC (lL r6.lt m5.size) (altC (lL r7.lt m5.size) (tA h1 (fun j hj => lL (OF.lt fm1 (Nat.lt_of_lt_of_eq hj lDR.symm)) m5.size) (tA h2 (fun j hj => lL (OF.lt fm2 (Nat.lt_of_lt_of_eq hj lDL.symm)) m5.size) altN)))))).ext m8) sz3 (by omega) (by decide)) rfl rfl (ltb rfl) ?_
  rintro _ w9 ⟨A1, c1, b1, rfl, ow2, ge4, m9⟩
  refine WL.det (op_assign rfl) rfl rfl rfl ?_
  refine WL.end (NE.blk (NE.code (CE.region ?_)))
  refine WL.det (op_add (r := ((i + 1 : Nat) : Int)) rfl rfl (w_i64 (by omega) (by omega))) rfl rfl rfl ?_
  refine WL.det (op_move rfl) rfl rfl rfl ?_
  refine WL.end ?_
  have r23 := ((r20.ext m8).mod m9 (nC (lE (lL (lL r6.lt m5.size) ge4)) nN))
  have r24 := ((r21.ext m8).mod m9 (nC (lE (lL (lL r7.lt m5.size) ge4)) nN))
  exact NE.again ((i + 1), A1, c1, (ys ++ [y1])) (⟨rfl, rfl, rfl, rfl, rfl, rfl, rfl, rfl, trivial⟩) ⟨(by omega), (by rw [pipeAt_succ]; assumption), (by rw [pipeAt_succ]; assumption), (by rw [pipeAt_succ]; exact stR_len l1 _), (by rw [pipeAt_succ]; exact endL_len l2), (by exact fun j => Nat.le_trans (Nat.le_of_eq (pipeAt_lens j _).1) (hzR j)), (by exact fun j => Nat.le_trans (Nat.le_of_eq (pipeAt_lens j _).2) (hzL j)), (by rw [pipeAt_succ]; assumption), (by rw [pipeAt_succ]; assumption), (by simp [hly]), (by exact W32.snoc hwy (by assumption)), (by exact Cn.snoc hcy (by assumption)), (Row.congr ((r19.ext m8).mod m9 (nC (lE (lL (lL r1.lt sz2) ge4)) nN)) (by rw [pipeAt_succ]; rfl)), (Row.congr r23 (by rw [pipeAt_succ]; rfl)), (Row.congr r24 (by rw [pipeAt_succ]; rfl)), (Own.congr ow2 (fl_snoc _ _)), (OF.congr ((fm5.ext m8).mod m9 (fun j hj => (nC (lE (lL (OF.lt fm1 (Nat.lt_of_lt_of_eq (Nat.lt_of_lt_of_eq hj (stR_len l1 _)) lDR.symm)) (lT m5.size ge4))) nN))) (by rw [pipeAt_succ]; rfl)), (OF.congr ((fm6.ext m8).mod m9 (fun j hj => (nC (lE (lL (OF.lt fm2 (Nat.lt_of_lt_of_eq (Nat.lt_of_lt_of_eq hj (endL_len l2)) lDL.symm)) (lT m5.size ge4))) nN))) (by rw [pipeAt_succ]; rfl)), (((m6.then m7 ((aC (.inl (by simp)) (aC (.inl (by simp)) (aC (.inl (by simp)) (aI (fun x hx => by simp only [List.mem_cons, List.mem_append, hx, true_or, or_true]) (aI (fun x hx => by simp only [List.mem_cons, List.mem_append, hx, true_or, or_true]) aN))))))).nt m8).then m9 ((aC (.inr ge4) aN)))⟩ (by first | (dsimp only; omega) | omega)
 ·have hp1 := of_decide_eq_false hb1
  refine CE.cond_f rfl hb1 ?_
  refine CE.exit' (XE.exit_then (XE.exit_then (XE.exit_here (NE.code (CE.seq (CE.region ?_))))))
  refine WL.det (op_loadA (i := 0) (cs := [vS bR'1 0 nR cR'1, vS bL'1 0 nL cL'1, vS bS'1 0 nS cS'1, vI k, vF kc0, vF kc1, vF kc2, vF ((pipeAt nR nS xS k kc0 kc1 kc2 op lo re sl (PipeSt.mk GR GL ks0 ks1) (fun j => ss.getD j 0) i).s0), vF ((pipeAt nR nS xS k kc0 kc1 kc2 op lo re sl (PipeSt.mk GR GL ks0 ks1) (fun j => ss.getD j 0) i).s1), .bool op, vF lo, vF re, vF sl]) rfl Try.isAgg33 Try.sizeOf33 r14.rng rfl rfl rfl) rfl rfl rfl ?_
  refine WL.det (op_move rfl) rfl rfl rfl ?_
  have r25 := ((((r2.ext m3).ext m4).mod m5 (nC (lG (lL r1.lt lR)) nN)).mod m6 (nC (lG (lL r1.lt lR)) (nC (lE (lL (lL r2.lt m3.size) ge1)) (nC (lE (lL (lL r2.lt m3.size) ge2)) (nA h1 (fun j hj => (lG (lL (lL r2.lt m3.size) (fm3.ge j (Nat.lt_of_lt_of_eq hj l1.symm))))) (nA h2 (fun j hj => (lG (lL (lL r2.lt m3.size) (fm4.ge j (Nat.lt_of_lt_of_eq hj l2.symm))))) nN))))))
  refine WL.op0 (op_store (i := 0) (cs := [vS bR'1 0 nR cR'1, vS bL'1 0 nL cL'1, vS bS'1 0 nS cS'1, vI k, vF kc0, vF kc1, vF kc2, vF ((pipeAt nR nS xS k kc0 kc1 kc2 op lo re sl (PipeSt.mk GR GL ks0 ks1) (fun j => ss.getD j 0) i).s0), vF ((pipeAt nR nS xS k kc0 kc1 kc2 op lo re sl (PipeSt.mk GR GL ks0 ks1) (fun j => ss.getD j 0) i).s1), .bool op, vF lo, vF re, vF sl]) rfl rfl rfl Try.sizeOf33 rfl r25 rfl (lB rfl) rfl) rfl rfl ?_
  rintro _ w10 ⟨r26, m10, z5⟩
  have r27 : Row w10 w1.heap.size 0 [vS bR'1 0 nR cR'1, vS bL'1 0 nL cL'1, vS bS'1 0 nS cS'1, vI k, vF kc0, vF kc1, vF kc2, vF ((pipeAt nR nS xS k kc0 kc1 kc2 op lo re sl (PipeSt.mk GR GL ks0 ks1) (fun j => ss.getD j 0) i).s0), vF ((pipeAt nR nS xS k kc0 kc1 kc2 op lo re sl (PipeSt.mk GR GL ks0 ks1) (fun j => ss.getD j 0) i).s1), .bool op, vF lo, vF re, vF sl] := Row.congr r26 rfl
  iterate 2 refine WL.det (op_assign rfl) rfl rfl rfl ?_
  refine WL.end (NE.code (CE.ret' ?_))
  have ei : l = i := by omega
  subst ei
  have sz4 := (lT (lT m3.size m4.size) m5.size)
  obtain ⟨b2, hA1, r28, hq1⟩ := Own.out (ow1.mod m10 (altC (lL r2.lt sz4) altN)) (r14.mod m10 (nC (lE (lL r1.lt lR)) nN))
  have sz5 := (lT (lT (lT (lT m1.size m2.size) m3.size) m4.size) m5.size)
  have fq1 : ∀ j, j < nR → (PR.getD j BC.d).b ≠ b2 := (fun j hj => own_ne hq1 (lE (lL (OF.lt FR (Nat.lt_of_lt_of_eq hj lDR.symm)) lR)) (lL (OF.lt FR (Nat.lt_of_lt_of_eq hj lDR.symm)) sz5))
  have fq2 : ∀ j, j < nL → (PL.getD j BC.d).b ≠ b2 := (fun j hj => own_ne hq1 (lE (lL (OF.lt FL (Nat.lt_of_lt_of_eq hj lDL.symm)) lR)) (lL (OF.lt FL (Nat.lt_of_lt_of_eq hj lDL.symm)) sz5))
  have fq3 : ∀ j, j < nR → (PR'1.getD j BC.d).b ≠ b2 := (fun j hj => own_ne hq1 (lG (lL (lL r1.lt (lT m2.size m3.size)) (fm3.ge j (Nat.lt_of_lt_of_eq hj l1.symm)))) (lL (OF.lt fm1 (Nat.lt_of_lt_of_eq hj lDR.symm)) m5.size))
  have fq4 : ∀ j, j < nL → (PL'1.getD j BC.d).b ≠ b2 := (fun j hj => own_ne hq1 (lG (lL (lL r1.lt (lT m2.size m3.size)) (fm4.ge j (Nat.lt_of_lt_of_eq hj l2.symm)))) (lL (OF.lt fm2 (Nat.lt_of_lt_of_eq hj lDL.symm)) m5.size))
  refine XE.leaveT Try.results21 (res_agg (cs := [vS bR'1 0 nR cR'1, vS bL'1 0 nL cL'1, vS bS'1 0 nS cS'1, vI k, vF kc0, vF kc1, vF kc2, vF ((pipeAt nR nS xS k kc0 kc1 kc2 op lo re sl (PipeSt.mk GR GL ks0 ks1) (fun j => ss.getD j 0) l).s0), vF ((pipeAt nR nS xS k kc0 kc1 kc2 op lo re sl (PipeSt.mk GR GL ks0 ks1) (fun j => ss.getD j 0) l).s1), .bool op, vF lo, vF re, vF sl]) rfl Try.isAgg33 Try.sizeOf33 r27.rng rfl (res_tmp rfl (res_tmp rfl res_nil))) ?_
  have r29 := (((r8.mod m5 (nC (lG (lL (lL r1.lt (lT m2.size m3.size)) ge3)) nN)).mod m6 (nC (lG (lL (lL r1.lt (lT m2.size m3.size)) ge3)) (nC (Ne.symm ne2) (nC (Ne.symm ne3) (nA h1 (fun j hj => (fn3 j hj)) (nA h2 (fun j hj => (fn7 j hj)) nN)))))).mod m10 (nC (lG (lL (lL r2.lt m3.size) ge3)) nN))
  have sz6 := (lT (lT m1.size m2.size) m3.size)
  refine ⟨bR'1, cR'1, PR'1, bL'1, cL'1, PL'1, bS'1, cS'1, b2, cc, A, ys, ?_, h1, h2, hA1, ?_, ?_, ?_, (Row.congr (r15.mod m10 (nC (lG (lL (lL r2.lt m3.size) ge1)) nN)) ?_), (Row.congr (r16.mod m10 (nC (lG (lL (lL r2.lt m3.size) ge2)) nN)) ?_), r29, r28, (lT sz6 ge1), (lT sz6 ge2), (lT sz6 ge3), (own_ge hq1 lR sz5), ne1, ne2, ne3, (own_ne hq1 (lG (lL (lL r1.lt (lT m2.size m3.size)) ge1)) (lL r6.lt m5.size)), (own_ne hq1 (lG (lL (lL r1.lt (lT m2.size m3.size)) ge2)) (lL r7.lt m5.size)), (own_ne hq1 (lG (lL (lL r1.lt (lT m2.size m3.size)) ge3)) (lL r8.lt m5.size)), (OF.congr (OF.low (fm3.mod m10 (fun j hj => (nC (lG (lL (lL r2.lt m3.size) (fm3.ge j (Nat.lt_of_lt_of_eq (Nat.lt_of_lt_of_eq hj l1) l1.symm)))) nN))) sz6) (by rw [hze])), (fun j hj => (fn1 j (show j < nR by omega))), (fun j hj => (fn2 j (show j < nR by omega))), (fun j hj => (fn3 j (show j < nR by omega))), (fun j q hj hq => (fn4 j q (show j < nR by omega) (show q < nL by omega))), (fun j hj => (fq3 j (show j < nR by omega))), (OF.congr (OF.low (fm4.mod m10 (fun j hj => (nC (lG (lL (lL r2.lt m3.size) (fm4.ge j (Nat.lt_of_lt_of_eq (Nat.lt_of_lt_of_eq hj l2) l2.symm)))) nN))) sz6) (by rw [hze])), (fun j hj => (fn5 j (show j < nL by omega))), (fun j hj => (fn6 j (show j < nL by omega))), (fun j hj => (fn7 j (show j < nL by omega))), (fun j hj => (fq4 j (show j < nL by omega))), ((((((((Mod.refl [] w).nt m1).nt m2).nt m3).nt m4).then m5 ((aC (.inr lR) aN))).then m6 ((aC (.inr lR) (aC (.inr (lT sz6 ge1)) (aC (.inr (lT sz6 ge2)) (aA h1 (fun j hj => (lT sz6 (fm3.ge j (Nat.lt_of_lt_of_eq hj l1.symm)))) (aA h2 (fun j hj => (lT sz6 (fm4.ge j (Nat.lt_of_lt_of_eq hj l2.symm)))) aN))))))).then m10 ((aC (.inr (lT m1.size lR)) aN)))⟩
  all_goals subst hze
  all_goals subst hoe
  all_goals first | assumption | rfl

theorem c_iPlayP0 (nR : Nat) (GR : List RD) (nL : Nat) (GL : List RD) (xS : List Nat) (cR : Nat) (bR : Nat) (PR : List BC) (loR : Nat) (cL : Nat) (bL : Nat) (PL : List BC) (loL : Nat) (cS : Nat) (bS : Nat) (k : Int) (kc0 : Nat) (kc1 : Nat) (kc2 : Nat) (ks0 : Nat) (ks1 : Nat) (op : Bool) (lo : Nat) (re : Nat) (sl : Nat) (l : Nat) (cl : Nat) (Al : Option Addr) (bl : Nat) (ol : Nat) (ss : List Nat) (z : PipeSt) (ou : List Nat) (lDR : GR.length = nR) (lDL : GL.length = nL) (lnS : xS.length = 0) (hzR : ∀ i, (GR.getD i RD.d).xs.length ≤ 1048576) (hzL : ∀ i, (GL.getD i RD.d).xs.length ≤ 1048576) (lPR : PR.length = nR) (lPL : PL.length = nL) (mR : nR ≤ 1048576) (mL : nL ≤ 1048576) (h0n : 0 < nR) (h0m : 0 < nL) (hpR : ∀ i, i < nR → 0 < (GR.getD i RD.d).xs.length) (hpL : ∀ i, i < nL → 0 < (GL.getD i RD.d).xs.length) (hs : 1 ≤ nR ∧ nR ≤ 3 ∧ nL = nR ∧ 0 + 1 = nR) (gR : GoodD GR nR) (gL : GoodD GL nL) (lks0 : ks0 < wid .f32) (lks1 : ks1 < wid .f32) (ls : ss.length = l) (hAl : 0 < l → Al = some ⟨bl, ol, none⟩) (wl : W32 ss) (hll : l ≤ 4096) (hv : vPipe nR nL 0 GR GL xS k kc0 kc1 kc2 ks0 ks1 lo re sl = true) (hze : z = (pipeAt nR 0 xS k kc0 kc1 kc2 op lo re sl (PipeSt.mk GR GL ks0 ks1) (fun j => ss.getD j 0) l)) (hoe : ou = (outs (pipeOut nR 0 xS k kc0 kc1 kc2 op lo re sl (PipeSt.mk GR GL ks0 ks1) (fun j => ss.getD j 0)) l)) (lZR : z.R.length = nR) (lZL : z.L.length = nL) (w : World) (rR : Rng w bR 0 (olc GR PR)) (rL : Rng w bL 0 (olc GL PL)) (rS : Rng w bS 0 (fl xS)) (rl : Rng w bl ol (fl ss))  (FR : OF loR w GR PR) (FL : OF loL w GL PL) : Cl Try.prog 21 #[.agg #[vS bR 0 nR cR, vS bL 0 nL cL, vS bS 0 0 cS, vI k, vF kc0, vF kc1, vF kc2, vF ks0, vF ks1, .bool op, vF lo, vF re, vF sl], .slice Al l cl] w fun v w' => ∃ (bR' : Nat) (cR' : Nat) (PR' : List BC) (bL' : Nat) (cL' : Nat) (PL' : List BC) (bS' : Nat) (cS' : Nat) (e' : Nat) (c3' : Nat) (A' : Option Addr) (ys : List Nat), v = .tuple #[.agg #[vS bR' 0 nR cR', vS bL' 0 nL cL', vS bS' 0 0 cS', vI k, vF kc0, vF kc1, vF kc2, vF z.s0, vF z.s1, .bool op, vF lo, vF re, vF sl], .slice A' l c3', vI 0] ∧ (PR'.length = nR) ∧ (PL'.length = nL) ∧ (0 < l → A' = some ⟨e', 0, none⟩) ∧ (ys.length = l) ∧ (W32 ys) ∧ (Cn ys ou) ∧ Row w' bR' 0 (olc z.R PR') ∧ Row w' bL' 0 (olc z.L PL') ∧ Row w' bS' 0 (fl xS) ∧ Row w' e' 0 (fl ys) ∧ w.heap.size ≤ bR' ∧ w.heap.size ≤ bL' ∧ w.heap.size ≤ bS' ∧ w.heap.size ≤ e' ∧ bR' ≠ bL' ∧ bR' ≠ bS' ∧ bL' ≠ bS' ∧ bR' ≠ e' ∧ bL' ≠ e' ∧ bS' ≠ e' ∧ OF w.heap.size w' z.R PR' ∧ (∀ i, i < nR → (PR'.getD i BC.d).b ≠ bR') ∧ (∀ i, i < nR → (PR'.getD i BC.d).b ≠ bL') ∧ (∀ i, i < nR → (PR'.getD i BC.d).b ≠ bS') ∧ (∀ i j, i < nR → j < nL → (PR'.getD i BC.d).b ≠ (PL'.getD j BC.d).b) ∧ (∀ i, i < nR → (PR'.getD i BC.d).b ≠ e') ∧ OF w.heap.size w' z.L PL' ∧ (∀ i, i < nL → (PL'.getD i BC.d).b ≠ bR') ∧ (∀ i, i < nL → (PL'.getD i BC.d).b ≠ bL') ∧ (∀ i, i < nL → (PL'.getD i BC.d).b ≠ bS') ∧ (∀ i, i < nL → (PL'.getD i BC.d).b ≠ e') ∧ Mod [] w w' := by
 refine Cl.of Try.func21 Try.ntmps21 rfl rfl (ρ := [(0, .agg #[vS bR 0 nR cR, vS bL 0 nL cL, vS bS 0 0 cS, vI k, vF kc0, vF kc1, vF kc2, vF ks0, vF ks1, .bool op, vF lo, vF re, vF sl]), (1, .slice Al l cl)]) rfl ?_
 refine CE.seq (CE.region ?_)
 refine WL.op (op_box (cs := [vS bR 0 nR cR, vS bL 0 nL cL, vS bS 0 0 cS, vI k, vF kc0, vF kc1, vF kc2, vF ks0, vF ks1, .bool op, vF lo, vF re, vF sl]) rfl rfl) rfl rfl (ltb rfl) ?_
 rintro _ w1 ⟨rfl, r1, m1, z1⟩
 refine WL.op (op_alloc (cs := [.slice none 0 0, .slice none 0 0, .slice none 0 0, vI 0, vF 0, vF 0, vF 0, vF 0, vF 0, .bool false, vF 0, vF 0, vF 0]) Try.zeroValue33 rfl) rfl rfl (ltb rfl) ?_
 rintro _ w2 ⟨rfl, r2, m2, z2⟩
 iterate 2 refine WL.det (op_assign rfl) rfl rfl rfl ?_
 refine WL.end (NE.code (CE.seq (CE.block (CE.seq (CE.region ?_)))))
 refine WL.det (op_loadA (i := 0) (cs := [vS bR 0 nR cR, vS bL 0 nL cL, vS bS 0 0 cS, vI k, vF kc0, vF kc1, vF kc2, vF ks0, vF ks1, .bool op, vF lo, vF re, vF sl]) rfl Try.isAgg33 Try.sizeOf33 (r1.ext m2).rng rfl rfl rfl) rfl rfl rfl ?_
 refine WL.call (oc_call (vs := [.agg #[vS bR 0 nR cR, vS bL 0 nL cL, vS bS 0 0 cS, vI k, vF kc0, vF kc1, vF kc2, vF ks0, vF ks1, .bool op, vF lo, vF re, vF sl]]) (cap := []) rfl rfl rfl Try.call44 (c_ValidPipeS nR GR nL GL 0 xS cR bR PR loR cL bL PL loL cS bS k kc0 kc1 kc2 ks0 ks1 op lo re sl lDR lDL lnS (by first | assumption | exact rd_small (by assumption) (by assumption) | exact markD_small (by first | assumption | exact rd_small (by assumption) (by assumption)) _) (by first | assumption | exact rd_small (by assumption) (by assumption) | exact markD_small (by first | assumption | exact rd_small (by assumption) (by assumption)) _) lPR lPL (by first | assumption | omega) (by first | assumption | omega) (by first | assumption | omega) (by omega) w2 ((rR.ext m1).ext m2) ((rL.ext m1).ext m2) ((rS.ext m1).ext m2) ((FR.ext m1).ext m2) ((FL.ext m1).ext m2))) rfl rfl (ltb rfl) ?_
 rintro _ w3 ⟨rfl, m3⟩
 refine WL.det (op_not rfl) rfl rfl rfl ?_
 refine WL.det (op_assign rfl) rfl rfl rfl ?_
 refine WL.end (NE.code ?_)
 refine CE.cond_f rfl (bnot_t hv) ?_
 refine CE.seq (CE.region ?_)
 refine WL.det (op_move rfl) rfl rfl rfl ?_
 refine WL.det (op_len rfl Try.runUnderlying26) rfl rfl rfl ?_
 refine WL.det (op_gti rfl rfl) rfl rfl rfl ?_
 refine WL.det (op_assign rfl) rfl rfl rfl ?_
 refine WL.end (NE.code ?_)
 refine CE.cond_f rfl (decide_eq_false (by omega)) ?_
 refine CE.skip' (NE.blk (NE.code (CE.seq (CE.region ?_))))
 refine WL.det (op_loadA (i := 0) (cs := [vS bR 0 nR cR, vS bL 0 nL cL, vS bS 0 0 cS, vI k, vF kc0, vF kc1, vF kc2, vF ks0, vF ks1, .bool op, vF lo, vF re, vF sl]) rfl Try.isAgg33 Try.sizeOf33 ((r1.ext m2).ext m3).rng rfl rfl rfl) rfl rfl rfl ?_
 have r3 := (((rR.ext m1).ext m2).ext m3)
 have r4 := (((rL.ext m1).ext m2).ext m3)
 have r5 := (((rS.ext m1).ext m2).ext m3)
 refine WL.call (oc_call (vs := [.agg #[vS bR 0 nR cR, vS bL 0 nL cL, vS bS 0 0 cS, vI k, vF kc0, vF kc1, vF kc2, vF ks0, vF ks1, .bool op, vF lo, vF re, vF sl]]) (cap := []) rfl rfl rfl Try.call63 (c_clonePipeS0 nR GR nL GL xS cR bR PR loR cL bL PL loL cS bS k kc0 kc1 kc2 ks0 ks1 op lo re sl lDR lDL lnS (by first | assumption | exact rd_small (by assumption) (by assumption) | exact markD_small (by first | assumption | exact rd_small (by assumption) (by assumption)) _) (by first | assumption | exact rd_small (by assumption) (by assumption) | exact markD_small (by first | assumption | exact rd_small (by assumption) (by assumption)) _) lPR lPL (by first | assumption | omega) (by first | assumption | omega) (by omega) (by omega) (by first | assumption | exact vRings_pos (by assumption)) (by first | assumption | exact vRings_pos (by assumption)) w3 r3 r4 r5 (((FR.ext m1).ext m2).ext m3) (((FL.ext m1).ext m2).ext m3))) rfl rfl (ltb rfl) ?_
 rintro _ w4 ⟨bR'1, cR'1, PR'1, bL'1, cL'1, PL'1, bS'1, cS'1, rfl, h1, h2, r6, r7, r8, ge1, ge2, ge3, ne1, ne2, ne3, fm1, fn1, fn2, fn3, fn4, fm2, fn5, fn6, fn7, m4⟩
 have r9 := (((r1.ext m2).ext m3).ext m4)
 refine WL.op0 (op_store (i := 0) (cs := [vS bR'1 0 nR cR'1, vS bL'1 0 nL cL'1, vS bS'1 0 0 cS'1, vI k, vF kc0, vF kc1, vF kc2, vF ks0, vF ks1, .bool op, vF lo, vF re, vF sl]) rfl rfl rfl Try.sizeOf33 rfl r9 rfl (lB rfl) rfl) rfl rfl ?_
 rintro _ w5 ⟨r10, m5, z3⟩
 have r11 : Row w5 w.heap.size 0 [vS bR'1 0 nR cR'1, vS bL'1 0 nL cL'1, vS bS'1 0 0 cS'1, vI k, vF kc0, vF kc1, vF kc2, vF ks0, vF ks1, .bool op, vF lo, vF re, vF sl] := Row.congr r10 rfl
 refine WL.end (NE.code (CE.seq (CE.region ?_)))
 refine WL.det (op_assign rfl) rfl rfl rfl ?_
 refine WL.end (NE.code (CE.seq (CE.seq (CE.region ?_))))
 refine WL.det (op_move rfl) rfl rfl rfl ?_
 refine WL.det (op_len rfl Try.runUnderlying26) rfl rfl rfl ?_
 refine WL.det (op_move rfl) rfl rfl rfl ?_
 refine WL.end (NE.code (CE.block ?_))
 have r12 := (r6.mod m5 (nC (lG (lL (lL r1.lt (lT m2.size m3.size)) ge1)) nN))
 have r13 := (r7.mod m5 (nC (lG (lL (lL r1.lt (lT m2.size m3.size)) ge2)) nN))
 refine CE.loop (fun (z : Nat × Option Addr × Nat × List Nat) => [(24, vI ((z.1 : Nat) : Int)), (7, .slice z.2.1 z.1 z.2.2.1), (2, vP w.heap.size 0), (4, vP w1.heap.size 0), (5, .slice none 0 0), (6, vI 0), (22, .slice Al l cl), (23, vI ((l : Nat) : Int))]) (fun (z : Nat × Option Addr × Nat × List Nat) => fun W => (z.1 ≤ l) ∧ (GoodD (pipeAt nR 0 xS k kc0 kc1 kc2 op lo re sl (PipeSt.mk GR GL ks0 ks1) (fun j => ss.getD j 0) z.1).R nR) ∧ (GoodD (pipeAt nR 0 xS k kc0 kc1 kc2 op lo re sl (PipeSt.mk GR GL ks0 ks1) (fun j => ss.getD j 0) z.1).L nL) ∧ ((pipeAt nR 0 xS k kc0 kc1 kc2 op lo re sl (PipeSt.mk GR GL ks0 ks1) (fun j => ss.getD j 0) z.1).R.length = nR) ∧ ((pipeAt nR 0 xS k kc0 kc1 kc2 op lo re sl (PipeSt.mk GR GL ks0 ks1) (fun j => ss.getD j 0) z.1).L.length = nL) ∧ (∀ j, ((pipeAt nR 0 xS k kc0 kc1 kc2 op lo re sl (PipeSt.mk GR GL ks0 ks1) (fun j => ss.getD j 0) z.1).R.getD j RD.d).xs.length ≤ 1048576) ∧ (∀ j, ((pipeAt nR 0 xS k kc0 kc1 kc2 op lo re sl (PipeSt.mk GR GL ks0 ks1) (fun j => ss.getD j 0) z.1).L.getD j RD.d).xs.length ≤ 1048576) ∧ ((pipeAt nR 0 xS k kc0 kc1 kc2 op lo re sl (PipeSt.mk GR GL ks0 ks1) (fun j => ss.getD j 0) z.1).s0 < wid .f32) ∧ ((pipeAt nR 0 xS k kc0 kc1 kc2 op lo re sl (PipeSt.mk GR GL ks0 ks1) (fun j => ss.getD j 0) z.1).s1 < wid .f32) ∧ (z.2.2.2.length = z.1) ∧ (W32 z.2.2.2) ∧ (Cn z.2.2.2 (outs (pipeOut nR 0 xS k kc0 kc1 kc2 op lo re sl (PipeSt.mk GR GL ks0 ks1) (fun j => ss.getD j 0)) z.1)) ∧ Row W w.heap.size 0 [vS bR'1 0 nR cR'1, vS bL'1 0 nL cL'1, vS bS'1 0 0 cS'1, vI k, vF kc0, vF kc1, vF kc2, vF ((pipeAt nR 0 xS k kc0 kc1 kc2 op lo re sl (PipeSt.mk GR GL ks0 ks1) (fun j => ss.getD j 0) z.1).s0), vF ((pipeAt nR 0 xS k kc0 kc1 kc2 op lo re sl (PipeSt.mk GR GL ks0 ks1) (fun j => ss.getD j 0) z.1).s1), .bool op, vF lo, vF re, vF sl] ∧ Row W bR'1 0 (olc ((pipeAt nR 0 xS k kc0 kc1 kc2 op lo re sl (PipeSt.mk GR GL ks0 ks1) (fun j => ss.getD j 0) z.1).R) PR'1) ∧ Row W bL'1 0 (olc ((pipeAt nR 0 xS k kc0 kc1 kc2 op lo re sl (PipeSt.mk GR GL ks0 ks1) (fun j => ss.getD j 0) z.1).L) PL'1) ∧ Own 27 1 w5.heap.size W z.2.1 z.1 z.2.2.1 (fl z.2.2.2) ∧ OF w3.heap.size W ((pipeAt nR 0 xS k kc0 kc1 kc2 op lo re sl (PipeSt.mk GR GL ks0 ks1) (fun j => ss.getD j 0) z.1).R) PR'1 ∧ OF w3.heap.size W ((pipeAt nR 0 xS k kc0 kc1 kc2 op lo re sl (PipeSt.mk GR GL ks0 ks1) (fun j => ss.getD j 0) z.1).L) PL'1 ∧ Mod (w.heap.size :: bR'1 :: bL'1 :: (PR'1.map BC.b ++ (PL'1.map BC.b ++ []))) w5 W) (fun (z : Nat × Option Addr × Nat × List Nat) => l - z.1) (0, none, 0, []) (⟨rfl, rfl, rfl, rfl, rfl, rfl, rfl, rfl, trivial⟩) ⟨(by omega), (by rw [pipeAt_zero]; exact gR), (by rw [pipeAt_zero]; exact gL), (by rw [pipeAt_zero]; exact lDR), (by rw [pipeAt_zero]; exact lDL), (by exact fun j => Nat.le_trans (Nat.le_of_eq (pipeAt_lens j _).1) (hzR j)), (by exact fun j => Nat.le_trans (Nat.le_of_eq (pipeAt_lens j _).2) (hzL j)), (by rw [pipeAt_zero]; assumption), (by rw [pipeAt_zero]; assumption), (by rfl), (by exact W32.nil), (by exact Cn.refl _), (Row.congr r11 (by rw [pipeAt_zero])), (Row.congr r12 (by rw [pipeAt_zero])), (Row.congr r13 (by rw [pipeAt_zero])), (Own.congr Own.nil (rfl)), (OF.congr (fm1.mod m5 (fun j hj => (nC (lG (lL (lL r1.lt (lT m2.size m3.size)) (fm1.ge j (Nat.lt_of_lt_of_eq (Nat.lt_of_lt_of_eq hj lDR) lDR.symm)))) nN))) (by rw [pipeAt_zero])), (OF.congr (fm2.mod m5 (fun j hj => (nC (lG (lL (lL r1.lt (lT m2.size m3.size)) (fm2.ge j (Nat.lt_of_lt_of_eq (Nat.lt_of_lt_of_eq hj lDL) lDL.symm)))) nN))) (by rw [pipeAt_zero])), Mod.refl _ _⟩ ?_
 rintro ⟨i, A, cc, ys⟩ w6 ⟨hi, g1, g2, l1, l2, z1, z2, b0, b1, hly, hwy, hcy, r14, r15, r16, ow1, fm3, fm4, m6⟩
 replace hi : i ≤ l := hi
 replace g1 : GoodD (pipeAt nR 0 xS k kc0 kc1 kc2 op lo re sl (PipeSt.mk GR GL ks0 ks1) (fun j => ss.getD j 0) i).R nR := g1
 replace g2 : GoodD (pipeAt nR 0 xS k kc0 kc1 kc2 op lo re sl (PipeSt.mk GR GL ks0 ks1) (fun j => ss.getD j 0) i).L nL := g2
 replace l1 : (pipeAt nR 0 xS k kc0 kc1 kc2 op lo re sl (PipeSt.mk GR GL ks0 ks1) (fun j => ss.getD j 0) i).R.length = nR := l1
 replace l2 : (pipeAt nR 0 xS k kc0 kc1 kc2 op lo re sl (PipeSt.mk GR GL ks0 ks1) (fun j => ss.getD j 0) i).L.length = nL := l2
 replace z1 : ∀ j, ((pipeAt nR 0 xS k kc0 kc1 kc2 op lo re sl (PipeSt.mk GR GL ks0 ks1) (fun j => ss.getD j 0) i).R.getD j RD.d).xs.length ≤ 1048576 := z1
 replace z2 : ∀ j, ((pipeAt nR 0 xS k kc0 kc1 kc2 op lo re sl (PipeSt.mk GR GL ks0 ks1) (fun j => ss.getD j 0) i).L.getD j RD.d).xs.length ≤ 1048576 := z2
 replace b0 : (pipeAt nR 0 xS k kc0 kc1 kc2 op lo re sl (PipeSt.mk GR GL ks0 ks1) (fun j => ss.getD j 0) i).s0 < wid .f32 := b0
 replace b1 : (pipeAt nR 0 xS k kc0 kc1 kc2 op lo re sl (PipeSt.mk GR GL ks0 ks1) (fun j => ss.getD j 0) i).s1 < wid .f32 := b1
 replace hly : ys.length = i := hly
 replace hwy : W32 ys := hwy
 replace hcy : Cn ys (outs (pipeOut nR 0 xS k kc0 kc1 kc2 op lo re sl (PipeSt.mk GR GL ks0 ks1) (fun j => ss.getD j 0)) i) := hcy
 replace r14 : Row w6 w.heap.size 0 [vS bR'1 0 nR cR'1, vS bL'1 0 nL cL'1, vS bS'1 0 0 cS'1, vI k, vF kc0, vF kc1, vF kc2, vF ((pipeAt nR 0 xS k kc0 kc1 kc2 op lo re sl (PipeSt.mk GR GL ks0 ks1) (fun j => ss.getD j 0) i).s0), vF ((pipeAt nR 0 xS k kc0 kc1 kc2 op lo re sl (PipeSt.mk GR GL ks0 ks1) (fun j => ss.getD j 0) i).s1), .bool op, vF lo, vF re, vF sl] := r14
 replace r15 : Row w6 bR'1 0 (olc ((pipeAt nR 0 xS k kc0 kc1 kc2 op lo re sl (PipeSt.mk GR GL ks0 ks1) (fun j => ss.getD j 0) i).R) PR'1) := r15
 replace r16 : Row w6 bL'1 0 (olc ((pipeAt nR 0 xS k kc0 kc1 kc2 op lo re sl (PipeSt.mk GR GL ks0 ks1) (fun j => ss.getD j 0) i).L) PL'1) := r16
 replace ow1 : Own 27 1 w5.heap.size w6 A i cc (fl ys) := ow1
 replace fm3 : OF w3.heap.size w6 ((pipeAt nR 0 xS k kc0 kc1 kc2 op lo re sl (PipeSt.mk GR GL ks0 ks1) (fun j => ss.getD j 0) i).R) PR'1 := fm3
 replace fm4 : OF w3.heap.size w6 ((pipeAt nR 0 xS k kc0 kc1 kc2 op lo re sl (PipeSt.mk GR GL ks0 ks1) (fun j => ss.getD j 0) i).L) PL'1 := fm4
 show CE _ _ _ _ [(24, vI ((i : Nat) : Int)), (7, .slice A i cc), (2, vP w.heap.size 0), (4, vP w1.heap.size 0), (5, .slice none 0 0), (6, vI 0), (22, .slice Al l cl), (23, vI ((l : Nat) : Int))] _
 refine CE.seq (CE.region ?_)
 refine WL.det (op_lti rfl rfl) rfl rfl rfl ?_
 refine WL.end (NE.code (CE.seq ?_))
 rcases Bool.eq_false_or_eq_true (decide (((i : Nat) : Int) < ((l : Nat) : Int))) with hb1 | hb1
 ·have hp1 := of_decide_eq_true hb1
  refine CE.cond_t rfl hb1 ?_
  refine CE.skip' (NE.code (CE.seq (CE.block (CE.seq (CE.region ?_)))))
  refine WL.det (op_indexSl (off' := ol + i) rfl (hAl (by omega)) rfl Try.runUnderlying26 Try.sizeOf27 (by omega) (by omega) (by omega)) rfl rfl rfl ?_
  have sz1 := (lT (lT m1.size m2.size) m3.size)
  have r17 := (Rng.youngS rl (Rng.youngS rl ((((rl.ext m1).ext m2).ext m3).ext m4) m5 (allge_cons lR allge_nil)) m6 (allge_cons lR (allge_cons (lT sz1 ge1) (allge_cons (lT sz1 ge2) (gA h1 (fun j hj => (lT sz1 (fm3.ge j (Nat.lt_of_lt_of_eq hj l1.symm)))) (gA h2 (fun j hj => (lT sz1 (fm4.ge j (Nat.lt_of_lt_of_eq hj l2.symm)))) allge_nil))))))
  refine WL.det (op_load1 (i := i) rfl Try.isAgg27 r17 rfl (fl_get (by have eL : List.length ss = l := ls; omega))) rfl rfl rfl ?_
  refine WL.det (op_assign rfl) rfl rfl rfl ?_
  refine WL.end (NE.code (CE.region ?_))
  iterate 2 refine WL.det (op_move rfl) rfl rfl rfl ?_
  have r18 := ((r8.mod m5 (nC (lG (lL (lL r1.lt (lT m2.size m3.size)) ge3)) nN)).mod m6 (nC (lG (lL (lL r1.lt (lT m2.size m3.size)) ge3)) (nC (Ne.symm ne2) (nC (Ne.symm ne3) (nA h1 (fun j hj => (fn3 j hj)) (nA h2 (fun j hj => (fn7 j hj)) nN))))))
  refine WL.call (oc_call (vs := [vP w.heap.size 0, vF (ss.getD i 0)]) (cap := []) rfl rfl rfl Try.call69 (c_pipeStep nR ((pipeAt nR 0 xS k kc0 kc1 kc2 op lo re sl (PipeSt.mk GR GL ks0 ks1) (fun j => ss.getD j 0) i).R) nL ((pipeAt nR 0 xS k kc0 kc1 kc2 op lo re sl (PipeSt.mk GR GL ks0 ks1) (fun j => ss.getD j 0) i).L) 0 xS cR'1 bR'1 PR'1 w3.heap.size cL'1 bL'1 PL'1 w3.heap.size cS'1 bS'1 k kc0 kc1 kc2 ((pipeAt nR 0 xS k kc0 kc1 kc2 op lo re sl (PipeSt.mk GR GL ks0 ks1) (fun j => ss.getD j 0) i).s0) ((pipeAt nR 0 xS k kc0 kc1 kc2 op lo re sl (PipeSt.mk GR GL ks0 ks1) (fun j => ss.getD j 0) i).s1) op lo re sl w.heap.size (ss.getD i 0) (ss.getD i 0) l1 l2 lnS (by first | assumption | exact rd_small (by assumption) (by assumption) | exact markD_small (by first | assumption | exact rd_small (by assumption) (by assumption)) _) (by first | assumption | exact rd_small (by assumption) (by assumption) | exact markD_small (by first | assumption | exact rd_small (by assumption) (by assumption)) _) h1 h2 (by first | assumption | omega) (by first | assumption | omega) (by first | assumption | omega) (by first | assumption | omega) (by assumption) (by assumption) b0 b1 rfl (wl.get _) w6 r14 r15 r16 r18.rng (lE (lL (lL r1.lt (lT m2.size m3.size)) ge1)) (lE (lL (lL r1.lt (lT m2.size m3.size)) ge2)) (lE (lL (lL r1.lt (lT m2.size m3.size)) ge3)) ne1 ne2 ne3 fm3 (fun j hj => (lG (lL (lL r1.lt (lT m2.size m3.size)) (fm3.ge j (Nat.lt_of_lt_of_eq hj l1.symm))))) (fun j hj => (fn1 j hj)) (fun j hj => (fn2 j hj)) (fun j hj => (fn3 j hj)) (fun j q hj hq => (fn4 j q hj hq)) fm4 (fun j hj => (lG (lL (lL r1.lt (lT m2.size m3.size)) (fm4.ge j (Nat.lt_of_lt_of_eq hj l2.symm))))) (fun j hj => (fn5 j hj)) (fun j hj => (fn6 j hj)) (fun j hj => (fn7 j hj)))) rfl rfl (ltb rfl) ?_
  rintro _ w7 ⟨y1, rfl, h3, h4, h5, h6, h7, h8, r19, r20, r21, fm5, fm6, m7⟩
  refine WL.op (op_buildSl (qs := [(0, vF y1)]) (cells := #[vF y1]) rfl Try.runUnderlying26 Try.sizeOf27 Try.zeroValue27 (by decide) (by decide) (by kernel_rfl)) rfl rfl (ltb rfl) ?_
  rintro _ w8 ⟨rfl, r22, m8, z4⟩
  have sz2 := (lT (lT (lT m2.size m3.size) m4.size) m5.size)
  have sz3 := (lT (lT m6.size m7.size) m8.size)
  refine WL.op (op_app (i := Try.t27) (m := 1) (bt := 4) (news := [vF y1]) rfl rfl Try.underlying26 rfl rfl rfl rfl rfl (by decide) r22.rng rfl rfl ((ow1.mod m7 (altC (lL r1.lt sz2) (altC (lL r6.lt m5.size) (altC (lL r7.lt m5.size) (tA h1 (fun j hj => lL (OF.lt fm1 (Nat.lt_of_lt_of_eq hj lDR.symm)) m5.size) (tA h2 (fun j hj => lL (OF.lt fm2 (Nat.lt_of_lt_of_eq hj lDL.symm)) m5.size) altN)))))).ext m8) sz3 (by omega) (by decide)) rfl rfl (ltb rfl) ?_
  rintro _ w9 ⟨A1, c1, b1, rfl, ow2, ge4, m9⟩
  refine WL.det (op_assign rfl) rfl rfl rfl ?_
  refine WL.end (NE.blk (NE.code (CE.region ?_)))
  refine WL.det (op_add (r := ((i + 1 : Nat) : Int)) rfl rfl (w_i64 (by omega) (by omega))) rfl rfl rfl ?_
  refine WL.det (op_move rfl) rfl rfl rfl ?_
  refine WL.end ?_
  have r23 := ((r20.ext m8).mod m9 (nC (lE (lL (lL r6.lt m5.size) ge4)) nN))
  have r24 := ((r21.ext m8).mod m9 (nC (lE (lL (lL r7.lt m5.size) ge4)) nN))
  exact NE.again ((i + 1), A1, c1, (ys ++ [y1])) (⟨rfl, rfl, rfl, rfl, rfl, rfl, rfl, rfl, trivial⟩) ⟨(by omega), (by rw [pipeAt_succ]; assumption), (by rw [pipeAt_succ]; assumption), (by rw [pipeAt_succ]; exact stR_len l1 _), (by rw [pipeAt_succ]; exact endL_len l2), (by exact fun j => Nat.le_trans (Nat.le_of_eq (pipeAt_lens j _).1) (hzR j)), (by exact fun j => Nat.le_trans (Nat.le_of_eq (pipeAt_lens j _).2) (hzL j)), (by rw [pipeAt_succ]; assumption), (by rw [pipeAt_succ]; assumption), (by simp [hly]), (by exact W32.snoc hwy (by assumption)), (by exact Cn.snoc hcy (by assumption)), (Row.congr ((r19.ext m8).mod m9 (nC (lE (lL (lL r1.lt sz2) ge4)) nN)) (by rw [pipeAt_succ]; rfl)), (Row.congr r23 (by rw [pipeAt_succ]; rfl)), (Row.congr r24 (by rw [pipeAt_succ]; rfl)), (Own.congr ow2 (fl_snoc _ _)), (OF.congr ((fm5.ext m8).mod m9 (fun j hj => (nC (lE (lL (OF.lt fm1 (Nat.lt_of_lt_of_eq (Nat.lt_of_lt_of_eq hj (stR_len l1 _)) lDR.symm)) (lT m5.size ge4))) nN))) (by rw [pipeAt_succ]; rfl)), (OF.congr ((fm6.ext m8).mod m9 (fun j hj => (nC (lE (lL (OF.lt fm2 (Nat.lt_of_lt_of_eq (Nat.lt_of_lt_of_eq hj (endL_len l2)) lDL.symm)) (lT m5.size ge4))) nN))) (by rw [pipeAt_succ]; rfl)), (((m6.then m7 ((aC (.inl (by simp)) (aC (.inl (by simp)) (aC (.inl (by simp)) (aI (fun x hx => by simp only [List.mem_cons, List.mem_append, hx, true_or, or_true]) (aI (fun x hx => by simp only [List.mem_cons, List.mem_append, hx, true_or, or_true]) aN))))))).nt m8).then m9 ((aC (.inr ge4) aN)))⟩ (by first | (dsimp only; omega) | omega)
 ·have hp1 := of_decide_eq_false hb1
  refine CE.cond_f rfl hb1 ?_
  refine CE.exit' (XE.exit_then (XE.exit_then (XE.exit_here (NE.code (CE.seq (CE.region ?_))))))
  refine WL.det (op_loadA (i := 0) (cs := [vS bR'1 0 nR cR'1, vS bL'1 0 nL cL'1, vS bS'1 0 0 cS'1, vI k, vF kc0, vF kc1, vF kc2, vF ((pipeAt nR 0 xS k kc0 kc1 kc2 op lo re sl (PipeSt.mk GR GL ks0 ks1) (fun j => ss.getD j 0) i).s0), vF ((pipeAt nR 0 xS k kc0 kc1 kc2 op lo re sl (PipeSt.mk GR GL ks0 ks1) (fun j => ss.getD j 0) i).s1), .bool op, vF lo, vF re, vF sl]) rfl Try.isAgg33 Try.sizeOf33 r14.rng rfl rfl rfl) rfl rfl rfl ?_
  refine WL.det (op_move rfl) rfl rfl rfl ?_
  have r25 := ((((r2.ext m3).ext m4).mod m5 (nC (lG (lL r1.lt lR)) nN)).mod m6 (nC (lG (lL r1.lt lR)) (nC (lE (lL (lL r2.lt m3.size) ge1)) (nC (lE (lL (lL r2.lt m3.size) ge2)) (nA h1 (fun j hj => (lG (lL (lL r2.lt m3.size) (fm3.ge j (Nat.lt_of_lt_of_eq hj l1.symm))))) (nA h2 (fun j hj => (lG (lL (lL r2.lt m3.size) (fm4.ge j (Nat.lt_of_lt_of_eq hj l2.symm))))) nN))))))
  refine WL.op0 (op_store (i := 0) (cs := [vS bR'1 0 nR cR'1, vS bL'1 0 nL cL'1, vS bS'1 0 0 cS'1, vI k, vF kc0, vF kc1, vF kc2, vF ((pipeAt nR 0 xS k kc0 kc1 kc2 op lo re sl (PipeSt.mk GR GL ks0 ks1) (fun j => ss.getD j 0) i).s0), vF ((pipeAt nR 0 xS k kc0 kc1 kc2 op lo re sl (PipeSt.mk GR GL ks0 ks1) (fun j => ss.getD j 0) i).s1), .bool op, vF lo, vF re, vF sl]) rfl rfl rfl Try.sizeOf33 rfl r25 rfl (lB rfl) rfl) rfl rfl ?_
  rintro _ w10 ⟨r26, m10, z5⟩
  have r27 : Row w10 w1.heap.size 0 [vS bR'1 0 nR cR'1, vS bL'1 0 nL cL'1, vS bS'1 0 0 cS'1, vI k, vF kc0, vF kc1, vF kc2, vF ((pipeAt nR 0 xS k kc0 kc1 kc2 op lo re sl (PipeSt.mk GR GL ks0 ks1) (fun j => ss.getD j 0) i).s0), vF ((pipeAt nR 0 xS k kc0 kc1 kc2 op lo re sl (PipeSt.mk GR GL ks0 ks1) (fun j => ss.getD j 0) i).s1), .bool op, vF lo, vF re, vF sl] := Row.congr r26 rfl
  iterate 2 refine WL.det (op_assign rfl) rfl rfl rfl ?_
  refine WL.end (NE.code (CE.ret' ?_))
  have ei : l = i := by omega
  subst ei
  have sz4 := (lT (lT m3.size m4.size) m5.size)
  obtain ⟨b2, hA1, r28, hq1⟩ := Own.out (ow1.mod m10 (altC (lL r2.lt sz4) altN)) (r14.mod m10 (nC (lE (lL r1.lt lR)) nN))
  have sz5 := (lT (lT (lT (lT m1.size m2.size) m3.size) m4.size) m5.size)
  have fq1 : ∀ j, j < nR → (PR.getD j BC.d).b ≠ b2 := (fun j hj => own_ne hq1 (lE (lL (OF.lt FR (Nat.lt_of_lt_of_eq hj lDR.symm)) lR)) (lL (OF.lt FR (Nat.lt_of_lt_of_eq hj lDR.symm)) sz5))
  have fq2 : ∀ j, j < nL → (PL.getD j BC.d).b ≠ b2 := (fun j hj => own_ne hq1 (lE (lL (OF.lt FL (Nat.lt_of_lt_of_eq hj lDL.symm)) lR)) (lL (OF.lt FL (Nat.lt_of_lt_of_eq hj lDL.symm)) sz5))
  have fq3 : ∀ j, j < nR → (PR'1.getD j BC.d).b ≠ b2 := (fun j hj => own_ne hq1 (lG (lL (lL r1.lt (lT m2.size m3.size)) (fm3.ge j (Nat.lt_of_lt_of_eq hj l1.symm)))) (lL (OF.lt fm1 (Nat.lt_of_lt_of_eq hj lDR.symm)) m5.size))
  have fq4 : ∀ j, j < nL → (PL'1.getD j BC.d).b ≠ b2 := (fun j hj => own_ne hq1 (lG (lL (lL r1.lt (lT m2.size m3.size)) (fm4.ge j (Nat.lt_of_lt_of_eq hj l2.symm)))) (lL (OF.lt fm2 (Nat.lt_of_lt_of_eq hj lDL.symm)) m5.size))
  refine XE.leaveT Try.results21 (res_agg (cs := [vS bR'1 0 nR cR'1, vS bL'1 0 nL cL'1, vS bS'1 0 0 cS'1, vI k, vF kc0, vF kc1, vF kc2, vF ((pipeAt nR 0 xS k kc0 kc1 kc2 op lo re sl (PipeSt.mk GR GL ks0 ks1) (fun j => ss.getD j 0) l).s0), vF ((pipeAt nR 0 xS k kc0 kc1 kc2 op lo re sl (PipeSt.mk GR GL ks0 ks1) (fun j => ss.getD j 0) l).s1), .bool op, vF lo, vF re, vF sl]) rfl Try.isAgg33 Try.sizeOf33 r27.rng rfl (res_tmp rfl (res_tmp rfl res_nil))) ?_
  have r29 := (((r8.mod m5 (nC (lG (lL (lL r1.lt (lT m2.size m3.size)) ge3)) nN)).mod m6 (nC (lG (lL (lL r1.lt (lT m2.size m3.size)) ge3)) (nC (Ne.symm ne2) (nC (Ne.symm ne3) (nA h1 (fun j hj => (fn3 j hj)) (nA h2 (fun j hj => (fn7 j hj)) nN)))))).mod m10 (nC (lG (lL (lL r2.lt m3.size) ge3)) nN))
  have sz6 := (lT (lT m1.size m2.size) m3.size)
  refine ⟨bR'1, cR'1, PR'1, bL'1, cL'1, PL'1, bS'1, cS'1, b2, cc, A, ys, ?_, h1, h2, hA1, ?_, ?_, ?_, (Row.congr (r15.mod m10 (nC (lG (lL (lL r2.lt m3.size) ge1)) nN)) ?_), (Row.congr (r16.mod m10 (nC (lG (lL (lL r2.lt m3.size) ge2)) nN)) ?_), r29, r28, (lT sz6 ge1), (lT sz6 ge2), (lT sz6 ge3), (own_ge hq1 lR sz5), ne1, ne2, ne3, (own_ne hq1 (lG (lL (lL r1.lt (lT m2.size m3.size)) ge1)) (lL r6.lt m5.size)), (own_ne hq1 (lG (lL (lL r1.lt (lT m2.size m3.size)) ge2)) (lL r7.lt m5.size)), (own_ne hq1 (lG (lL (lL r1.lt (lT m2.size m3.size)) ge3)) (lL r8.lt m5.size)), (OF.congr (OF.low (fm3.mod m10 (fun j hj => (nC (lG (lL (lL r2.lt m3.size) (fm3.ge j (Nat.lt_of_lt_of_eq (Nat.lt_of_lt_of_eq hj l1) l1.symm)))) nN))) sz6) (by rw [hze])), (fun j hj => (fn1 j (show j < nR by omega))), (fun j hj => (fn2 j (show j < nR by omega))), (fun j hj => (fn3 j (show j < nR by omega))), (fun j q hj hq => (fn4 j q (show j < nR by omega) (show q < nL by omega))), (fun j hj => (fq3 j (show j < nR by omega))), (OF.congr (OF.low (fm4.mod m10 (fun j hj => (nC (lG (lL (lL r2.lt m3.size) (fm4.ge j (Nat.lt_of_lt_of_eq (Nat.lt_of_lt_of_eq hj l2) l2.symm)))) nN))) sz6) (by rw [hze])), (fun j hj => (fn5 j (show j < nL by omega))), (fun j hj => (fn6 j (show j < nL by omega))), (fun j hj => (fn7 j (show j < nL by omega))), (fun j hj => (fq4 j (show j < nL by omega))), ((((((((Mod.refl [] w).nt m1).nt m2).nt m3).nt m4).then m5 ((aC (.inr lR) aN))).then m6 ((aC (.inr lR) (aC (.inr (lT sz6 ge1)) (aC (.inr (lT sz6 ge2)) (aA h1 (fun j hj => (lT sz6 (fm3.ge j (Nat.lt_of_lt_of_eq hj l1.symm)))) (aA h2 (fun j hj => (lT sz6 (fm4.ge j (Nat.lt_of_lt_of_eq hj l2.symm)))) aN))))))).then m10 ((aC (.inr (lT m1.size lR)) aN)))⟩
  all_goals subst hze
  all_goals subst hoe
  all_goals first | assumption | rfl

end Go.Proofs.Ytnahhdnkbbdceaa
