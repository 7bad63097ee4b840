/- Drawn pipes, played, stepped and compared. -/
import Derived.Test.YtnahhdnkbbdceaaN7
import Derived.Test.YtnahhdnkbbdceaaT3
import Derived.Test.YtnahhdnkbbdceaaE34
set_option linter.unusedVariables false
set_option linter.unusedSimpArgs false
set_option maxRecDepth 100000
set_option maxHeartbeats 8000000
namespace Go.Proofs.Ytnahhdnkbbdceaa

theorem DPz.b1 {nR nS c0 c1 lo re sl k : Nat} {xS : List Nat} {z : PipeSt} (h : DPz nR nS xS c0 c1 lo re sl z k) : z.s1 < wid .f32 := by rw [h.w1, wid32]; omega
/-- the pipe behind `q` steps that are given the samples of a list -/
def zTo (nR nS : Nat) (xS : List Nat) (c0 c1 : Nat) (op : Bool) (lo re sl : Nat) (z : PipeSt) (ss : List Nat) (q : Nat) : PipeSt := pipeAt nR nS xS 1 c0 c1 0 op lo re sl z (fun j => ss.getD j 0) q
/-- what it makes -/
def oTo (nR nS : Nat) (xS : List Nat) (c0 c1 : Nat) (op : Bool) (lo re sl : Nat) (z : PipeSt) (ss : List Nat) (q : Nat) : List Nat := outs (pipeOut nR nS xS 1 c0 c1 0 op lo re sl z (fun j => ss.getD j 0)) q
section
variable {nR nS c0 c1 lo re sl k i : Nat} {xS ss bs xs ys m : List Nat} {x y z z1 z2 : PipeSt} {op : Bool} {a : Nat}
theorem bd_take (h : ∀ j, Bd (ss.getD j 0) 2) (k : Nat) (j : Nat) : Bd ((ss.take k).getD j 0) 2 := by
  by_cases hj : j < k
  · rw [List.getD_eq_getElem?_getD, List.getElem?_take, if_pos hj, ← List.getD_eq_getElem?_getD]; exact h j
  · rw [List.getD_eq_getElem?_getD, List.getElem?_take, if_neg hj]; exact Bd.zero
theorem w32_take (h : W32 ss) : W32 (ss.take k) := fun x hx => h x (List.mem_of_mem_take hx)
theorem w32_part (h : W32 ss) : W32 ((ss.drop k).take i) := fun x hx => h x (List.mem_of_mem_drop (List.mem_of_mem_take hx))
theorem zTo_zero : z = zTo nR nS xS c0 c1 op lo re sl z ss 0 := pipeAt_zero.symm
theorem zTo_z : zTo nR nS xS c0 c1 op lo re sl z ss 0 = z := pipeAt_zero
theorem zTo_s : zTo nR nS xS c0 c1 op lo re sl z ss (i + 1) = pipeNext nR nS xS 1 c0 c1 0 op lo re sl (zTo nR nS xS c0 c1 op lo re sl z ss i) (ss.getD i 0) := pipeAt_succ
theorem zTo_step (e : z1 = zTo nR nS xS c0 c1 op lo re sl z ss i) (h : z2 = pipeNext nR nS xS 1 c0 c1 0 op lo re sl z1 (ss.getD i 0)) : z2 = zTo nR nS xS c0 c1 op lo re sl z ss (i + 1) := by
  rw [h, e]; exact pipeAt_succ.symm
theorem oTo_snoc (h : Cn xs (oTo nR nS xS c0 c1 op lo re sl z ss i)) (e : z1 = zTo nR nS xS c0 c1 op lo re sl z ss i) (k : cn .f32 a = cn .f32 (stepY 1 c0 c1 0 z1.s0 z1.s1 (oldD z1.R (nR - 1)))) : Cn (xs ++ [a]) (oTo nR nS xS c0 c1 op lo re sl z ss (i + 1)) := by
  refine Cn.snoc h ?_
  rw [k, e]; rfl
theorem zTo_dz (e : z1 = zTo nR nS xS c0 c1 op lo re sl z ss i) (d : DPz nR nS xS c0 c1 lo re sl z 25) (hb : ∀ j, Bd (ss.getD j 0) 2) (hi : i ≤ 16) : DPz nR nS xS c0 c1 lo re sl z1 57 := by
  rw [e]; exact (d.at hb (by omega) i (by omega)).mono (by omega)
theorem eqT (h : x = zTo nR nS xS c0 c1 op lo re sl z ss i) (k : y = zTo nR nS xS c0 c1 op lo re sl z ss i) : x = y := h.trans k.symm
theorem take_get {j : Nat} (hj : j < k) : (ss.take k).getD j 0 = ss.getD j 0 := by
  rw [List.getD_eq_getElem?_getD, List.getElem?_take, if_pos hj, ← List.getD_eq_getElem?_getD]
theorem part_get {j : Nat} (hj : j < i) : ((ss.drop k).take i).getD j 0 = ss.getD (k + j) 0 := by
  rw [List.getD_eq_getElem?_getD, List.getElem?_take, if_pos hj, List.getElem?_drop, ← List.getD_eq_getElem?_getD]
theorem zTo_take : zTo nR nS xS c0 c1 op lo re sl z (ss.take k) k = zTo nR nS xS c0 c1 op lo re sl z ss k := at_congr fun j hj => take_get hj
theorem zTo_back (e2 : z2 = zTo nR nS xS c0 c1 op lo re sl z1 ((ss.drop k).take (16 - k)) (16 - k)) (e1 : z1 = zTo nR nS xS c0 c1 op lo re sl z (ss.take k) k) (e3 : y = zTo nR nS xS c0 c1 op lo re sl z ss 16) (hk : k ≤ 16) : z2 = y := by
  rw [zTo_take] at e1
  rw [e2, e3, e1]
  have h1 : zTo nR nS xS c0 c1 op lo re sl (zTo nR nS xS c0 c1 op lo re sl z ss k) ((ss.drop k).take (16 - k)) (16 - k) = pipeAt nR nS xS 1 c0 c1 0 op lo re sl (zTo nR nS xS c0 c1 op lo re sl z ss k) (fun j => ss.getD (k + j) 0) (16 - k) := at_congr fun j hj => part_get hj
  rw [h1]
  have h2 := at_more (n := nR) (m := nS) (xS := xS) (c0 := c0) (c1 := c1) (op := op) (lo := lo) (re := re) (sl := sl) (z := z) (f := fun j => ss.getD j 0) (g := fun j => ss.getD (k + j) 0) (p := k) (fun j => rfl) (16 - k)
  rw [show k + (16 - k) = 16 by omega] at h2
  exact h2
theorem outs_add {f : Nat → Nat} : ∀ {p q : Nat}, outs f (p + q) = outs f p ++ outs (fun j => f (p + j)) q := by
  intro p q
  unfold outs
  rw [List.range_add, List.map_append, List.map_map]; rfl
theorem outs_eq {f g : Nat → Nat} {q : Nat} (h : ∀ j, j < q → f j = g j) : outs f q = outs g q := List.map_congr_left fun j hj => h j (List.mem_range.1 hj)
theorem cn_parts {b : List Nat} (h1 : Cn xs (oTo nR nS xS c0 c1 op lo re sl z (ss.take k) k)) (h2 : Cn b (oTo nR nS xS c0 c1 op lo re sl z1 ((ss.drop k).take (16 - k)) (16 - k))) (e1 : z1 = zTo nR nS xS c0 c1 op lo re sl z (ss.take k) k) (hm : Cn m (oTo nR nS xS c0 c1 op lo re sl z ss 16)) (hk : k ≤ 16) : Cn (xs ++ b) m := by
  refine Cn.trans (ys := oTo nR nS xS c0 c1 op lo re sl z ss 16) ?_ hm.symm
  have e : oTo nR nS xS c0 c1 op lo re sl z ss 16 = oTo nR nS xS c0 c1 op lo re sl z (ss.take k) k ++ oTo nR nS xS c0 c1 op lo re sl z1 ((ss.drop k).take (16 - k)) (16 - k) := by
    have a1 : oTo nR nS xS c0 c1 op lo re sl z ss 16 = oTo nR nS xS c0 c1 op lo re sl z ss (k + (16 - k)) := by rw [show k + (16 - k) = 16 by omega]
    rw [a1]
    unfold oTo
    rw [outs_add]
    congr 1
    · exact outs_eq fun j hj => (out_congr (f := fun j => ss.getD j 0) (g := fun j => (ss.take k).getD j 0) (fun i hi => take_get (by omega))).symm
    · refine outs_eq fun j hj => ?_
      rw [zTo_take] at e1
      have b1 := out_congr (n := nR) (m := nS) (xS := xS) (c0 := c0) (c1 := c1) (op := op) (lo := lo) (re := re) (sl := sl) (z := z1) (q := j) (f := fun j => ss.getD (k + j) 0) (g := fun j => ((ss.drop k).take (16 - k)).getD j 0) (fun i hi => part_get (by omega))
      rw [b1, e1]
      exact (out_more (f := fun j => ss.getD j 0) (g := fun j => ss.getD (k + j) 0) (p := k) (fun j => rfl) j).symm
  rw [e]
  unfold Cn at *
  rw [List.map_append, List.map_append, h1, h2]
theorem over_get16 (hi : 16 ≤ i) {j : Nat} (hj : j < 16) : (over (fun j => ss.getD j 0) (List.replicate 16 0) i).getD j 0 = ss.getD j 0 := over_lt (by omega)
theorem zTo_over (h : z1 = zTo nR nS xS c0 c1 op lo re sl z (over (fun j => ss.getD j 0) (List.replicate 16 0) i) 16) (k : y = zTo nR nS xS c0 c1 op lo re sl z ss 16) (hi : 16 ≤ i) : z1 = y := by
  rw [h, k]; exact at_congr fun j hj => over_get16 hi hj
theorem cn_over (h : Cn xs (oTo nR nS xS c0 c1 op lo re sl z (over (fun j => ss.getD j 0) (List.replicate 16 0) i) 16)) (hm : Cn m (oTo nR nS xS c0 c1 op lo re sl z ss 16)) (hi : 16 ≤ i) : Cn xs m := by
  refine h.trans (Cn.trans ?_ hm.symm)
  unfold oTo
  rw [outs_eq fun j hj => out_congr (f := fun j => ss.getD j 0) (g := fun j => (over (fun j => ss.getD j 0) (List.replicate 16 0) i).getD j 0) (fun i hi' => over_get16 hi (by omega))]
  exact Cn.refl _
end

theorem c_ValidZ (nR : Nat) (nS : Nat) (xS : List Nat) (kc0 : Nat) (kc1 : Nat) (op : Bool) (lo : Nat) (re : Nat) (sl : Nat) (z : PipeSt) (cR : Nat) (bR : Nat) (PR : List BC) (loR : Nat) (cL : Nat) (bL : Nat) (PL : List BC) (loL : Nat) (cS : Nat) (bS : Nat) (hdz : DPz nR nS xS kc0 kc1 lo re sl z 57) (lDR : z.R.length = nR) (lDL : z.L.length = nR) (lPR : PR.length = nR) (lPL : PL.length = nR) (lnS : xS.length = nS) (w : World) (rR : Rng w bR 0 (olc z.R PR)) (rL : Rng w bL 0 (olc z.L PL)) (rS : Rng w bS 0 (fl xS))  (FR : OF loR w z.R PR) (FL : OF loL w z.L PL) : Cl Try.prog 44 #[.agg #[vS bR 0 nR cR, vS bL 0 nR cL, vS bS 0 nS cS, vI 1, vF kc0, vF kc1, vF 0, vF (z.s0), vF (z.s1), .bool op, vF lo, vF re, vF sl]] w fun v w' => v = .bool true ∧ Mod [] w w' := by
  have q1 := hdz.n1
  have q2 := hdz.n3
  have q3 := hdz.sn
  have w1 : z.s1 < wid .f32 := by rw [hdz.w1, wid32]; omega
  refine (c_ValidPipeS nR z.R nR z.L nS xS cR bR PR loR cL bL PL loL cS bS 1 kc0 kc1 0 z.s0 z.s1 op lo re sl lDR lDL lnS hdz.small.1 hdz.small.2 lPR lPL (by omega) (by omega) (by omega) (by omega) w rR rL rS FR FL).mono ?_
  rintro v w' ⟨hv, md⟩
  rw [hdz.valid (by omega)] at hv
  exact ⟨hv, md⟩

theorem c_cloneZ (nR : Nat) (nS : Nat) (xS : List Nat) (kc0 : Nat) (kc1 : Nat) (op : Bool) (lo : Nat) (re : Nat) (sl : Nat) (z : PipeSt) (cR : Nat) (bR : Nat) (PR : List BC) (loR : Nat) (cL : Nat) (bL : Nat) (PL : List BC) (loL : Nat) (cS : Nat) (bS : Nat) (hdz : DPz nR nS xS kc0 kc1 lo re sl z 57) (lDR : z.R.length = nR) (lDL : z.L.length = nR) (lPR : PR.length = nR) (lPL : PL.length = nR) (lnS : xS.length = nS) (w : World) (rR : Rng w bR 0 (olc z.R PR)) (rL : Rng w bL 0 (olc z.L PL)) (rS : Rng w bS 0 (fl xS))  (FR : OF loR w z.R PR) (FL : OF loL w z.L PL) : Cl Try.prog 63 #[.agg #[vS bR 0 nR cR, vS bL 0 nR cL, vS bS 0 nS cS, vI 1, vF kc0, vF kc1, vF 0, vF (z.s0), vF (z.s1), .bool op, vF lo, vF re, vF sl]] w fun v w' => ∃ (bR' : Nat) (cR' : Nat) (PR' : List BC) (bL' : Nat) (cL' : Nat) (PL' : List BC) (bS' : Nat) (cS' : Nat), v = .agg #[vS bR' 0 nR cR', vS bL' 0 nR cL', vS bS' 0 nS cS', vI 1, vF kc0, vF kc1, vF 0, vF (z.s0), vF (z.s1), .bool op, vF lo, vF re, vF sl] ∧ (PR'.length = nR) ∧ (PL'.length = nR) ∧ (True) ∧ (z.R.length = nR) ∧ (z.L.length = nR) ∧ (xS.length = nS) ∧ Row w' bR' 0 (olc z.R PR') ∧ Row w' bL' 0 (olc z.L PL') ∧ Row w' bS' 0 (fl xS) ∧ w.heap.size ≤ bR' ∧ w.heap.size ≤ bL' ∧ w.heap.size ≤ bS' ∧ bR' ≠ bL' ∧ bR' ≠ bS' ∧ bL' ≠ bS' ∧ OF w.heap.size w' z.R PR' ∧ (∀ i, i < nR → (PR'.getD i BC.d).b ≠ bR') ∧ (∀ i, i < nR → (PR'.getD i BC.d).b ≠ bL') ∧ (∀ i, i < nR → (PR'.getD i BC.d).b ≠ bS') ∧ (∀ i j, i < nR → j < nR → (PR'.getD i BC.d).b ≠ (PL'.getD j BC.d).b) ∧ OF w.heap.size w' z.L PL' ∧ (∀ i, i < nR → (PL'.getD i BC.d).b ≠ bR') ∧ (∀ i, i < nR → (PL'.getD i BC.d).b ≠ bL') ∧ (∀ i, i < nR → (PL'.getD i BC.d).b ≠ bS') ∧ Mod [] w w' := by
  have q1 := hdz.n1
  have q2 := hdz.n3
  have q3 := hdz.sn
  have w1 : z.s1 < wid .f32 := by rw [hdz.w1, wid32]; omega
  by_cases h0 : 0 < nS
  · refine (c_clonePipeS nR z.R nR z.L nS xS cR bR PR loR cL bL PL loL cS bS 1 kc0 kc1 0 z.s0 z.s1 op lo re sl lDR lDL lnS hdz.small.1 hdz.small.2 lPR lPL (by omega) (by omega) (by omega) (by omega) (by omega) hdz.pos.1 hdz.pos.2 h0 w rR rL rS FR FL).mono ?_
    rintro v w' ⟨bR', cR', PR', bL', cL', PL', bS', cS', hv, p0, p1, hr⟩
    exact ⟨bR', cR', PR', bL', cL', PL', bS', cS', hv, p0, p1, trivial, lDR, lDL, lnS, hr⟩
  · obtain rfl : nS = 0 := by omega
    refine (c_clonePipeS0 nR z.R nR z.L xS cR bR PR loR cL bL PL loL cS bS 1 kc0 kc1 0 z.s0 z.s1 op lo re sl lDR lDL lnS hdz.small.1 hdz.small.2 lPR lPL (by omega) (by omega) (by omega) (by omega) hdz.pos.1 hdz.pos.2 w rR rL rS FR FL).mono ?_
    rintro v w' ⟨bR', cR', PR', bL', cL', PL', bS', cS', hv, p0, p1, hr⟩
    exact ⟨bR', cR', PR', bL', cL', PL', bS', cS', hv, p0, p1, trivial, lDR, lDL, lnS, hr⟩

theorem c_l04OkZ (nR : Nat) (nS : Nat) (xS : List Nat) (kc0 : Nat) (kc1 : Nat) (op : Bool) (lo : Nat) (re : Nat) (sl : Nat) (z : PipeSt) (cR : Nat) (bR : Nat) (PR : List BC) (loR : Nat) (cL : Nat) (bL : Nat) (PL : List BC) (loL : Nat) (cS : Nat) (bS : Nat) (p : Nat) (hdz : DPz nR nS xS kc0 kc1 lo re sl z 57) (lDR : z.R.length = nR) (lDL : z.L.length = nR) (lPR : PR.length = nR) (lPL : PL.length = nR) (lnS : xS.length = nS) (w : World) (q : Rng w p 0 [vS bR 0 nR cR, vS bL 0 nR cL, vS bS 0 nS cS, vI 1, vF kc0, vF kc1, vF 0, vF (z.s0), vF (z.s1), .bool op, vF lo, vF re, vF sl]) (rR : Rng w bR 0 (olc z.R PR)) (rL : Rng w bL 0 (olc z.L PL)) (rS : Rng w bS 0 (fl xS))  (FR : OF loR w z.R PR) (FL : OF loL w z.L PL) : Cl Try.prog 57 #[vP p 0] w fun v w' => v = .bool true ∧ Mod [] w w' := by
  have q1 := hdz.n1
  have q2 := hdz.n3
  have q3 := hdz.sn
  have w1 : z.s1 < wid .f32 := by rw [hdz.w1, wid32]; omega
  refine (c_l04OkS nR z.R nR z.L nS xS cR bR PR loR cL bL PL loL cS bS 1 kc0 kc1 0 z.s0 z.s1 op lo re sl p lDR lDL lnS hdz.small.1 hdz.small.2 lPR lPL (by omega) (by omega) (by omega) (by omega) w q rR rL rS FR FL).mono ?_
  rintro v w' ⟨hv, md⟩
  rw [hdz.valid (by omega)] at hv
  exact ⟨hv, md⟩

theorem c_l04CopyZ (nR : Nat) (nS : Nat) (xS : List Nat) (kc0 : Nat) (kc1 : Nat) (op : Bool) (lo : Nat) (re : Nat) (sl : Nat) (z : PipeSt) (cR : Nat) (bR : Nat) (PR : List BC) (loR : Nat) (cL : Nat) (bL : Nat) (PL : List BC) (loL : Nat) (cS : Nat) (bS : Nat) (p : Nat) (hdz : DPz nR nS xS kc0 kc1 lo re sl z 57) (lDR : z.R.length = nR) (lDL : z.L.length = nR) (lPR : PR.length = nR) (lPL : PL.length = nR) (lnS : xS.length = nS) (w : World) (q : Rng w p 0 [vS bR 0 nR cR, vS bL 0 nR cL, vS bS 0 nS cS, vI 1, vF kc0, vF kc1, vF 0, vF (z.s0), vF (z.s1), .bool op, vF lo, vF re, vF sl]) (rR : Rng w bR 0 (olc z.R PR)) (rL : Rng w bL 0 (olc z.L PL)) (rS : Rng w bS 0 (fl xS))  (FR : OF loR w z.R PR) (FL : OF loL w z.L PL) : Cl Try.prog 59 #[vP p 0] w fun v w' => ∃ (bR' : Nat) (cR' : Nat) (PR' : List BC) (bL' : Nat) (cL' : Nat) (PL' : List BC) (bS' : Nat) (cS' : Nat), v = .agg #[vS bR' 0 nR cR', vS bL' 0 nR cL', vS bS' 0 nS cS', vI 1, vF kc0, vF kc1, vF 0, vF (z.s0), vF (z.s1), .bool op, vF lo, vF re, vF sl] ∧ (PR'.length = nR) ∧ (PL'.length = nR) ∧ (True) ∧ (z.R.length = nR) ∧ (z.L.length = nR) ∧ (xS.length = nS) ∧ Row w' bR' 0 (olc z.R PR') ∧ Row w' bL' 0 (olc z.L PL') ∧ Row w' bS' 0 (fl xS) ∧ w.heap.size ≤ bR' ∧ w.heap.size ≤ bL' ∧ w.heap.size ≤ bS' ∧ bR' ≠ bL' ∧ bR' ≠ bS' ∧ bL' ≠ bS' ∧ OF w.heap.size w' z.R PR' ∧ (∀ i, i < nR → (PR'.getD i BC.d).b ≠ bR') ∧ (∀ i, i < nR → (PR'.getD i BC.d).b ≠ bL') ∧ (∀ i, i < nR → (PR'.getD i BC.d).b ≠ bS') ∧ (∀ i j, i < nR → j < nR → (PR'.getD i BC.d).b ≠ (PL'.getD j BC.d).b) ∧ OF w.heap.size w' z.L PL' ∧ (∀ i, i < nR → (PL'.getD i BC.d).b ≠ bR') ∧ (∀ i, i < nR → (PL'.getD i BC.d).b ≠ bL') ∧ (∀ i, i < nR → (PL'.getD i BC.d).b ≠ bS') ∧ Mod [] w w' := by
  have q1 := hdz.n1
  have q2 := hdz.n3
  have q3 := hdz.sn
  have w1 : z.s1 < wid .f32 := by rw [hdz.w1, wid32]; omega
  by_cases h0 : 0 < nS
  · refine (c_l04CopyS nR z.R nR z.L nS xS cR bR PR loR cL bL PL loL cS bS 1 kc0 kc1 0 z.s0 z.s1 op lo re sl p lDR lDL lnS hdz.small.1 hdz.small.2 lPR lPL (by omega) (by omega) (by omega) (by omega) (by omega) hdz.pos.1 hdz.pos.2 h0 w q rR rL rS FR FL).mono ?_
    rintro v w' ⟨bR', cR', PR', bL', cL', PL', bS', cS', hv, p0, p1, hr⟩
    exact ⟨bR', cR', PR', bL', cL', PL', bS', cS', hv, p0, p1, trivial, lDR, lDL, lnS, hr⟩
  · obtain rfl : nS = 0 := by omega
    refine (c_l04CopyS0 nR z.R nR z.L xS cR bR PR loR cL bL PL loL cS bS 1 kc0 kc1 0 z.s0 z.s1 op lo re sl p lDR lDL lnS hdz.small.1 hdz.small.2 lPR lPL (by omega) (by omega) (by omega) (by omega) hdz.pos.1 hdz.pos.2 w q rR rL rS FR FL).mono ?_
    rintro v w' ⟨bR', cR', PR', bL', cL', PL', bS', cS', hv, p0, p1, hr⟩
    exact ⟨bR', cR', PR', bL', cL', PL', bS', cS', hv, p0, p1, trivial, lDR, lDL, lnS, hr⟩

theorem c_iPlayZ (nR : Nat) (nS : Nat) (xS : List Nat) (kc0 : Nat) (kc1 : Nat) (op : Bool) (lo : Nat) (re : Nat) (sl : Nat) (z : PipeSt) (cR : Nat) (bR : Nat) (PR : List BC) (loR : Nat) (cL : Nat) (bL : Nat) (PL : List BC) (loL : Nat) (cS : Nat) (bS : Nat) (l : Nat) (cl : Nat) (Al : Option Addr) (bl : Nat) (ol : Nat) (ss : List Nat) (hdz : DPz nR nS xS kc0 kc1 lo re sl z 57) (lDR : z.R.length = nR) (lDL : z.L.length = nR) (lPR : PR.length = nR) (lPL : PL.length = nR) (lnS : xS.length = nS) (ls : ss.length = l) (hAl : 0 < l → Al = some ⟨bl, ol, none⟩) (wl : W32 ss) (hll : l ≤ 16) (w : World) (rR : Rng w bR 0 (olc z.R PR)) (rL : Rng w bL 0 (olc z.L PL)) (rS : Rng w bS 0 (fl xS)) (rl : Rng w bl ol (fl ss))  (FR : OF loR w z.R PR) (FL : OF loL w z.L PL) : Cl Try.prog 21 #[.agg #[vS bR 0 nR cR, vS bL 0 nR cL, vS bS 0 nS cS, vI 1, vF kc0, vF kc1, vF 0, vF (z.s0), vF (z.s1), .bool op, vF lo, vF re, vF sl], .slice Al l cl] w fun v w' => ∃ (bR' : Nat) (cR' : Nat) (PR' : List BC) (bL' : Nat) (cL' : Nat) (PL' : List BC) (bS' : Nat) (cS' : Nat) (zz : PipeSt) (e' : Nat) (c3' : Nat) (A' : Option Addr) (ys : List Nat), v = .tuple #[.agg #[vS bR' 0 nR cR', vS bL' 0 nR cL', vS bS' 0 nS cS', vI 1, vF kc0, vF kc1, vF 0, vF (zz.s0), vF (zz.s1), .bool op, vF lo, vF re, vF sl], .slice A' l c3', vI 0] ∧ (PR'.length = nR) ∧ (PL'.length = nR) ∧ (zz = zTo nR nS xS kc0 kc1 op lo re sl z ss l) ∧ (zz.R.length = nR) ∧ (zz.L.length = nR) ∧ (xS.length = nS) ∧ (0 < l → A' = some ⟨e', 0, none⟩) ∧ (ys.length = l) ∧ (W32 ys) ∧ (Cn ys (oTo nR nS xS kc0 kc1 op lo re sl z ss l)) ∧ Row w' bR' 0 (olc zz.R PR') ∧ Row w' bL' 0 (olc zz.L PL') ∧ Row w' bS' 0 (fl xS) ∧ Row w' e' 0 (fl ys) ∧ w.heap.size ≤ bR' ∧ w.heap.size ≤ bL' ∧ w.heap.size ≤ bS' ∧ w.heap.size ≤ e' ∧ bR' ≠ bL' ∧ bR' ≠ bS' ∧ bL' ≠ bS' ∧ bR' ≠ e' ∧ bL' ≠ e' ∧ bS' ≠ e' ∧ OF w.heap.size w' zz.R PR' ∧ (∀ i, i < nR → (PR'.getD i BC.d).b ≠ bR') ∧ (∀ i, i < nR → (PR'.getD i BC.d).b ≠ bL') ∧ (∀ i, i < nR → (PR'.getD i BC.d).b ≠ bS') ∧ (∀ i j, i < nR → j < nR → (PR'.getD i BC.d).b ≠ (PL'.getD j BC.d).b) ∧ (∀ i, i < nR → (PR'.getD i BC.d).b ≠ e') ∧ OF w.heap.size w' zz.L PL' ∧ (∀ i, i < nR → (PL'.getD i BC.d).b ≠ bR') ∧ (∀ i, i < nR → (PL'.getD i BC.d).b ≠ bL') ∧ (∀ i, i < nR → (PL'.getD i BC.d).b ≠ bS') ∧ (∀ i, i < nR → (PL'.getD i BC.d).b ≠ e') ∧ Mod [] w w' := by
 have hnA := hdz.n1
 have hnB := hdz.n3
 have hnC := hdz.sn
 refine Cl.of Try.func21 Try.ntmps21 rfl rfl (ρ := [(0, .agg #[vS bR 0 nR cR, vS bL 0 nR cL, vS bS 0 nS cS, vI 1, vF kc0, vF kc1, vF 0, vF (z.s0), vF (z.s1), .bool op, vF lo, vF re, vF sl]), (1, .slice Al l cl)]) rfl ?_
 refine CE.seq (CE.region ?_)
 refine WL.op (op_box (cs := [vS bR 0 nR cR, vS bL 0 nR cL, vS bS 0 nS cS, vI 1, vF kc0, vF kc1, vF 0, vF (z.s0), vF (z.s1), .bool op, vF lo, vF re, vF sl]) rfl rfl) rfl rfl (ltb rfl) ?_
 rintro _ w1 ⟨rfl, r1, m1, z1⟩
 refine WL.op (op_alloc (cs := [.slice none 0 0, .slice none 0 0, .slice none 0 0, vI 0, vF 0, vF 0, vF 0, vF 0, vF 0, .bool false, vF 0, vF 0, vF 0]) Try.zeroValue33 rfl) rfl rfl (ltb rfl) ?_
 rintro _ w2 ⟨rfl, r2, m2, z2⟩
 iterate 2 refine WD (op_assign rfl) rfl ?_
 refine WL.end (NE.code (CE.seq (CE.block (CE.seq (CE.region ?_)))))
 refine WD (op_loadA (i := 0) (cs := [vS bR 0 nR cR, vS bL 0 nR cL, vS bS 0 nS cS, vI 1, vF kc0, vF kc1, vF 0, vF (z.s0), vF (z.s1), .bool op, vF lo, vF re, vF sl]) rfl Try.isAgg33 Try.sizeOf33 (r1.ext m2).rng rfl rfl rfl) rfl ?_
 refine WL.call (oc_call (vs := [.agg #[vS bR 0 nR cR, vS bL 0 nR cL, vS bS 0 nS cS, vI 1, vF kc0, vF kc1, vF 0, vF (z.s0), vF (z.s1), .bool op, vF lo, vF re, vF sl]]) (cap := []) rfl rfl rfl Try.call44 (c_ValidZ nR nS xS kc0 kc1 op lo re sl z cR bR PR loR cL bL PL loL cS bS (by first | with_reducible assumption | exact DPz.mono (by with_reducible assumption) (by omega) | exact zTo_dz (by with_reducible assumption) (by with_reducible assumption) (by with_reducible first | assumption | exact bd_take (by assumption) _) (by omega)) lDR lDL lPR lPL lnS w2 ((rR.ext m1).ext m2) ((rL.ext m1).ext m2) ((rS.ext m1).ext m2) ((FR.ext m1).ext m2) ((FL.ext m1).ext m2))) rfl rfl (ltb rfl) ?_
 rintro _ w3 ⟨rfl, m3⟩
 refine WD (op_not rfl) rfl ?_
 refine WD (op_assign rfl) rfl ?_
 refine WL.end (NE.code ?_)
 refine CE.cond_f rfl rfl ?_
 refine CE.seq (CE.region ?_)
 refine WD (op_move rfl) rfl ?_
 refine WD (op_len rfl Try.runUnderlying26) rfl ?_
 refine WD (op_gti rfl rfl) rfl ?_
 refine WD (op_assign rfl) rfl ?_
 refine WL.end (NE.code ?_)
 refine CE.cond_f rfl (decide_eq_false (by omega)) ?_
 refine CE.skip' (NE.blk (NE.code (CE.seq (CE.region ?_))))
 refine WD (op_loadA (i := 0) (cs := [vS bR 0 nR cR, vS bL 0 nR cL, vS bS 0 nS cS, vI 1, vF kc0, vF kc1, vF 0, vF (z.s0), vF (z.s1), .bool op, vF lo, vF re, vF sl]) rfl Try.isAgg33 Try.sizeOf33 ((r1.ext m2).ext m3).rng rfl rfl rfl) rfl ?_
 have r3 := (((rR.ext m1).ext m2).ext m3)
 have r4 := (((rL.ext m1).ext m2).ext m3)
 have r5 := (((rS.ext m1).ext m2).ext m3)
 refine WL.call (oc_call (vs := [.agg #[vS bR 0 nR cR, vS bL 0 nR cL, vS bS 0 nS cS, vI 1, vF kc0, vF kc1, vF 0, vF (z.s0), vF (z.s1), .bool op, vF lo, vF re, vF sl]]) (cap := []) rfl rfl rfl Try.call63 (c_cloneZ nR nS xS kc0 kc1 op lo re sl z cR bR PR loR cL bL PL loL cS bS (by first | with_reducible assumption | exact DPz.mono (by with_reducible assumption) (by omega) | exact zTo_dz (by with_reducible assumption) (by with_reducible assumption) (by with_reducible first | assumption | exact bd_take (by assumption) _) (by omega)) lDR lDL lPR lPL lnS w3 r3 r4 r5 (((FR.ext m1).ext m2).ext m3) (((FL.ext m1).ext m2).ext m3))) rfl rfl (ltb rfl) ?_
 rintro _ w4 ⟨bR'1, cR'1, PR'1, bL'1, cL'1, PL'1, bS'1, cS'1, rfl, h1, h2, h3, h4, h5, h6, r6, r7, r8, ge1, ge2, ge3, ne1, ne2, ne3, fm1, fn1, fn2, fn3, fn4, fm2, fn5, fn6, fn7, m4⟩
 have r9 := (((r1.ext m2).ext m3).ext m4)
 refine WL.op0 (op_store (i := 0) (cs := [vS bR'1 0 nR cR'1, vS bL'1 0 nR cL'1, vS bS'1 0 nS cS'1, vI 1, vF kc0, vF kc1, vF 0, vF (z.s0), vF (z.s1), .bool op, vF lo, vF re, vF sl]) rfl rfl rfl Try.sizeOf33 rfl r9 rfl (lB rfl) rfl) rfl rfl ?_
 rintro _ w5 ⟨r10, m5, z3⟩
 have r11 : Row w5 w.heap.size 0 [vS bR'1 0 nR cR'1, vS bL'1 0 nR cL'1, vS bS'1 0 nS cS'1, vI 1, vF kc0, vF kc1, vF 0, vF (z.s0), vF (z.s1), .bool op, vF lo, vF re, vF sl] := Row.congr r10 rfl
 refine WL.end (NE.code (CE.seq (CE.region ?_)))
 refine WD (op_assign rfl) rfl ?_
 refine WL.end (NE.code (CE.seq (CE.seq (CE.region ?_))))
 refine WD (op_move rfl) rfl ?_
 refine WD (op_len rfl Try.runUnderlying26) rfl ?_
 refine WD (op_move rfl) rfl ?_
 refine WL.end (NE.code (CE.block ?_))
 have r12 := (r6.mod m5 (nC (lG (lL (lL r1.lt (lT m2.size m3.size)) ge1)) nN))
 have r13 := (r7.mod m5 (nC (lG (lL (lL r1.lt (lT m2.size m3.size)) ge2)) nN))
 refine CE.loop (fun (z9 : Nat × Option Addr × Nat × List Nat) => [(24, vI ((z9.1 : Nat) : Int)), (7, .slice z9.2.1 z9.1 z9.2.2.1), (2, vP w.heap.size 0), (4, vP w1.heap.size 0), (5, .slice none 0 0), (6, vI 0), (22, .slice Al l cl), (23, vI ((l : Nat) : Int))]) (fun (z9 : Nat × Option Addr × Nat × List Nat) => fun W => (z9.1 ≤ l) ∧ (GoodD (zTo nR nS xS kc0 kc1 op lo re sl z ss z9.1).R nR) ∧ (GoodD (zTo nR nS xS kc0 kc1 op lo re sl z ss z9.1).L nR) ∧ ((zTo nR nS xS kc0 kc1 op lo re sl z ss z9.1).R.length = nR) ∧ ((zTo nR nS xS kc0 kc1 op lo re sl z ss z9.1).L.length = nR) ∧ (∀ j, ((zTo nR nS xS kc0 kc1 op lo re sl z ss z9.1).R.getD j RD.d).xs.length ≤ 1048576) ∧ (∀ j, ((zTo nR nS xS kc0 kc1 op lo re sl z ss z9.1).L.getD j RD.d).xs.length ≤ 1048576) ∧ ((zTo nR nS xS kc0 kc1 op lo re sl z ss z9.1).s0 < wid .f32) ∧ ((zTo nR nS xS kc0 kc1 op lo re sl z ss z9.1).s1 < wid .f32) ∧ (z9.2.2.2.length = z9.1) ∧ (W32 z9.2.2.2) ∧ (Cn z9.2.2.2 (oTo nR nS xS kc0 kc1 op lo re sl z ss z9.1)) ∧ Row W w.heap.size 0 [vS bR'1 0 nR cR'1, vS bL'1 0 nR cL'1, vS bS'1 0 nS cS'1, vI 1, vF kc0, vF kc1, vF 0, vF ((zTo nR nS xS kc0 kc1 op lo re sl z ss z9.1).s0), vF ((zTo nR nS xS kc0 kc1 op lo re sl z ss z9.1).s1), .bool op, vF lo, vF re, vF sl] ∧ Row W bR'1 0 (olc ((zTo nR nS xS kc0 kc1 op lo re sl z ss z9.1).R) PR'1) ∧ Row W bL'1 0 (olc ((zTo nR nS xS kc0 kc1 op lo re sl z ss z9.1).L) PL'1) ∧ Own 27 1 w5.heap.size W z9.2.1 z9.1 z9.2.2.1 (fl z9.2.2.2) ∧ OF w3.heap.size W ((zTo nR nS xS kc0 kc1 op lo re sl z ss z9.1).R) PR'1 ∧ OF w3.heap.size W ((zTo nR nS xS kc0 kc1 op lo re sl z ss z9.1).L) PL'1 ∧ Mod (w.heap.size :: bR'1 :: bL'1 :: (PR'1.map BC.b ++ (PL'1.map BC.b ++ []))) w5 W) (fun (z9 : Nat × Option Addr × Nat × List Nat) => l - z9.1) (0, none, 0, []) (⟨rfl, rfl, rfl, rfl, rfl, rfl, rfl, rfl, trivial⟩) ⟨(by omega), (by rw [zTo_z]; exact hdz.gR), (by rw [zTo_z]; exact hdz.gL), (by rw [zTo_z]; exact lDR), (by rw [zTo_z]; exact lDL), (by exact fun j => Nat.le_trans (Nat.le_of_eq (pipeAt_lens j _).1) (hdz.small.1 j)), (by exact fun j => Nat.le_trans (Nat.le_of_eq (pipeAt_lens j _).2) (hdz.small.2 j)), (by rw [zTo_z]; exact hdz.w0), (by rw [zTo_z]; exact hdz.b1), (by rfl), (by exact W32.nil), (by exact Cn.refl _), (Row.congr r11 (by rw [zTo_z])), (Row.congr r12 (by rw [zTo_z])), (Row.congr r13 (by rw [zTo_z])), (Own.congr Own.nil (rfl)), (OF.congr (fm1.mod m5 (fun j hj => (nC (lG (lL (lL r1.lt (lT m2.size m3.size)) (fm1.ge j (lQ (lQ hj h4) h4.symm)))) nN))) (by rw [zTo_z])), (OF.congr (fm2.mod m5 (fun j hj => (nC (lG (lL (lL r1.lt (lT m2.size m3.size)) (fm2.ge j (lQ (lQ hj h5) h5.symm)))) nN))) (by rw [zTo_z])), Mod.refl _ _⟩ ?_
 rintro ⟨i, A, cc, ys⟩ w6 ⟨hi, g1, g2, l1, l2, z1, z2, b0, b1, hly, hwy, hcy, r14, r15, r16, ow1, fm3, fm4, m6⟩
 replace hi : i ≤ l := hi
 replace g1 : GoodD (zTo nR nS xS kc0 kc1 op lo re sl z ss i).R nR := g1
 replace g2 : GoodD (zTo nR nS xS kc0 kc1 op lo re sl z ss i).L nR := g2
 replace l1 : (zTo nR nS xS kc0 kc1 op lo re sl z ss i).R.length = nR := l1
 replace l2 : (zTo nR nS xS kc0 kc1 op lo re sl z ss i).L.length = nR := l2
 replace z1 : ∀ j, ((zTo nR nS xS kc0 kc1 op lo re sl z ss i).R.getD j RD.d).xs.length ≤ 1048576 := z1
 replace z2 : ∀ j, ((zTo nR nS xS kc0 kc1 op lo re sl z ss i).L.getD j RD.d).xs.length ≤ 1048576 := z2
 replace b0 : (zTo nR nS xS kc0 kc1 op lo re sl z ss i).s0 < wid .f32 := b0
 replace b1 : (zTo nR nS xS kc0 kc1 op lo re sl z ss i).s1 < wid .f32 := b1
 replace hly : ys.length = i := hly
 replace hwy : W32 ys := hwy
 replace hcy : Cn ys (oTo nR nS xS kc0 kc1 op lo re sl z ss i) := hcy
 replace r14 : Row w6 w.heap.size 0 [vS bR'1 0 nR cR'1, vS bL'1 0 nR cL'1, vS bS'1 0 nS cS'1, vI 1, vF kc0, vF kc1, vF 0, vF ((zTo nR nS xS kc0 kc1 op lo re sl z ss i).s0), vF ((zTo nR nS xS kc0 kc1 op lo re sl z ss i).s1), .bool op, vF lo, vF re, vF sl] := r14
 replace r15 : Row w6 bR'1 0 (olc ((zTo nR nS xS kc0 kc1 op lo re sl z ss i).R) PR'1) := r15
 replace r16 : Row w6 bL'1 0 (olc ((zTo nR nS xS kc0 kc1 op lo re sl z ss i).L) PL'1) := r16
 replace ow1 : Own 27 1 w5.heap.size w6 A i cc (fl ys) := ow1
 replace fm3 : OF w3.heap.size w6 ((zTo nR nS xS kc0 kc1 op lo re sl z ss i).R) PR'1 := fm3
 replace fm4 : OF w3.heap.size w6 ((zTo nR nS xS kc0 kc1 op lo re sl z ss i).L) PL'1 := fm4
 show CE _ _ _ _ [(24, vI ((i : Nat) : Int)), (7, .slice A i cc), (2, vP w.heap.size 0), (4, vP w1.heap.size 0), (5, .slice none 0 0), (6, vI 0), (22, .slice Al l cl), (23, vI ((l : Nat) : Int))] _
 refine CE.seq (CE.region ?_)
 refine WD (op_lti rfl rfl) rfl ?_
 refine WL.end (NE.code (CE.seq ?_))
 rcases Bool.eq_false_or_eq_true (decide (((i : Nat) : Int) < ((l : Nat) : Int))) with hb1 | hb1
 ·have hp1 := of_decide_eq_true hb1
  refine CE.cond_t rfl hb1 ?_
  refine CE.skip' (NE.code (CE.seq (CE.block (CE.seq (CE.region ?_)))))
  refine WD (op_indexSl (off' := ol + i) rfl (hAl (by omega)) rfl Try.runUnderlying26 Try.sizeOf27 (by omega) (by omega) (by omega)) rfl ?_
  have sz1 := (lT (lT m1.size m2.size) m3.size)
  have r17 := (Rng.youngS rl (Rng.youngS rl ((((rl.ext m1).ext m2).ext m3).ext m4) m5 (allge_cons lR allge_nil)) m6 (allge_cons lR (allge_cons (lT sz1 ge1) (allge_cons (lT sz1 ge2) (gA h1 (fun j hj => (lT sz1 (fm3.ge j (lQ hj l1.symm)))) (gA h2 (fun j hj => (lT sz1 (fm4.ge j (lQ hj l2.symm)))) allge_nil))))))
  refine WD (op_load1 (i := i) rfl Try.isAgg27 r17 rfl (fl_get (by have eL : List.length ss = l := ls; omega))) rfl ?_
  refine WD (op_assign rfl) rfl ?_
  refine WL.end (NE.code (CE.region ?_))
  iterate 2 refine WD (op_move rfl) rfl ?_
  have r18 := ((r8.mod m5 (nC (lG (lL (lL r1.lt (lT m2.size m3.size)) ge3)) nN)).mod m6 (nC (lG (lL (lL r1.lt (lT m2.size m3.size)) ge3)) (nC (Ne.symm ne2) (nC (Ne.symm ne3) (nA h1 (fun j hj => (fn3 j hj)) (nA h2 (fun j hj => (fn7 j hj)) nN))))))
  refine WL.call (oc_call (vs := [vP w.heap.size 0, vF (ss.getD i 0)]) (cap := []) rfl rfl rfl Try.call69 (c_pipeStep nR ((zTo nR nS xS kc0 kc1 op lo re sl z ss i).R) nR ((zTo nR nS xS kc0 kc1 op lo re sl z ss i).L) nS xS cR'1 bR'1 PR'1 w3.heap.size cL'1 bL'1 PL'1 w3.heap.size cS'1 bS'1 (1 : Int) kc0 kc1 0 ((zTo nR nS xS kc0 kc1 op lo re sl z ss i).s0) ((zTo nR nS xS kc0 kc1 op lo re sl z ss i).s1) op lo re sl w.heap.size (ss.getD i 0) (ss.getD i 0) l1 l2 h6 (by first | assumption | exact rd_small (by assumption) (by assumption) | exact markD_small (by first | assumption | exact rd_small (by assumption) (by assumption)) _) (by first | assumption | exact rd_small (by assumption) (by assumption) | exact markD_small (by first | assumption | exact rd_small (by assumption) (by assumption)) _) h1 h2 (by first | assumption | omega) (by first | assumption | omega) (by first | assumption | omega) (by first | assumption | omega) (by assumption) (by assumption) b0 b1 rfl (wl.get _) w6 r14 r15 r16 r18.rng (lE (lL (lL r1.lt (lT m2.size m3.size)) ge1)) (lE (lL (lL r1.lt (lT m2.size m3.size)) ge2)) (lE (lL (lL r1.lt (lT m2.size m3.size)) ge3)) ne1 ne2 ne3 fm3 (fun j hj => (lG (lL (lL r1.lt (lT m2.size m3.size)) (fm3.ge j (lQ hj l1.symm))))) (fun j hj => (fn1 j hj)) (fun j hj => (fn2 j hj)) (fun j hj => (fn3 j hj)) (fun j q hj hq => (fn4 j q hj hq)) fm4 (fun j hj => (lG (lL (lL r1.lt (lT m2.size m3.size)) (fm4.ge j (lQ hj l2.symm))))) (fun j hj => (fn5 j hj)) (fun j hj => (fn6 j hj)) (fun j hj => (fn7 j hj)))) rfl rfl (ltb rfl) ?_
  rintro _ w7 ⟨y1, rfl, h7, h8, h9, h10, h11, h12, r19, r20, r21, fm5, fm6, m7⟩
  refine WL.op (op_buildSl (qs := [(0, vF y1)]) (cells := #[vF y1]) rfl Try.runUnderlying26 Try.sizeOf27 Try.zeroValue27 (by decide) (by decide) (by kernel_rfl)) rfl rfl (ltb rfl) ?_
  rintro _ w8 ⟨rfl, r22, m8, z4⟩
  have sz2 := (lT (lT (lT m2.size m3.size) m4.size) m5.size)
  have sz3 := (lT (lT m6.size m7.size) m8.size)
  refine WL.op (op_app (i := Try.t27) (m := 1) (bt := 4) (news := [vF y1]) rfl rfl Try.underlying26 rfl rfl rfl rfl rfl (by decide) r22.rng rfl rfl ((ow1.mod m7 (altC (lL r1.lt sz2) (altC (lL r6.lt m5.size) (altC (lL r7.lt m5.size) (tA h1 (fun j hj => lL (OF.lt fm1 (lQ hj h4.symm)) m5.size) (tA h2 (fun j hj => lL (OF.lt fm2 (lQ hj h5.symm)) m5.size) altN)))))).ext m8) sz3 (by omega) (by decide)) rfl rfl (ltb rfl) ?_
  rintro _ w9 ⟨A1, c1, b1, rfl, ow2, ge4, m9⟩
  refine WD (op_assign rfl) rfl ?_
  refine WL.end (NE.blk (NE.code (CE.region ?_)))
  refine WD (op_add (r := ((i + 1 : Nat) : Int)) rfl rfl (w_i64 (by omega) (by omega))) rfl ?_
  refine WD (op_move rfl) rfl ?_
  refine WL.end ?_
  have r23 := ((r20.ext m8).mod m9 (nC (lE (lL (lL r6.lt m5.size) ge4)) nN))
  have r24 := ((r21.ext m8).mod m9 (nC (lE (lL (lL r7.lt m5.size) ge4)) nN))
  exact NE.again ((i + 1), A1, c1, (ys ++ [y1])) (⟨rfl, rfl, rfl, rfl, rfl, rfl, rfl, rfl, trivial⟩) ⟨(by omega), (by rw [zTo_s]; assumption), (by rw [zTo_s]; assumption), (by rw [zTo_s]; exact stR_len l1 _), (by rw [zTo_s]; exact endL_len l2), (by exact fun j => Nat.le_trans (Nat.le_of_eq (pipeAt_lens j _).1) (hdz.small.1 j)), (by exact fun j => Nat.le_trans (Nat.le_of_eq (pipeAt_lens j _).2) (hdz.small.2 j)), (by rw [zTo_s]; assumption), (by rw [zTo_s]; assumption), (by simp [hly]), (by exact W32.snoc hwy (by assumption)), (by exact oTo_snoc hcy rfl (by with_reducible assumption)), (Row.congr ((r19.ext m8).mod m9 (nC (lE (lL (lL r1.lt sz2) ge4)) nN)) (by rw [zTo_s]; rfl)), (Row.congr r23 (by rw [zTo_s]; rfl)), (Row.congr r24 (by rw [zTo_s]; rfl)), (Own.congr ow2 (fl_snoc _ _)), (OF.congr ((fm5.ext m8).mod m9 (fun j hj => (nC (lE (lL (OF.lt fm1 (lQ (lQ hj (stR_len l1 _)) h4.symm)) (lT m5.size ge4))) nN))) (by rw [zTo_s]; rfl)), (OF.congr ((fm6.ext m8).mod m9 (fun j hj => (nC (lE (lL (OF.lt fm2 (lQ (lQ hj (endL_len l2)) h5.symm)) (lT m5.size ge4))) nN))) (by rw [zTo_s]; rfl)), (((m6.then m7 ((aC (.inl (by simp)) (aC (.inl (by simp)) (aC (.inl (by simp)) (aI (fun x hx => by simp only [List.mem_cons, List.mem_append, hx, true_or, or_true]) (aI (fun x hx => by simp only [List.mem_cons, List.mem_append, hx, true_or, or_true]) aN))))))).nt m8).then m9 ((aC (.inr ge4) aN)))⟩ (by first | (dsimp only; omega) | omega)
 ·have hp1 := of_decide_eq_false hb1
  refine CE.cond_f rfl hb1 ?_
  refine CE.exit' (XE.exit_then (XE.exit_then (XE.exit_here (NE.code (CE.seq (CE.region ?_))))))
  refine WD (op_loadA (i := 0) (cs := [vS bR'1 0 nR cR'1, vS bL'1 0 nR cL'1, vS bS'1 0 nS cS'1, vI 1, vF kc0, vF kc1, vF 0, vF ((zTo nR nS xS kc0 kc1 op lo re sl z ss i).s0), vF ((zTo nR nS xS kc0 kc1 op lo re sl z ss i).s1), .bool op, vF lo, vF re, vF sl]) rfl Try.isAgg33 Try.sizeOf33 r14.rng rfl rfl rfl) rfl ?_
  refine WD (op_move rfl) rfl ?_
  have r25 := ((((r2.ext m3).ext m4).mod m5 (nC (lG (lL r1.lt lR)) nN)).mod m6 (nC (lG (lL r1.lt lR)) (nC (lE (lL (lL r2.lt m3.size) ge1)) (nC (lE (lL (lL r2.lt m3.size) ge2)) (nA h1 (fun j hj => (lG (lL (lL r2.lt m3.size) (fm3.ge j (lQ hj l1.symm))))) (nA h2 (fun j hj => (lG (lL (lL r2.lt m3.size) (fm4.ge j (lQ hj l2.symm))))) nN))))))
  refine WL.op0 (op_store (i := 0) (cs := [vS bR'1 0 nR cR'1, vS bL'1 0 nR cL'1, vS bS'1 0 nS cS'1, vI 1, vF kc0, vF kc1, vF 0, vF ((zTo nR nS xS kc0 kc1 op lo re sl z ss i).s0), vF ((zTo nR nS xS kc0 kc1 op lo re sl z ss i).s1), .bool op, vF lo, vF re, vF sl]) rfl rfl rfl Try.sizeOf33 rfl r25 rfl (lB rfl) rfl) rfl rfl ?_
  rintro _ w10 ⟨r26, m10, z5⟩
  have r27 : Row w10 w1.heap.size 0 [vS bR'1 0 nR cR'1, vS bL'1 0 nR cL'1, vS bS'1 0 nS cS'1, vI 1, vF kc0, vF kc1, vF 0, vF ((zTo nR nS xS kc0 kc1 op lo re sl z ss i).s0), vF ((zTo nR nS xS kc0 kc1 op lo re sl z ss i).s1), .bool op, vF lo, vF re, vF sl] := Row.congr r26 rfl
  iterate 2 refine WD (op_assign rfl) rfl ?_
  refine WL.end (NE.code (CE.ret' ?_))
  have ei : l = i := by omega
  subst ei
  have sz4 := (lT (lT m3.size m4.size) m5.size)
  obtain ⟨b2, hA1, r28, hq1⟩ := Own.out (ow1.mod m10 (altC (lL r2.lt sz4) altN)) (r14.mod m10 (nC (lE (lL r1.lt lR)) nN))
  have sz5 := (lT (lT (lT (lT m1.size m2.size) m3.size) m4.size) m5.size)
  have fq1 : ∀ j, j < nR → (PR.getD j BC.d).b ≠ b2 := (fun j hj => own_ne hq1 (lE (lL (OF.lt FR (lQ hj lDR.symm)) lR)) (lL (OF.lt FR (lQ hj lDR.symm)) sz5))
  have fq2 : ∀ j, j < nR → (PL.getD j BC.d).b ≠ b2 := (fun j hj => own_ne hq1 (lE (lL (OF.lt FL (lQ hj lDL.symm)) lR)) (lL (OF.lt FL (lQ hj lDL.symm)) sz5))
  have fq3 : ∀ j, j < nR → (PR'1.getD j BC.d).b ≠ b2 := (fun j hj => own_ne hq1 (lG (lL (lL r1.lt (lT m2.size m3.size)) (fm3.ge j (lQ hj l1.symm)))) (lL (OF.lt fm1 (lQ hj h4.symm)) m5.size))
  have fq4 : ∀ j, j < nR → (PL'1.getD j BC.d).b ≠ b2 := (fun j hj => own_ne hq1 (lG (lL (lL r1.lt (lT m2.size m3.size)) (fm4.ge j (lQ hj l2.symm)))) (lL (OF.lt fm2 (lQ hj h5.symm)) m5.size))
  refine XE.leaveT Try.results21 (res_agg (cs := [vS bR'1 0 nR cR'1, vS bL'1 0 nR cL'1, vS bS'1 0 nS cS'1, vI 1, vF kc0, vF kc1, vF 0, vF ((zTo nR nS xS kc0 kc1 op lo re sl z ss l).s0), vF ((zTo nR nS xS kc0 kc1 op lo re sl z ss l).s1), .bool op, vF lo, vF re, vF sl]) rfl Try.isAgg33 Try.sizeOf33 r27.rng rfl (res_tmp rfl (res_tmp rfl res_nil))) ?_
  have r29 := (((r8.mod m5 (nC (lG (lL (lL r1.lt (lT m2.size m3.size)) ge3)) nN)).mod m6 (nC (lG (lL (lL r1.lt (lT m2.size m3.size)) ge3)) (nC (Ne.symm ne2) (nC (Ne.symm ne3) (nA h1 (fun j hj => (fn3 j hj)) (nA h2 (fun j hj => (fn7 j hj)) nN)))))).mod m10 (nC (lG (lL (lL r2.lt m3.size) ge3)) nN))
  have sz6 := (lT (lT m1.size m2.size) m3.size)
  refine ⟨bR'1, cR'1, PR'1, bL'1, cL'1, PL'1, bS'1, cS'1, (zTo nR nS xS kc0 kc1 op lo re sl z ss l), b2, cc, A, ys, ?_, h1, h2, ?_, ?_, ?_, ?_, hA1, ?_, ?_, ?_, (r15.mod m10 (nC (lG (lL (lL r2.lt m3.size) ge1)) nN)), (r16.mod m10 (nC (lG (lL (lL r2.lt m3.size) ge2)) nN)), r29, r28, (lT sz6 ge1), (lT sz6 ge2), (lT sz6 ge3), (own_ge hq1 lR sz5), ne1, ne2, ne3, (own_ne hq1 (lG (lL (lL r1.lt (lT m2.size m3.size)) ge1)) (lL r6.lt m5.size)), (own_ne hq1 (lG (lL (lL r1.lt (lT m2.size m3.size)) ge2)) (lL r7.lt m5.size)), (own_ne hq1 (lG (lL (lL r1.lt (lT m2.size m3.size)) ge3)) (lL r8.lt m5.size)), (OF.low (fm3.mod m10 (fun j hj => (nC (lG (lL (lL r2.lt m3.size) (fm3.ge j (lQ (lQ hj l1) l1.symm)))) nN))) sz6), (fun j hj => (fn1 j (show j < nR by omega))), (fun j hj => (fn2 j (show j < nR by omega))), (fun j hj => (fn3 j (show j < nR by omega))), (fun j q hj hq => (fn4 j q (show j < nR by omega) (show q < nR by omega))), (fun j hj => (fq3 j (show j < nR by omega))), (OF.low (fm4.mod m10 (fun j hj => (nC (lG (lL (lL r2.lt m3.size) (fm4.ge j (lQ (lQ hj l2) l2.symm)))) nN))) sz6), (fun j hj => (fn5 j (show j < nR by omega))), (fun j hj => (fn6 j (show j < nR by omega))), (fun j hj => (fn7 j (show j < nR by omega))), (fun j hj => (fq4 j (show j < nR by omega))), ((((((((Mod.refl [] w).nt m1).nt m2).nt m3).nt m4).then m5 ((aC (.inr lR) aN))).then m6 ((aC (.inr lR) (aC (.inr (lT sz6 ge1)) (aC (.inr (lT sz6 ge2)) (aA h1 (fun j hj => (lT sz6 (fm3.ge j (lQ hj l1.symm)))) (aA h2 (fun j hj => (lT sz6 (fm4.ge j (lQ hj l2.symm)))) aN))))))).then m10 ((aC (.inr (lT m1.size lR)) aN)))⟩
  all_goals first | assumption | rfl

theorem c_sPlayZ (nR : Nat) (nS : Nat) (xS : List Nat) (kc0 : Nat) (kc1 : Nat) (op : Bool) (lo : Nat) (re : Nat) (sl : Nat) (z : PipeSt) (cR : Nat) (bR : Nat) (PR : List BC) (loR : Nat) (cL : Nat) (bL : Nat) (PL : List BC) (loL : Nat) (cS : Nat) (bS : Nat) (l : Nat) (cl : Nat) (Al : Option Addr) (bl : Nat) (ol : Nat) (ss : List Nat) (hdz : DPz nR nS xS kc0 kc1 lo re sl z 57) (lDR : z.R.length = nR) (lDL : z.L.length = nR) (lPR : PR.length = nR) (lPL : PL.length = nR) (lnS : xS.length = nS) (ls : ss.length = l) (hAl : 0 < l → Al = some ⟨bl, ol, none⟩) (wl : W32 ss) (hll : l ≤ 16) (w : World) (rR : Rng w bR 0 (olc z.R PR)) (rL : Rng w bL 0 (olc z.L PL)) (rS : Rng w bS 0 (fl xS)) (rl : Rng w bl ol (fl ss))  (FR : OF loR w z.R PR) (FL : OF loL w z.L PL) : Cl Try.prog 17 #[.agg #[vS bR 0 nR cR, vS bL 0 nR cL, vS bS 0 nS cS, vI 1, vF kc0, vF kc1, vF 0, vF (z.s0), vF (z.s1), .bool op, vF lo, vF re, vF sl], .slice Al l cl] w fun v w' => ∃ (bR' : Nat) (cR' : Nat) (PR' : List BC) (bL' : Nat) (cL' : Nat) (PL' : List BC) (bS' : Nat) (cS' : Nat) (zz : PipeSt) (e' : Nat) (c3' : Nat) (A' : Option Addr) (ys : List Nat), v = .tuple #[.agg #[vS bR' 0 nR cR', vS bL' 0 nR cL', vS bS' 0 nS cS', vI 1, vF kc0, vF kc1, vF 0, vF (zz.s0), vF (zz.s1), .bool op, vF lo, vF re, vF sl], .slice A' l c3', vI 0] ∧ (PR'.length = nR) ∧ (PL'.length = nR) ∧ (zz = zTo nR nS xS kc0 kc1 op lo re sl z ss l) ∧ (zz.R.length = nR) ∧ (zz.L.length = nR) ∧ (xS.length = nS) ∧ (0 < l → A' = some ⟨e', 0, none⟩) ∧ (ys.length = l) ∧ (W32 ys) ∧ (Cn ys (oTo nR nS xS kc0 kc1 op lo re sl z ss l)) ∧ Row w' bR' 0 (olc zz.R PR') ∧ Row w' bL' 0 (olc zz.L PL') ∧ Row w' bS' 0 (fl xS) ∧ Row w' e' 0 (fl ys) ∧ w.heap.size ≤ bR' ∧ w.heap.size ≤ bL' ∧ w.heap.size ≤ bS' ∧ w.heap.size ≤ e' ∧ bR' ≠ bL' ∧ bR' ≠ bS' ∧ bL' ≠ bS' ∧ bR' ≠ e' ∧ bL' ≠ e' ∧ bS' ≠ e' ∧ OF w.heap.size w' zz.R PR' ∧ (∀ i, i < nR → (PR'.getD i BC.d).b ≠ bR') ∧ (∀ i, i < nR → (PR'.getD i BC.d).b ≠ bL') ∧ (∀ i, i < nR → (PR'.getD i BC.d).b ≠ bS') ∧ (∀ i j, i < nR → j < nR → (PR'.getD i BC.d).b ≠ (PL'.getD j BC.d).b) ∧ (∀ i, i < nR → (PR'.getD i BC.d).b ≠ e') ∧ OF w.heap.size w' zz.L PL' ∧ (∀ i, i < nR → (PL'.getD i BC.d).b ≠ bR') ∧ (∀ i, i < nR → (PL'.getD i BC.d).b ≠ bL') ∧ (∀ i, i < nR → (PL'.getD i BC.d).b ≠ bS') ∧ (∀ i, i < nR → (PL'.getD i BC.d).b ≠ e') ∧ Mod [] w w' := by
 have hnA := hdz.n1
 have hnB := hdz.n3
 have hnC := hdz.sn
 refine Cl.of Try.func17 Try.ntmps17 rfl rfl (ρ := [(0, .agg #[vS bR 0 nR cR, vS bL 0 nR cL, vS bS 0 nS cS, vI 1, vF kc0, vF kc1, vF 0, vF (z.s0), vF (z.s1), .bool op, vF lo, vF re, vF sl]), (1, .slice Al l cl)]) rfl ?_
 refine CE.seq (CE.region ?_)
 refine WL.op (op_box (cs := [vS bR 0 nR cR, vS bL 0 nR cL, vS bS 0 nS cS, vI 1, vF kc0, vF kc1, vF 0, vF (z.s0), vF (z.s1), .bool op, vF lo, vF re, vF sl]) rfl rfl) rfl rfl (ltb rfl) ?_
 rintro _ w1 ⟨rfl, r1, m1, z1⟩
 refine WL.op (op_alloc (cs := [.slice none 0 0, .slice none 0 0, .slice none 0 0, vI 0, vF 0, vF 0, vF 0, vF 0, vF 0, .bool false, vF 0, vF 0, vF 0]) Try.zeroValue33 rfl) rfl rfl (ltb rfl) ?_
 rintro _ w2 ⟨rfl, r2, m2, z2⟩
 iterate 2 refine WD (op_assign rfl) rfl ?_
 refine WL.end (NE.code (CE.seq (CE.seq (CE.region ?_))))
 refine WL.call (oc_call (vs := [vP w.heap.size 0]) (cap := []) rfl rfl rfl Try.call57 (c_l04OkZ nR nS xS kc0 kc1 op lo re sl z cR bR PR loR cL bL PL loL cS bS w.heap.size (by first | with_reducible assumption | exact DPz.mono (by with_reducible assumption) (by omega) | exact zTo_dz (by with_reducible assumption) (by with_reducible assumption) (by with_reducible first | assumption | exact bd_take (by assumption) _) (by omega)) lDR lDL lPR lPL lnS w2 (r1.ext m2).rng ((rR.ext m1).ext m2) ((rL.ext m1).ext m2) ((rS.ext m1).ext m2) ((FR.ext m1).ext m2) ((FL.ext m1).ext m2))) rfl rfl (ltb rfl) ?_
 rintro _ w3 ⟨rfl, m3⟩
 refine WD (op_not rfl) rfl ?_
 refine WL.end (NE.code ?_)
 refine CE.cond_f rfl rfl ?_
 refine CE.skip' (NE.code (CE.seq (CE.seq (CE.region ?_))))
 refine WD (op_move rfl) rfl ?_
 refine WD (op_len rfl Try.runUnderlying26) rfl ?_
 refine WD (op_gti rfl rfl) rfl ?_
 refine WL.end (NE.code ?_)
 refine CE.cond_f rfl (decide_eq_false (by omega)) ?_
 refine CE.skip' (NE.code (CE.seq (CE.region ?_)))
 have r3 := (((rR.ext m1).ext m2).ext m3)
 have r4 := (((rL.ext m1).ext m2).ext m3)
 have r5 := (((rS.ext m1).ext m2).ext m3)
 refine WL.call (oc_call (vs := [vP w.heap.size 0]) (cap := []) rfl rfl rfl Try.call59 (c_l04CopyZ nR nS xS kc0 kc1 op lo re sl z cR bR PR loR cL bL PL loL cS bS w.heap.size (by first | with_reducible assumption | exact DPz.mono (by with_reducible assumption) (by omega) | exact zTo_dz (by with_reducible assumption) (by with_reducible assumption) (by with_reducible first | assumption | exact bd_take (by assumption) _) (by omega)) lDR lDL lPR lPL lnS w3 ((r1.ext m2).ext m3).rng r3 r4 r5 (((FR.ext m1).ext m2).ext m3) (((FL.ext m1).ext m2).ext m3))) rfl rfl (ltb rfl) ?_
 rintro _ w4 ⟨bR'1, cR'1, PR'1, bL'1, cL'1, PL'1, bS'1, cS'1, rfl, h1, h2, h3, h4, h5, h6, r6, r7, r8, ge1, ge2, ge3, ne1, ne2, ne3, fm1, fn1, fn2, fn3, fn4, fm2, fn5, fn6, fn7, m4⟩
 refine WL.op (op_alloc (cs := [.slice none 0 0, .slice none 0 0, .slice none 0 0, vI 0, vF 0, vF 0, vF 0, vF 0, vF 0, .bool false, vF 0, vF 0, vF 0]) Try.zeroValue33 rfl) rfl rfl (ltb rfl) ?_
 rintro _ w5 ⟨rfl, r9, m5, z3⟩
 refine WL.op0 (op_store (i := 0) (cs := [vS bR'1 0 nR cR'1, vS bL'1 0 nR cL'1, vS bS'1 0 nS cS'1, vI 1, vF kc0, vF kc1, vF 0, vF (z.s0), vF (z.s1), .bool op, vF lo, vF re, vF sl]) rfl rfl rfl Try.sizeOf33 rfl r9 rfl (lB rfl) rfl) rfl rfl ?_
 rintro _ w6 ⟨r10, m6, z4⟩
 have r11 : Row w6 w4.heap.size 0 [vS bR'1 0 nR cR'1, vS bL'1 0 nR cL'1, vS bS'1 0 nS cS'1, vI 1, vF kc0, vF kc1, vF 0, vF (z.s0), vF (z.s1), .bool op, vF lo, vF re, vF sl] := Row.congr r10 rfl
 refine WL.end (NE.code (CE.seq (CE.region ?_)))
 refine WL.op (op_emptySl rfl Try.runUnderlying26 Try.sizeOf27) rfl rfl (ltb rfl) ?_
 rintro _ w7 ⟨rfl, r12, m7, z5⟩
 refine WD (op_assign rfl) rfl ?_
 refine WL.end (NE.code (CE.seq (CE.seq (CE.region ?_))))
 refine WD (op_assign rfl) rfl ?_
 refine WL.end (NE.code (CE.block ?_))
 have r13 := (((r6.ext m5).mod m6 (nC (lE (lL r6.lt lR)) nN)).ext m7)
 have r14 := (((r7.ext m5).mod m6 (nC (lE (lL r7.lt lR)) nN)).ext m7)
 refine CE.loop (fun (z9 : Nat × Option Addr × Nat × List Nat) => [(9, vI ((z9.1 : Nat) : Int)), (8, .slice z9.2.1 z9.1 z9.2.2.1), (1, .slice Al l cl), (4, vP w1.heap.size 0), (5, .slice none 0 0), (6, vI 0), (7, vP w4.heap.size 0)]) (fun (z9 : Nat × Option Addr × Nat × List Nat) => fun W => (z9.1 ≤ l) ∧ (GoodD (zTo nR nS xS kc0 kc1 op lo re sl z ss z9.1).R nR) ∧ (GoodD (zTo nR nS xS kc0 kc1 op lo re sl z ss z9.1).L nR) ∧ ((zTo nR nS xS kc0 kc1 op lo re sl z ss z9.1).R.length = nR) ∧ ((zTo nR nS xS kc0 kc1 op lo re sl z ss z9.1).L.length = nR) ∧ (∀ j, ((zTo nR nS xS kc0 kc1 op lo re sl z ss z9.1).R.getD j RD.d).xs.length ≤ 1048576) ∧ (∀ j, ((zTo nR nS xS kc0 kc1 op lo re sl z ss z9.1).L.getD j RD.d).xs.length ≤ 1048576) ∧ ((zTo nR nS xS kc0 kc1 op lo re sl z ss z9.1).s0 < wid .f32) ∧ ((zTo nR nS xS kc0 kc1 op lo re sl z ss z9.1).s1 < wid .f32) ∧ (z9.2.2.2.length = z9.1) ∧ (W32 z9.2.2.2) ∧ (Cn z9.2.2.2 (oTo nR nS xS kc0 kc1 op lo re sl z ss z9.1)) ∧ Row W w4.heap.size 0 [vS bR'1 0 nR cR'1, vS bL'1 0 nR cL'1, vS bS'1 0 nS cS'1, vI 1, vF kc0, vF kc1, vF 0, vF ((zTo nR nS xS kc0 kc1 op lo re sl z ss z9.1).s0), vF ((zTo nR nS xS kc0 kc1 op lo re sl z ss z9.1).s1), .bool op, vF lo, vF re, vF sl] ∧ Row W bR'1 0 (olc ((zTo nR nS xS kc0 kc1 op lo re sl z ss z9.1).R) PR'1) ∧ Row W bL'1 0 (olc ((zTo nR nS xS kc0 kc1 op lo re sl z ss z9.1).L) PL'1) ∧ Own 27 1 w7.heap.size W z9.2.1 z9.1 z9.2.2.1 (fl z9.2.2.2) ∧ OF w3.heap.size W ((zTo nR nS xS kc0 kc1 op lo re sl z ss z9.1).R) PR'1 ∧ OF w3.heap.size W ((zTo nR nS xS kc0 kc1 op lo re sl z ss z9.1).L) PL'1 ∧ Mod (w4.heap.size :: bR'1 :: bL'1 :: (PR'1.map BC.b ++ (PL'1.map BC.b ++ []))) w7 W) (fun (z9 : Nat × Option Addr × Nat × List Nat) => l - z9.1) (0, (some ⟨w6.heap.size, 0, none⟩), 0, []) (⟨rfl, rfl, rfl, rfl, rfl, rfl, rfl, trivial⟩) ⟨(by omega), (by rw [zTo_z]; exact hdz.gR), (by rw [zTo_z]; exact hdz.gL), (by rw [zTo_z]; exact lDR), (by rw [zTo_z]; exact lDL), (by exact fun j => Nat.le_trans (Nat.le_of_eq (pipeAt_lens j _).1) (hdz.small.1 j)), (by exact fun j => Nat.le_trans (Nat.le_of_eq (pipeAt_lens j _).2) (hdz.small.2 j)), (by rw [zTo_z]; exact hdz.w0), (by rw [zTo_z]; exact hdz.b1), (by rfl), (by exact W32.nil), (by exact Cn.refl _), (Row.congr (r11.ext m7) (by rw [zTo_z])), (Row.congr r13 (by rw [zTo_z])), (Row.congr r14 (by rw [zTo_z])), (Own.congr Own.emp (rfl)), (OF.congr (((fm1.ext m5).mod m6 (fun j hj => (nC (lE (lL (OF.lt fm1 (lQ (lQ hj h4) h4.symm)) lR)) nN))).ext m7) (by rw [zTo_z])), (OF.congr (((fm2.ext m5).mod m6 (fun j hj => (nC (lE (lL (OF.lt fm2 (lQ (lQ hj h5) h5.symm)) lR)) nN))).ext m7) (by rw [zTo_z])), Mod.refl _ _⟩ ?_
 rintro ⟨i, A, cc, ys⟩ w8 ⟨hi, g1, g2, l1, l2, z1, z2, b0, b1, hly, hwy, hcy, r15, r16, r17, ow1, fm3, fm4, m8⟩
 replace hi : i ≤ l := hi
 replace g1 : GoodD (zTo nR nS xS kc0 kc1 op lo re sl z ss i).R nR := g1
 replace g2 : GoodD (zTo nR nS xS kc0 kc1 op lo re sl z ss i).L nR := g2
 replace l1 : (zTo nR nS xS kc0 kc1 op lo re sl z ss i).R.length = nR := l1
 replace l2 : (zTo nR nS xS kc0 kc1 op lo re sl z ss i).L.length = nR := l2
 replace z1 : ∀ j, ((zTo nR nS xS kc0 kc1 op lo re sl z ss i).R.getD j RD.d).xs.length ≤ 1048576 := z1
 replace z2 : ∀ j, ((zTo nR nS xS kc0 kc1 op lo re sl z ss i).L.getD j RD.d).xs.length ≤ 1048576 := z2
 replace b0 : (zTo nR nS xS kc0 kc1 op lo re sl z ss i).s0 < wid .f32 := b0
 replace b1 : (zTo nR nS xS kc0 kc1 op lo re sl z ss i).s1 < wid .f32 := b1
 replace hly : ys.length = i := hly
 replace hwy : W32 ys := hwy
 replace hcy : Cn ys (oTo nR nS xS kc0 kc1 op lo re sl z ss i) := hcy
 replace r15 : Row w8 w4.heap.size 0 [vS bR'1 0 nR cR'1, vS bL'1 0 nR cL'1, vS bS'1 0 nS cS'1, vI 1, vF kc0, vF kc1, vF 0, vF ((zTo nR nS xS kc0 kc1 op lo re sl z ss i).s0), vF ((zTo nR nS xS kc0 kc1 op lo re sl z ss i).s1), .bool op, vF lo, vF re, vF sl] := r15
 replace r16 : Row w8 bR'1 0 (olc ((zTo nR nS xS kc0 kc1 op lo re sl z ss i).R) PR'1) := r16
 replace r17 : Row w8 bL'1 0 (olc ((zTo nR nS xS kc0 kc1 op lo re sl z ss i).L) PL'1) := r17
 replace ow1 : Own 27 1 w7.heap.size w8 A i cc (fl ys) := ow1
 replace fm3 : OF w3.heap.size w8 ((zTo nR nS xS kc0 kc1 op lo re sl z ss i).R) PR'1 := fm3
 replace fm4 : OF w3.heap.size w8 ((zTo nR nS xS kc0 kc1 op lo re sl z ss i).L) PL'1 := fm4
 show CE _ _ _ _ [(9, vI ((i : Nat) : Int)), (8, .slice A i cc), (1, .slice Al l cl), (4, vP w1.heap.size 0), (5, .slice none 0 0), (6, vI 0), (7, vP w4.heap.size 0)] _
 refine CE.seq (CE.seq (CE.region ?_))
 iterate 2 refine WD (op_move rfl) rfl ?_
 refine WD (op_len rfl Try.runUnderlying26) rfl ?_
 refine WD (op_lti rfl rfl) rfl ?_
 refine WL.end (NE.code ?_)
 rcases Bool.eq_false_or_eq_true (decide (((i : Nat) : Int) < ((l : Nat) : Int))) with hb1 | hb1
 ·have hp1 := of_decide_eq_true hb1
  refine CE.cond_t rfl hb1 ?_
  refine CE.skip' (NE.code (CE.seq (CE.block (CE.region ?_))))
  iterate 3 refine WD (op_move rfl) rfl ?_
  refine WD (op_indexSl (off' := ol + i) rfl (hAl (by omega)) rfl Try.runUnderlying26 Try.sizeOf27 (by omega) (by omega) (by omega)) rfl ?_
  have sz1 := (lT (lT (lT m1.size m2.size) m3.size) m4.size)
  have sz2 := (lT (lT m1.size m2.size) m3.size)
  have r18 := (Rng.youngS rl ((Rng.youngS rl (((((rl.ext m1).ext m2).ext m3).ext m4).ext m5) m6 (allge_cons (lT sz1 lR) allge_nil)).ext m7) m8 (allge_cons (lT sz1 lR) (allge_cons (lT sz2 ge1) (allge_cons (lT sz2 ge2) (gA h1 (fun j hj => (lT sz2 (fm3.ge j (lQ hj l1.symm)))) (gA h2 (fun j hj => (lT sz2 (fm4.ge j (lQ hj l2.symm)))) allge_nil))))))
  refine WD (op_load1 (i := i) rfl Try.isAgg27 r18 rfl (fl_get (by have eL : List.length ss = l := ls; omega))) rfl ?_
  have r19 := ((((r8.ext m5).mod m6 (nC (lE (lL r8.lt lR)) nN)).ext m7).mod m8 (nC (lE (lL r8.lt lR)) (nC (Ne.symm ne2) (nC (Ne.symm ne3) (nA h1 (fun j hj => (fn3 j hj)) (nA h2 (fun j hj => (fn7 j hj)) nN))))))
  refine WL.call (oc_call (vs := [vP w4.heap.size 0, vF (ss.getD i 0)]) (cap := []) rfl rfl rfl Try.call60 (c_l04Step nR ((zTo nR nS xS kc0 kc1 op lo re sl z ss i).R) nR ((zTo nR nS xS kc0 kc1 op lo re sl z ss i).L) nS xS cR'1 bR'1 PR'1 w3.heap.size cL'1 bL'1 PL'1 w3.heap.size cS'1 bS'1 (1 : Int) kc0 kc1 0 ((zTo nR nS xS kc0 kc1 op lo re sl z ss i).s0) ((zTo nR nS xS kc0 kc1 op lo re sl z ss i).s1) op lo re sl w4.heap.size (ss.getD i 0) (ss.getD i 0) l1 l2 h6 (by first | assumption | exact rd_small (by assumption) (by assumption) | exact markD_small (by first | assumption | exact rd_small (by assumption) (by assumption)) _) (by first | assumption | exact rd_small (by assumption) (by assumption) | exact markD_small (by first | assumption | exact rd_small (by assumption) (by assumption)) _) h1 h2 (by first | assumption | omega) (by first | assumption | omega) (by first | assumption | omega) (by first | assumption | omega) (by assumption) (by assumption) b0 b1 rfl (wl.get _) w8 r15 r16 r17 r19.rng (lG (lL r6.lt lR)) (lG (lL r7.lt lR)) (lG (lL r8.lt lR)) ne1 ne2 ne3 fm3 (fun j hj => (lE (lL (OF.lt fm1 (lQ hj h4.symm)) lR))) (fun j hj => (fn1 j hj)) (fun j hj => (fn2 j hj)) (fun j hj => (fn3 j hj)) (fun j q hj hq => (fn4 j q hj hq)) fm4 (fun j hj => (lE (lL (OF.lt fm2 (lQ hj h5.symm)) lR))) (fun j hj => (fn5 j hj)) (fun j hj => (fn6 j hj)) (fun j hj => (fn7 j hj)))) rfl rfl (ltb rfl) ?_
  rintro _ w9 ⟨y1, rfl, h7, h8, h9, h10, h11, h12, r20, r21, r22, fm5, fm6, m9⟩
  refine WL.op (op_buildSl (qs := [(0, vF y1)]) (cells := #[vF y1]) rfl Try.runUnderlying26 Try.sizeOf27 Try.zeroValue27 (by decide) (by decide) (by kernel_rfl)) rfl rfl (ltb rfl) ?_
  rintro _ w10 ⟨rfl, r23, m10, z6⟩
  have sz3 := (lT (lT m5.size m6.size) m7.size)
  have sz4 := (lT (lT m8.size m9.size) m10.size)
  refine WL.op (op_app (i := Try.t27) (m := 1) (bt := 4) (news := [vF y1]) rfl rfl Try.underlying26 rfl rfl rfl rfl rfl (by decide) r23.rng rfl rfl ((ow1.mod m9 (altC (lL r9.lt (lT m6.size m7.size)) (altC (lL r6.lt sz3) (altC (lL r7.lt sz3) (tA h1 (fun j hj => lL (OF.lt fm1 (lQ hj h4.symm)) sz3) (tA h2 (fun j hj => lL (OF.lt fm2 (lQ hj h5.symm)) sz3) altN)))))).ext m10) sz4 (by omega) (by decide)) rfl rfl (ltb rfl) ?_
  rintro _ w11 ⟨A1, c1, b1, rfl, ow2, ge4, m11⟩
  refine WD (op_assign rfl) rfl ?_
  refine WL.end (NE.blk (NE.code (CE.region ?_)))
  refine WD (op_move rfl) rfl ?_
  refine WD (op_add (r := ((i + 1 : Nat) : Int)) rfl rfl (w_i64 (by omega) (by omega))) rfl ?_
  refine WD (op_assign rfl) rfl ?_
  refine WL.end ?_
  have r24 := ((r20.ext m10).mod m11 (nC (lE (lL (lL r9.lt (lT m6.size m7.size)) ge4)) nN))
  exact NE.again ((i + 1), A1, c1, (ys ++ [y1])) (⟨rfl, rfl, rfl, rfl, rfl, rfl, rfl, trivial⟩) ⟨(by omega), (by rw [zTo_s]; assumption), (by rw [zTo_s]; assumption), (by rw [zTo_s]; exact stR_len l1 _), (by rw [zTo_s]; exact endL_len l2), (by exact fun j => Nat.le_trans (Nat.le_of_eq (pipeAt_lens j _).1) (hdz.small.1 j)), (by exact fun j => Nat.le_trans (Nat.le_of_eq (pipeAt_lens j _).2) (hdz.small.2 j)), (by rw [zTo_s]; assumption), (by rw [zTo_s]; assumption), (by simp [hly]), (by exact W32.snoc hwy (by assumption)), (by exact oTo_snoc hcy rfl (by with_reducible assumption)), (Row.congr r24 (by rw [zTo_s]; rfl)), (Row.congr ((r21.ext m10).mod m11 (nC (lE (lL (lL r6.lt sz3) ge4)) nN)) (by rw [zTo_s]; rfl)), (Row.congr ((r22.ext m10).mod m11 (nC (lE (lL (lL r7.lt sz3) ge4)) nN)) (by rw [zTo_s]; rfl)), (Own.congr ow2 (fl_snoc _ _)), (OF.congr ((fm5.ext m10).mod m11 (fun j hj => (nC (lE (lL (OF.lt fm1 (lQ (lQ hj (stR_len l1 _)) h4.symm)) (lT sz3 ge4))) nN))) (by rw [zTo_s]; rfl)), (OF.congr ((fm6.ext m10).mod m11 (fun j hj => (nC (lE (lL (OF.lt fm2 (lQ (lQ hj (endL_len l2)) h5.symm)) (lT sz3 ge4))) nN))) (by rw [zTo_s]; rfl)), (((m8.then m9 ((aC (.inl (by simp)) (aC (.inl (by simp)) (aC (.inl (by simp)) (aI (fun x hx => by simp only [List.mem_cons, List.mem_append, hx, true_or, or_true]) (aI (fun x hx => by simp only [List.mem_cons, List.mem_append, hx, true_or, or_true]) aN))))))).nt m10).then m11 ((aC (.inr ge4) aN)))⟩ (by first | (dsimp only; omega) | omega)
 ·have hp1 := of_decide_eq_false hb1
  refine CE.cond_f rfl hb1 ?_
  refine CE.exit' (XE.exit_then (XE.exit_then (XE.exit_here (NE.code (CE.seq (CE.region ?_))))))
  refine WD (op_loadA (i := 0) (cs := [vS bR'1 0 nR cR'1, vS bL'1 0 nR cL'1, vS bS'1 0 nS cS'1, vI 1, vF kc0, vF kc1, vF 0, vF ((zTo nR nS xS kc0 kc1 op lo re sl z ss i).s0), vF ((zTo nR nS xS kc0 kc1 op lo re sl z ss i).s1), .bool op, vF lo, vF re, vF sl]) rfl Try.isAgg33 Try.sizeOf33 r15.rng rfl rfl rfl) rfl ?_
  refine WD (op_move rfl) rfl ?_
  have r25 := ((((((r2.ext m3).ext m4).ext m5).mod m6 (nC (lE (lL (lL r2.lt (lT m3.size m4.size)) lR)) nN)).ext m7).mod m8 (nC (lE (lL (lL r2.lt (lT m3.size m4.size)) lR)) (nC (lE (lL (lL r2.lt m3.size) ge1)) (nC (lE (lL (lL r2.lt m3.size) ge2)) (nA h1 (fun j hj => (lG (lL (lL r2.lt m3.size) (fm3.ge j (lQ hj l1.symm))))) (nA h2 (fun j hj => (lG (lL (lL r2.lt m3.size) (fm4.ge j (lQ hj l2.symm))))) nN))))))
  refine WL.op0 (op_store (i := 0) (cs := [vS bR'1 0 nR cR'1, vS bL'1 0 nR cL'1, vS bS'1 0 nS cS'1, vI 1, vF kc0, vF kc1, vF 0, vF ((zTo nR nS xS kc0 kc1 op lo re sl z ss i).s0), vF ((zTo nR nS xS kc0 kc1 op lo re sl z ss i).s1), .bool op, vF lo, vF re, vF sl]) rfl rfl rfl Try.sizeOf33 rfl r25 rfl (lB rfl) rfl) rfl rfl ?_
  rintro _ w12 ⟨r26, m12, z7⟩
  have r27 : Row w12 w1.heap.size 0 [vS bR'1 0 nR cR'1, vS bL'1 0 nR cL'1, vS bS'1 0 nS cS'1, vI 1, vF kc0, vF kc1, vF 0, vF ((zTo nR nS xS kc0 kc1 op lo re sl z ss i).s0), vF ((zTo nR nS xS kc0 kc1 op lo re sl z ss i).s1), .bool op, vF lo, vF re, vF sl] := Row.congr r26 rfl
  iterate 2 refine WD (op_assign rfl) rfl ?_
  refine WL.end (NE.code (CE.ret' ?_))
  have ei : l = i := by omega
  subst ei
  have r29 := (r15.mod m12 (nC (lG (lL (lL r2.lt (lT m3.size m4.size)) lR)) nN))
  have sz5 := (lT (lT (lT (lT m3.size m4.size) m5.size) m6.size) m7.size)
  obtain ⟨b2, hA1, r28, hq1⟩ := Own.out (ow1.mod m12 (altC (lL r2.lt sz5) altN)) r29
  have sz6 := (lT (lT (lT m1.size m2.size) m3.size) m4.size)
  have sz7 := (lT (lT (lT sz6 m5.size) m6.size) m7.size)
  have sz8 := (lT (lT m2.size m3.size) m4.size)
  have sz9 := (lT (lT (lT sz8 m5.size) m6.size) m7.size)
  have sz10 := (lT (lT m5.size m6.size) m7.size)
  have fq1 : ∀ j, j < nR → (PR.getD j BC.d).b ≠ b2 := (fun j hj => own_ne hq1 (lE (lL (OF.lt FR (lQ hj lDR.symm)) (lT sz6 lR))) (lL (OF.lt FR (lQ hj lDR.symm)) sz7))
  have fq2 : ∀ j, j < nR → (PL.getD j BC.d).b ≠ b2 := (fun j hj => own_ne hq1 (lE (lL (OF.lt FL (lQ hj lDL.symm)) (lT sz6 lR))) (lL (OF.lt FL (lQ hj lDL.symm)) sz7))
  have fq3 : ∀ j, j < nR → (PR'1.getD j BC.d).b ≠ b2 := (fun j hj => own_ne hq1 (lE (lL (OF.lt fm1 (lQ hj h4.symm)) lR)) (lL (OF.lt fm1 (lQ hj h4.symm)) sz10))
  have fq4 : ∀ j, j < nR → (PL'1.getD j BC.d).b ≠ b2 := (fun j hj => own_ne hq1 (lE (lL (OF.lt fm2 (lQ hj h5.symm)) lR)) (lL (OF.lt fm2 (lQ hj h5.symm)) sz10))
  refine XE.leaveT Try.results17 (res_agg (cs := [vS bR'1 0 nR cR'1, vS bL'1 0 nR cL'1, vS bS'1 0 nS cS'1, vI 1, vF kc0, vF kc1, vF 0, vF ((zTo nR nS xS kc0 kc1 op lo re sl z ss l).s0), vF ((zTo nR nS xS kc0 kc1 op lo re sl z ss l).s1), .bool op, vF lo, vF re, vF sl]) rfl Try.isAgg33 Try.sizeOf33 r27.rng rfl (res_tmp rfl (res_tmp rfl res_nil))) ?_
  have r30 := (((((r8.ext m5).mod m6 (nC (lE (lL r8.lt lR)) nN)).ext m7).mod m8 (nC (lE (lL r8.lt lR)) (nC (Ne.symm ne2) (nC (Ne.symm ne3) (nA h1 (fun j hj => (fn3 j hj)) (nA h2 (fun j hj => (fn7 j hj)) nN)))))).mod m12 (nC (lG (lL (lL r2.lt m3.size) ge3)) nN))
  have sz11 := (lT (lT m1.size m2.size) m3.size)
  refine ⟨bR'1, cR'1, PR'1, bL'1, cL'1, PL'1, bS'1, cS'1, (zTo nR nS xS kc0 kc1 op lo re sl z ss l), b2, cc, A, ys, ?_, h1, h2, ?_, ?_, ?_, ?_, hA1, ?_, ?_, ?_, (r16.mod m12 (nC (lG (lL (lL r2.lt m3.size) ge1)) nN)), (r17.mod m12 (nC (lG (lL (lL r2.lt m3.size) ge2)) nN)), r30, r28, (lT sz11 ge1), (lT sz11 ge2), (lT sz11 ge3), (own_ge hq1 (lT sz6 lR) sz7), ne1, ne2, ne3, (own_ne hq1 (lE (lL r6.lt lR)) (lL r6.lt sz10)), (own_ne hq1 (lE (lL r7.lt lR)) (lL r7.lt sz10)), (own_ne hq1 (lE (lL r8.lt lR)) (lL r8.lt sz10)), (OF.low (fm3.mod m12 (fun j hj => (nC (lG (lL (lL r2.lt m3.size) (fm3.ge j (lQ (lQ hj l1) l1.symm)))) nN))) sz11), (fun j hj => (fn1 j (show j < nR by omega))), (fun j hj => (fn2 j (show j < nR by omega))), (fun j hj => (fn3 j (show j < nR by omega))), (fun j q hj hq => (fn4 j q (show j < nR by omega) (show q < nR by omega))), (fun j hj => (fq3 j (show j < nR by omega))), (OF.low (fm4.mod m12 (fun j hj => (nC (lG (lL (lL r2.lt m3.size) (fm4.ge j (lQ (lQ hj l2) l2.symm)))) nN))) sz11), (fun j hj => (fn5 j (show j < nR by omega))), (fun j hj => (fn6 j (show j < nR by omega))), (fun j hj => (fn7 j (show j < nR by omega))), (fun j hj => (fq4 j (show j < nR by omega))), ((((((((((Mod.refl [] w).nt m1).nt m2).nt m3).nt m4).nt m5).then m6 ((aC (.inr (lT sz6 lR)) aN))).nt m7).then m8 ((aC (.inr (lT sz6 lR)) (aC (.inr (lT sz11 ge1)) (aC (.inr (lT sz11 ge2)) (aA h1 (fun j hj => (lT sz11 (fm3.ge j (lQ hj l1.symm)))) (aA h2 (fun j hj => (lT sz11 (fm4.ge j (lQ hj l2.symm)))) aN))))))).then m12 ((aC (.inr (lT m1.size lR)) aN)))⟩
  all_goals first | assumption | rfl

theorem c_iStepZ (nR : Nat) (nS : Nat) (xS : List Nat) (kc0 : Nat) (kc1 : Nat) (op : Bool) (lo : Nat) (re : Nat) (sl : Nat) (z : PipeSt) (cR : Nat) (bR : Nat) (PR : List BC) (loR : Nat) (cL : Nat) (bL : Nat) (PL : List BC) (loL : Nat) (cS : Nat) (bS : Nat) (a : Nat) (hdz : DPz nR nS xS kc0 kc1 lo re sl z 57) (lDR : z.R.length = nR) (lDL : z.L.length = nR) (lPR : PR.length = nR) (lPL : PL.length = nR) (lnS : xS.length = nS) (la : a < wid .f32) (w : World) (rR : Rng w bR 0 (olc z.R PR)) (rL : Rng w bL 0 (olc z.L PL)) (rS : Rng w bS 0 (fl xS))  (FR : OF loR w z.R PR) (FL : OF loL w z.L PL) : Cl Try.prog 46 #[.agg #[vS bR 0 nR cR, vS bL 0 nR cL, vS bS 0 nS cS, vI 1, vF kc0, vF kc1, vF 0, vF (z.s0), vF (z.s1), .bool op, vF lo, vF re, vF sl], vF a] w fun v w' => ∃ (bR' : Nat) (cR' : Nat) (PR' : List BC) (bL' : Nat) (cL' : Nat) (PL' : List BC) (bS' : Nat) (cS' : Nat) (zz : PipeSt) (y : Nat), v = .tuple #[.agg #[vS bR' 0 nR cR', vS bL' 0 nR cL', vS bS' 0 nS cS', vI 1, vF kc0, vF kc1, vF 0, vF (zz.s0), vF (zz.s1), .bool op, vF lo, vF re, vF sl], vF y, vI 0] ∧ (PR'.length = nR) ∧ (PL'.length = nR) ∧ (zz = pipeNext nR nS xS 1 kc0 kc1 0 op lo re sl z a) ∧ (zz.R.length = nR) ∧ (zz.L.length = nR) ∧ (xS.length = nS) ∧ (cn .f32 y = cn .f32 (stepY 1 kc0 kc1 0 z.s0 z.s1 (oldD z.R (nR - 1)))) ∧ (y < wid .f32) ∧ Row w' bR' 0 (olc zz.R PR') ∧ Row w' bL' 0 (olc zz.L PL') ∧ Row w' bS' 0 (fl xS) ∧ w.heap.size ≤ bR' ∧ w.heap.size ≤ bL' ∧ w.heap.size ≤ bS' ∧ bR' ≠ bL' ∧ bR' ≠ bS' ∧ bL' ≠ bS' ∧ OF w.heap.size w' zz.R PR' ∧ (∀ i, i < nR → (PR'.getD i BC.d).b ≠ bR') ∧ (∀ i, i < nR → (PR'.getD i BC.d).b ≠ bL') ∧ (∀ i, i < nR → (PR'.getD i BC.d).b ≠ bS') ∧ (∀ i j, i < nR → j < nR → (PR'.getD i BC.d).b ≠ (PL'.getD j BC.d).b) ∧ OF w.heap.size w' zz.L PL' ∧ (∀ i, i < nR → (PL'.getD i BC.d).b ≠ bR') ∧ (∀ i, i < nR → (PL'.getD i BC.d).b ≠ bL') ∧ (∀ i, i < nR → (PL'.getD i BC.d).b ≠ bS') ∧ Mod [] w w' := by
 have hnA := hdz.n1
 have hnB := hdz.n3
 have hnC := hdz.sn
 have hgR := hdz.gR
 have hgL := hdz.gL
 have hzR := hdz.small.1
 have hzL := hdz.small.2
 refine Cl.of Try.func46 Try.ntmps46 rfl rfl (ρ := [(0, .agg #[vS bR 0 nR cR, vS bL 0 nR cL, vS bS 0 nS cS, vI 1, vF kc0, vF kc1, vF 0, vF (z.s0), vF (z.s1), .bool op, vF lo, vF re, vF sl]), (1, vF a)]) rfl ?_
 refine CE.seq (CE.region ?_)
 refine WL.op (op_box (cs := [vS bR 0 nR cR, vS bL 0 nR cL, vS bS 0 nS cS, vI 1, vF kc0, vF kc1, vF 0, vF (z.s0), vF (z.s1), .bool op, vF lo, vF re, vF sl]) rfl rfl) rfl rfl (ltb rfl) ?_
 rintro _ w1 ⟨rfl, r1, m1, z1⟩
 refine WL.op (op_alloc (cs := [.slice none 0 0, .slice none 0 0, .slice none 0 0, vI 0, vF 0, vF 0, vF 0, vF 0, vF 0, .bool false, vF 0, vF 0, vF 0]) Try.zeroValue33 rfl) rfl rfl (ltb rfl) ?_
 rintro _ w2 ⟨rfl, r2, m2, z2⟩
 iterate 2 refine WD (op_assign rfl) rfl ?_
 refine WL.end (NE.code (CE.seq (CE.seq (CE.region ?_))))
 refine WD (op_loadA (i := 0) (cs := [vS bR 0 nR cR, vS bL 0 nR cL, vS bS 0 nS cS, vI 1, vF kc0, vF kc1, vF 0, vF (z.s0), vF (z.s1), .bool op, vF lo, vF re, vF sl]) rfl Try.isAgg33 Try.sizeOf33 (r1.ext m2).rng rfl rfl rfl) rfl ?_
 refine WL.call (oc_call (vs := [.agg #[vS bR 0 nR cR, vS bL 0 nR cL, vS bS 0 nS cS, vI 1, vF kc0, vF kc1, vF 0, vF (z.s0), vF (z.s1), .bool op, vF lo, vF re, vF sl]]) (cap := []) rfl rfl rfl Try.call44 (c_ValidZ nR nS xS kc0 kc1 op lo re sl z cR bR PR loR cL bL PL loL cS bS (by first | with_reducible assumption | exact DPz.mono (by with_reducible assumption) (by omega) | exact zTo_dz (by with_reducible assumption) (by with_reducible assumption) (by with_reducible first | assumption | exact bd_take (by assumption) _) (by omega)) lDR lDL lPR lPL lnS w2 ((rR.ext m1).ext m2) ((rL.ext m1).ext m2) ((rS.ext m1).ext m2) ((FR.ext m1).ext m2) ((FL.ext m1).ext m2))) rfl rfl (ltb rfl) ?_
 rintro _ w3 ⟨rfl, m3⟩
 refine WD (op_not rfl) rfl ?_
 refine WL.end (NE.code ?_)
 refine CE.cond_f rfl rfl ?_
 refine CE.skip' (NE.code (CE.seq (CE.region ?_)))
 refine WD (op_loadA (i := 0) (cs := [vS bR 0 nR cR, vS bL 0 nR cL, vS bS 0 nS cS, vI 1, vF kc0, vF kc1, vF 0, vF (z.s0), vF (z.s1), .bool op, vF lo, vF re, vF sl]) rfl Try.isAgg33 Try.sizeOf33 ((r1.ext m2).ext m3).rng rfl rfl rfl) rfl ?_
 have r3 := (((rR.ext m1).ext m2).ext m3)
 have r4 := (((rL.ext m1).ext m2).ext m3)
 have r5 := (((rS.ext m1).ext m2).ext m3)
 refine WL.call (oc_call (vs := [.agg #[vS bR 0 nR cR, vS bL 0 nR cL, vS bS 0 nS cS, vI 1, vF kc0, vF kc1, vF 0, vF (z.s0), vF (z.s1), .bool op, vF lo, vF re, vF sl]]) (cap := []) rfl rfl rfl Try.call63 (c_cloneZ nR nS xS kc0 kc1 op lo re sl z cR bR PR loR cL bL PL loL cS bS (by first | with_reducible assumption | exact DPz.mono (by with_reducible assumption) (by omega) | exact zTo_dz (by with_reducible assumption) (by with_reducible assumption) (by with_reducible first | assumption | exact bd_take (by assumption) _) (by omega)) lDR lDL lPR lPL lnS w3 r3 r4 r5 (((FR.ext m1).ext m2).ext m3) (((FL.ext m1).ext m2).ext m3))) rfl rfl (ltb rfl) ?_
 rintro _ w4 ⟨bR'1, cR'1, PR'1, bL'1, cL'1, PL'1, bS'1, cS'1, rfl, h1, h2, h3, h4, h5, h6, r6, r7, r8, ge1, ge2, ge3, ne1, ne2, ne3, fm1, fn1, fn2, fn3, fn4, fm2, fn5, fn6, fn7, m4⟩
 have r9 := (((r1.ext m2).ext m3).ext m4)
 refine WL.op0 (op_store (i := 0) (cs := [vS bR'1 0 nR cR'1, vS bL'1 0 nR cL'1, vS bS'1 0 nS cS'1, vI 1, vF kc0, vF kc1, vF 0, vF (z.s0), vF (z.s1), .bool op, vF lo, vF re, vF sl]) rfl rfl rfl Try.sizeOf33 rfl r9 rfl (lB rfl) rfl) rfl rfl ?_
 rintro _ w5 ⟨r10, m5, z3⟩
 have r11 : Row w5 w.heap.size 0 [vS bR'1 0 nR cR'1, vS bL'1 0 nR cL'1, vS bS'1 0 nS cS'1, vI 1, vF kc0, vF kc1, vF 0, vF (z.s0), vF (z.s1), .bool op, vF lo, vF re, vF sl] := Row.congr r10 rfl
 refine WL.end (NE.code (CE.seq (CE.region ?_)))
 refine WD (op_move rfl) rfl ?_
 have r12 := (r6.mod m5 (nC (lG (lL (lL r1.lt (lT m2.size m3.size)) ge1)) nN))
 have r13 := (r7.mod m5 (nC (lG (lL (lL r1.lt (lT m2.size m3.size)) ge2)) nN))
 have r14 := (r8.mod m5 (nC (lG (lL (lL r1.lt (lT m2.size m3.size)) ge3)) nN))
 refine WL.call (oc_call (vs := [vP w.heap.size 0, vF a]) (cap := []) rfl rfl rfl Try.call69 (c_pipeStep nR z.R nR z.L nS xS cR'1 bR'1 PR'1 w3.heap.size cL'1 bL'1 PL'1 w3.heap.size cS'1 bS'1 (1 : Int) kc0 kc1 0 (z.s0) (z.s1) op lo re sl w.heap.size a a h4 h5 h6 (by first | assumption | exact rd_small (by assumption) (by assumption) | exact markD_small (by first | assumption | exact rd_small (by assumption) (by assumption)) _) (by first | assumption | exact rd_small (by assumption) (by assumption) | exact markD_small (by first | assumption | exact rd_small (by assumption) (by assumption)) _) h1 h2 (by first | assumption | omega) (by first | assumption | omega) (by first | assumption | omega) (by first | assumption | omega) (by assumption) (by assumption) (DPz.w0 (by assumption)) (DPz.b1 (by assumption)) rfl la w5 r11 r12 r13 r14.rng (lE (lL (lL r1.lt (lT m2.size m3.size)) ge1)) (lE (lL (lL r1.lt (lT m2.size m3.size)) ge2)) (lE (lL (lL r1.lt (lT m2.size m3.size)) ge3)) ne1 ne2 ne3 (fm1.mod m5 (fun j hj => (nC (lG (lL (lL r1.lt (lT m2.size m3.size)) (fm1.ge j (lQ (lQ hj h4) h4.symm)))) nN))) (fun j hj => (lG (lL (lL r1.lt (lT m2.size m3.size)) (fm1.ge j (lQ hj h4.symm))))) (fun j hj => (fn1 j hj)) (fun j hj => (fn2 j hj)) (fun j hj => (fn3 j hj)) (fun j q hj hq => (fn4 j q hj hq)) (fm2.mod m5 (fun j hj => (nC (lG (lL (lL r1.lt (lT m2.size m3.size)) (fm2.ge j (lQ (lQ hj h5) h5.symm)))) nN))) (fun j hj => (lG (lL (lL r1.lt (lT m2.size m3.size)) (fm2.ge j (lQ hj h5.symm))))) (fun j hj => (fn5 j hj)) (fun j hj => (fn6 j hj)) (fun j hj => (fn7 j hj)))) rfl rfl (ltb rfl) ?_
 rintro _ w6 ⟨y1, rfl, h7, h8, h9, h10, h11, h12, r15, r16, r17, fm3, fm4, m6⟩
 refine WD (op_assign rfl) rfl ?_
 refine WL.end (NE.code (CE.seq (CE.region ?_)))
 refine WD (op_loadA (i := 0) (cs := [vS bR'1 0 nR cR'1, vS bL'1 0 nR cL'1, vS bS'1 0 nS cS'1, vI 1, vF kc0, vF kc1, vF 0, vF (stepS (1 : Int) kc0 kc1 0 (z.s0) (z.s1) (oldD z.R (nR - 1))), vF (stepT (1 : Int) kc0 kc1 0 (z.s0) (z.s1) (oldD z.R (nR - 1))), .bool op, vF lo, vF re, vF sl]) rfl Try.isAgg33 Try.sizeOf33 r15.rng rfl rfl rfl) rfl ?_
 refine WD (op_move rfl) rfl ?_
 have r18 := ((((r2.ext m3).ext m4).mod m5 (nC (lG (lL r1.lt lR)) nN)).mod m6 (nC (lG (lL r1.lt lR)) (nC (lE (lL (lL r2.lt m3.size) ge1)) (nC (lE (lL (lL r2.lt m3.size) ge2)) (nA h1 (fun j hj => (lG (lL (lL r2.lt m3.size) (fm3.ge j (lQ hj (stR_len h4 _).symm))))) (nA h2 (fun j hj => (lG (lL (lL r2.lt m3.size) (fm4.ge j (lQ hj (endL_len h5).symm))))) nN))))))
 refine WL.op0 (op_store (i := 0) (cs := [vS bR'1 0 nR cR'1, vS bL'1 0 nR cL'1, vS bS'1 0 nS cS'1, vI 1, vF kc0, vF kc1, vF 0, vF (stepS (1 : Int) kc0 kc1 0 (z.s0) (z.s1) (oldD z.R (nR - 1))), vF (stepT (1 : Int) kc0 kc1 0 (z.s0) (z.s1) (oldD z.R (nR - 1))), .bool op, vF lo, vF re, vF sl]) rfl rfl rfl Try.sizeOf33 rfl r18 rfl (lB rfl) rfl) rfl rfl ?_
 rintro _ w7 ⟨r19, m7, z4⟩
 have r20 : Row w7 w1.heap.size 0 [vS bR'1 0 nR cR'1, vS bL'1 0 nR cL'1, vS bS'1 0 nS cS'1, vI 1, vF kc0, vF kc1, vF 0, vF (stepS (1 : Int) kc0 kc1 0 (z.s0) (z.s1) (oldD z.R (nR - 1))), vF (stepT (1 : Int) kc0 kc1 0 (z.s0) (z.s1) (oldD z.R (nR - 1))), .bool op, vF lo, vF re, vF sl] := Row.congr r19 rfl
 iterate 2 refine WD (op_assign rfl) rfl ?_
 refine WL.end (NE.code (CE.ret' ?_))
 refine XE.leaveT Try.results46 (res_agg (cs := [vS bR'1 0 nR cR'1, vS bL'1 0 nR cL'1, vS bS'1 0 nS cS'1, vI 1, vF kc0, vF kc1, vF 0, vF (stepS (1 : Int) kc0 kc1 0 (z.s0) (z.s1) (oldD z.R (nR - 1))), vF (stepT (1 : Int) kc0 kc1 0 (z.s0) (z.s1) (oldD z.R (nR - 1))), .bool op, vF lo, vF re, vF sl]) rfl Try.isAgg33 Try.sizeOf33 r20.rng rfl (res_tmp rfl (res_tmp rfl res_nil))) ?_
 have r21 := ((r14.mod m6 (nC (lG (lL (lL r1.lt (lT m2.size m3.size)) ge3)) (nC (Ne.symm ne2) (nC (Ne.symm ne3) (nA h1 (fun j hj => (fn3 j hj)) (nA h2 (fun j hj => (fn7 j hj)) nN)))))).mod m7 (nC (lG (lL (lL r2.lt m3.size) ge3)) nN))
 have sz1 := (lT (lT m1.size m2.size) m3.size)
 refine ⟨bR'1, cR'1, PR'1, bL'1, cL'1, PL'1, bS'1, cS'1, (pipeNext nR nS xS 1 kc0 kc1 0 op lo re sl z a), y1, ?_, h1, h2, ?_, ?_, ?_, ?_, ?_, h8, (Row.congr (r16.mod m7 (nC (lG (lL (lL r2.lt m3.size) ge1)) nN)) ?_), (Row.congr (r17.mod m7 (nC (lG (lL (lL r2.lt m3.size) ge2)) nN)) ?_), r21, (lT sz1 ge1), (lT sz1 ge2), (lT sz1 ge3), ne1, ne2, ne3, (OF.congr (OF.low (fm3.mod m7 (fun j hj => (nC (lG (lL (lL r2.lt m3.size) (fm3.ge j (lQ (lQ hj (stR_len h4 _)) (stR_len h4 _).symm)))) nN))) sz1) rfl), (fun j hj => (fn1 j (show j < nR by omega))), (fun j hj => (fn2 j (show j < nR by omega))), (fun j hj => (fn3 j (show j < nR by omega))), (fun j q hj hq => (fn4 j q (show j < nR by omega) (show q < nR by omega))), (OF.congr (OF.low (fm4.mod m7 (fun j hj => (nC (lG (lL (lL r2.lt m3.size) (fm4.ge j (lQ (lQ hj (endL_len h5)) (endL_len h5).symm)))) nN))) sz1) rfl), (fun j hj => (fn5 j (show j < nR by omega))), (fun j hj => (fn6 j (show j < nR by omega))), (fun j hj => (fn7 j (show j < nR by omega))), ((((((((Mod.refl [] w).nt m1).nt m2).nt m3).nt m4).then m5 ((aC (.inr lR) aN))).then m6 ((aC (.inr lR) (aC (.inr (lT sz1 ge1)) (aC (.inr (lT sz1 ge2)) (aA h1 (fun j hj => (lT sz1 (fm3.ge j (lQ hj (stR_len h4 _).symm)))) (aA h2 (fun j hj => (lT sz1 (fm4.ge j (lQ hj (endL_len h5).symm)))) aN))))))).then m7 ((aC (.inr (lT m1.size lR)) aN)))⟩
 all_goals first | assumption | rfl | exact stR_len lDR _ | exact endL_len lDL

theorem c_sameRingsX (n : Nat) (c : Nat) (b : Nat) (D : List RD) (P : List BC) (lo : Nat) (c' : Nat) (b' : Nat) (P' : List BC) (lo' : Nat) (lD : D.length = n) (lP : P.length = n) (lP' : P'.length = n) (hz : ∀ i, (D.getD i RD.d).xs.length ≤ 1048576) (hn : n ≤ 1048576) (w : World) (r : Rng w b 0 (olc D P)) (r' : Rng w b' 0 (olc D P'))  (F : OF lo w D P) (F' : OF lo' w D P') : Cl Try.prog 141 #[vS b 0 n c, vS b' 0 n c'] w fun v w' => v = .bool true ∧ Mod [] w w' := by
 refine Cl.of Try.func141 Try.ntmps141 rfl rfl (ρ := [(0, vS b 0 n c), (1, vS b' 0 n c')]) rfl ?_
 refine CE.seq (CE.region ?_)
 refine WD (op_assign rfl) rfl ?_
 refine WL.end (NE.code (CE.seq (CE.seq (CE.region ?_))))
 refine WD (op_move rfl) rfl ?_
 refine WD (op_len rfl Try.runUnderlying25) rfl ?_
 refine WD (op_move rfl) rfl ?_
 refine WD (op_len rfl Try.runUnderlying25) rfl ?_
 refine WD (op_nei_f rfl rfl rfl) rfl ?_
 refine WL.end (NE.code ?_)
 refine CE.cond_f rfl rfl ?_
 refine CE.skip' (NE.code (CE.seq (CE.seq (CE.region ?_))))
 refine WD (op_assign rfl) rfl ?_
 refine WL.end (NE.code (CE.block ?_))
 refine CE.loop (fun (i : Nat) => [(5, vI ((i : Nat) : Int)), (0, vS b 0 n c), (1, vS b' 0 n c'), (4, .bool false)]) (fun (i : Nat) => fun W => (i ≤ n) ∧ Mod [] w W) (fun (i : Nat) => n - i) 0 (⟨rfl, rfl, rfl, rfl, trivial⟩) ⟨(by omega), Mod.refl _ _⟩ ?_
 rintro i w1 ⟨hi, m1⟩
 have hzi := hz i
 show CE _ _ _ _ [(5, vI ((i : Nat) : Int)), (0, vS b 0 n c), (1, vS b' 0 n c'), (4, .bool false)] _
 refine CE.seq (CE.seq (CE.region ?_))
 iterate 2 refine WD (op_move rfl) rfl ?_
 refine WD (op_len rfl Try.runUnderlying25) rfl ?_
 refine WD (op_lti rfl rfl) rfl ?_
 refine WL.end (NE.code ?_)
 rcases Bool.eq_false_or_eq_true (decide (((i : Nat) : Int) < ((n : Nat) : Int))) with hb1 | hb1
 ·have hp1 := of_decide_eq_true hb1
  refine CE.cond_t rfl hb1 ?_
  refine CE.skip' (NE.code (CE.seq (CE.block (CE.seq ?_))))
  refine CE.draw (fun _ => none) [0, 1, 2, 3, 4, 5, 6, 7, 8, 9, 10, 11, 12, 13, 14, 15, 16, 17, 18, 19, 20, 21] [22, 23, 24] [] (by kernel_rfl) (by kernel_rfl) ?_
  have md1 : Mod [] w1 w1.drew := (Mod.refl _ _).drew
  generalize w1.drew = w2 at md1 ⊢
  refine DD 0 rfl (by kernel_rfl) rfl (fun wD mD => op_move rfl) ?_
  refine DD 1 rfl (by kernel_rfl) rfl (fun wD mD => op_move rfl) ?_
  refine DD 2 rfl (by kernel_rfl) rfl (fun wD mD => op_indexSl (off' := 0 + i * 2) rfl rfl rfl Try.runUnderlying25 Try.sizeOf60 (by omega) (by omega) (by omega)) ?_
  refine DD 3 rfl (by kernel_rfl) rfl (fun wD mD => op_fieldAddr (off' := 0 + i * 2 + 1) rfl Try.runUnderlying60 rfl rfl Try.sizeOf2 rfl) ?_
  refine DD 4 rfl (by kernel_rfl) rfl (fun wD mD => op_load1 (i := i * 2 + 1) rfl Try.isAgg2 (((r.ext m1).ext md1).ext mD) rfl (olc_get1 lD lP (show i < n by omega))) ?_
  refine DD 5 rfl (by kernel_rfl) rfl (fun wD mD => op_move rfl) ?_
  refine DD 6 rfl (by kernel_rfl) rfl (fun wD mD => op_move rfl) ?_
  refine DD 7 rfl (by kernel_rfl) rfl (fun wD mD => op_indexSl (off' := 0 + i * 2) rfl rfl rfl Try.runUnderlying25 Try.sizeOf60 (by omega) (by omega) (by omega)) ?_
  refine DD 8 rfl (by kernel_rfl) rfl (fun wD mD => op_fieldAddr (off' := 0 + i * 2 + 1) rfl Try.runUnderlying60 rfl rfl Try.sizeOf2 rfl) ?_
  refine DD 9 rfl (by kernel_rfl) rfl (fun wD mD => op_load1 (i := i * 2 + 1) rfl Try.isAgg2 (((r'.ext m1).ext md1).ext mD) rfl (olc_get1 lD lP' (show i < n by omega))) ?_
  refine DD 10 rfl (by kernel_rfl) rfl (fun wD mD => op_nei_f rfl rfl rfl) ?_
  refine DD 11 rfl (by kernel_rfl) rfl (fun wD mD => op_move rfl) ?_
  refine DR.det (i := 12) rfl rfl (by kernel_rfl) (.yes rfl rfl rfl (ltb rfl) rfl rfl) rfl rfl (fun wD mD => op_move rfl) ?_
  refine DR.det (i := 13) rfl rfl (by kernel_rfl) (.yes rfl rfl rfl (ltb rfl) rfl rfl) rfl rfl (fun wD mD => op_move rfl) ?_
  refine DR.det (i := 14) rfl rfl (by kernel_rfl) (.yes rfl rfl rfl (ltb rfl) rfl rfl) rfl rfl (fun wD mD => op_indexSl (off' := 0 + i * 2) rfl rfl rfl Try.runUnderlying25 Try.sizeOf60 (by omega) (by omega) (by omega)) ?_
  refine DR.det (i := 15) rfl rfl (by kernel_rfl) (.yes rfl rfl rfl (ltb rfl) rfl rfl) rfl rfl (fun wD mD => op_fieldAddr (off' := 0 + i * 2) rfl Try.runUnderlying60 rfl rfl Try.sizeOf26 rfl) ?_
  refine DR.det (i := 16) rfl rfl (by kernel_rfl) (.yes rfl rfl rfl (ltb rfl) rfl rfl) rfl rfl (fun wD mD => op_load1 (i := i * 2) rfl Try.isAgg26 (((r.ext m1).ext md1).ext mD) rfl (olc_get0 lD lP (show i < n by omega))) ?_
  refine DR.det (i := 17) rfl rfl (by kernel_rfl) (.yes rfl rfl rfl (ltb rfl) rfl rfl) rfl rfl (fun wD mD => op_move rfl) ?_
  refine DR.det (i := 18) rfl rfl (by kernel_rfl) (.yes rfl rfl rfl (ltb rfl) rfl rfl) rfl rfl (fun wD mD => op_move rfl) ?_
  refine DR.det (i := 19) rfl rfl (by kernel_rfl) (.yes rfl rfl rfl (ltb rfl) rfl rfl) rfl rfl (fun wD mD => op_indexSl (off' := 0 + i * 2) rfl rfl rfl Try.runUnderlying25 Try.sizeOf60 (by omega) (by omega) (by omega)) ?_
  refine DR.det (i := 20) rfl rfl (by kernel_rfl) (.yes rfl rfl rfl (ltb rfl) rfl rfl) rfl rfl (fun wD mD => op_fieldAddr (off' := 0 + i * 2) rfl Try.runUnderlying60 rfl rfl Try.sizeOf26 rfl) ?_
  refine DR.det (i := 21) rfl rfl (by kernel_rfl) (.yes rfl rfl rfl (ltb rfl) rfl rfl) rfl rfl (fun wD mD => op_load1 (i := i * 2) rfl Try.isAgg26 (((r'.ext m1).ext md1).ext mD) rfl (olc_get0 lD lP' (show i < n by omega))) ?_
  refine DR.done rfl ?_
  intro w3 m2
  refine WO.call rfl (.yes rfl rfl rfl (ltb rfl) rfl rfl) rfl (ltb rfl) (oc_call (vs := [vS ((P.getD i BC.d).b) 0 ((D.getD i RD.d).xs.length) ((P.getD i BC.d).c), vS ((P'.getD i BC.d).b) 0 ((D.getD i RD.d).xs.length) ((P'.getD i BC.d).c)]) (cap := []) rfl rfl rfl Try.call78 (c_sameListX ((D.getD i RD.d).xs.length) ((P.getD i BC.d).c) (some ⟨(P.getD i BC.d).b, 0, none⟩) ((P.getD i BC.d).b) ((D.getD i RD.d).xs) ((P'.getD i BC.d).c) (some ⟨(P'.getD i BC.d).b, 0, none⟩) ((P'.getD i BC.d).b) ((D.getD i RD.d).xs) (fun _ => rfl) (fun _ => rfl) rfl rfl (by first | with_reducible exact Cn.refl _ | with_reducible assumption | exact Cn.eq2 (by with_reducible assumption) (by with_reducible assumption) | exact cn_parts (by with_reducible assumption) (by with_reducible assumption) (by with_reducible assumption) (by with_reducible assumption) (by omega) | exact cn_over (by with_reducible assumption) (by with_reducible assumption) (by omega) | exact cn_two (by assumption) (by assumption) (by assumption) (by assumption) (by assumption) (by assumption) (by assumption) (by omega) (by omega)) (by omega) w3 ((((OF.row F i (lQ (show i < n by omega) lD.symm)).ext m1).ext md1).ext m2).rng ((((OF.row F' i (lQ (show i < n by omega) lD.symm)).ext m1).ext md1).ext m2).rng)) ?_
  rintro _ w4 ⟨rfl, m3⟩
  refine WO.det (op_not rfl) rfl (.yes rfl rfl rfl (ltb rfl) rfl rfl) rfl rfl ?_
  refine WO.det (op_pick_f rfl rfl rfl) rfl (.free rfl) rfl rfl ?_
  refine WO.end (NE.code ?_)
  refine CE.cond_f rfl rfl ?_
  refine CE.skip' (NE.blk (NE.code (CE.region ?_)))
  refine WD (op_move rfl) rfl ?_
  refine WD (op_add (r := ((i + 1 : Nat) : Int)) rfl rfl (w_i64 (by omega) (by omega))) rfl ?_
  refine WD (op_assign rfl) rfl ?_
  refine WL.end ?_
  exact NE.again (i + 1) (⟨rfl, rfl, rfl, rfl, trivial⟩) ⟨(by omega), (((m1.nt md1).nt m2).nt m3)⟩ (by first | (dsimp only; omega) | omega)
 ·have hp1 := of_decide_eq_false hb1
  refine CE.cond_f rfl hb1 ?_
  refine CE.exit' (XE.exit_then (XE.exit_then (XE.exit_here (NE.code (CE.seq (CE.region ?_))))))
  refine WD (op_assign rfl) rfl ?_
  refine WL.end (NE.code (CE.ret' ?_))
  refine XE.leave1 Try.results141 rfl ?_
  refine ⟨rfl, ((Mod.refl [] w).nt m1)⟩

theorem c_l02Same (kd : Int) (c0 : Nat) (c1 : Nat) (c2 : Nat) (s0 : Nat) (s1 : Nat) (p : Nat) (k : Nat) (vs : List Value) (p2 : Nat) (k2 : Nat) (us : List Value) (hk : k + 6 ≤ vs.length) (hk2 : k2 + 6 ≤ us.length) (w : World) (r : Rng w p 0 (splice vs k [vI kd, vF c0, vF c1, vF c2, vF s0, vF s1])) (r2 : Rng w p2 0 (splice us k2 [vI kd, vF c0, vF c1, vF c2, vF s0, vF s1])) : Cl Try.prog 142 #[vP p k, vP p2 k2] w fun v w' => v = .bool true ∧ Mod [] w w' := by
 refine Cl.of Try.func142 Try.ntmps142 rfl rfl (ρ := [(0, vP p k), (1, vP p2 k2)]) rfl ?_
 refine CE.seq (CE.region ?_)
 refine WD (op_assign rfl) rfl ?_
 refine WL.end (NE.code (CE.seq (CE.seq ?_)))
 refine CE.draw (fun _ => none) [0, 1, 2, 3, 4, 5, 6, 7] [8] [] (by kernel_rfl) (by kernel_rfl) ?_
 have md1 : Mod [] w w.drew := (Mod.refl _ _).drew
 generalize w.drew = w1 at md1 ⊢
 refine DD 0 rfl (by kernel_rfl) rfl (fun wD mD => op_move rfl) ?_
 refine DD 1 rfl (by kernel_rfl) rfl (fun wD mD => op_nilCheck rfl) ?_
 refine DD 2 rfl (by kernel_rfl) rfl (fun wD mD => op_fieldAddr (off' := k) rfl Try.runUnderlying31 rfl rfl Try.sizeOf2 rfl) ?_
 refine DD 3 rfl (by kernel_rfl) rfl (fun wD mD => op_load1 (i := k) rfl Try.isAgg2 ((r.ext md1).ext mD) (Nat.zero_add _) (sub_get (i := 0) hk rfl)) ?_
 refine DD 4 rfl (by kernel_rfl) rfl (fun wD mD => op_move rfl) ?_
 refine DD 5 rfl (by kernel_rfl) rfl (fun wD mD => op_nilCheck rfl) ?_
 refine DD 6 rfl (by kernel_rfl) rfl (fun wD mD => op_fieldAddr (off' := k2) rfl Try.runUnderlying31 rfl rfl Try.sizeOf2 rfl) ?_
 refine DD 7 rfl (by kernel_rfl) rfl (fun wD mD => op_load1 (i := k2) rfl Try.isAgg2 ((r2.ext md1).ext mD) (Nat.zero_add _) (sub_get (i := 0) hk2 rfl)) ?_
 refine DR.done rfl ?_
 intro w2 m1
 refine WO.det (op_nei_f rfl rfl rfl) rfl (.free rfl) rfl rfl ?_
 refine WO.end (NE.code ?_)
 refine CE.cond_f rfl rfl ?_
 refine CE.skip' (NE.code (CE.seq (CE.seq (CE.region ?_))))
 refine WD (op_assign rfl) rfl ?_
 refine WL.end (NE.code (CE.block ?_))
 refine CE.rounds 4 ?_
 refine RN.one (CE.seq (CE.seq (CE.region ?_)))
 refine WD (op_move rfl) rfl ?_
 refine WD (op_lti rfl rfl) rfl ?_
 refine WL.end (NE.code ?_)
 refine CE.cond_t rfl rfl ?_
 refine CE.skip' (NE.code (CE.seq (CE.block (CE.seq ?_))))
 refine CE.draw (fun _ => none) [0, 1, 2, 3, 4, 5, 6, 7, 8, 9, 10, 11] [12, 13] [] (by kernel_rfl) (by kernel_rfl) ?_
 have md2 : Mod [] w2 w2.drew := (Mod.refl _ _).drew
 generalize w2.drew = w3 at md2 ⊢
 refine DD 0 rfl (by kernel_rfl) rfl (fun wD mD => op_move rfl) ?_
 refine DD 1 rfl (by kernel_rfl) rfl (fun wD mD => op_move rfl) ?_
 refine DD 2 rfl (by kernel_rfl) rfl (fun wD mD => op_nilCheck rfl) ?_
 refine DD 3 rfl (by kernel_rfl) rfl (fun wD mD => op_fieldAddr (off' := k + 1) rfl Try.runUnderlying31 rfl rfl Try.sizeOf28 rfl) ?_
 refine DD 4 rfl (by kernel_rfl) rfl (fun wD mD => op_indexArr (off' := k + 1) rfl rfl Try.runUnderlying28 Try.sizeOf27 (by decide) (by decide) rfl) ?_
 refine DD 5 rfl (by kernel_rfl) rfl (fun wD mD => op_load1 (i := k + 1) rfl Try.isAgg27 ((((r.ext md1).ext m1).ext md2).ext mD) (Nat.zero_add _) (sub_get (i := 1) hk rfl)) ?_
 refine DD 6 rfl (by kernel_rfl) rfl (fun wD mD => op_move rfl) ?_
 refine DD 7 rfl (by kernel_rfl) rfl (fun wD mD => op_move rfl) ?_
 refine DD 8 rfl (by kernel_rfl) rfl (fun wD mD => op_nilCheck rfl) ?_
 refine DD 9 rfl (by kernel_rfl) rfl (fun wD mD => op_fieldAddr (off' := k2 + 1) rfl Try.runUnderlying31 rfl rfl Try.sizeOf28 rfl) ?_
 refine DD 10 rfl (by kernel_rfl) rfl (fun wD mD => op_indexArr (off' := k2 + 1) rfl rfl Try.runUnderlying28 Try.sizeOf27 (by decide) (by decide) rfl) ?_
 refine DD 11 rfl (by kernel_rfl) rfl (fun wD mD => op_load1 (i := k2 + 1) rfl Try.isAgg27 ((((r2.ext md1).ext m1).ext md2).ext mD) (Nat.zero_add _) (sub_get (i := 1) hk2 rfl)) ?_
 refine DR.done rfl ?_
 intro w4 m2
 refine WO.call rfl (.free rfl) rfl (ltb rfl) (oc_call (vs := [vF c0, vF c0]) (cap := []) rfl rfl rfl Try.call128 (c_l01Same c0 c0 c0 c0 rfl rfl w4)) ?_
 rintro _ _ ⟨rfl, rfl⟩
 refine WO.det (op_not rfl) rfl (.free rfl) rfl rfl ?_
 refine WO.end (NE.code ?_)
 refine CE.cond_f rfl (bnot_t (beq_self_eq_true _)) ?_
 refine CE.skip' (NE.blk (NE.code (CE.region ?_)))
 refine WD (op_move rfl) rfl ?_
 refine WD (op_add (r := 1) rfl rfl (by decide)) rfl ?_
 refine WD (op_assign rfl) rfl ?_
 refine WL.end (NE.round (RN.one (CE.seq (CE.seq (CE.region ?_)))))
 refine WD (op_move rfl) rfl ?_
 refine WD (op_lti rfl rfl) rfl ?_
 refine WL.end (NE.code ?_)
 refine CE.cond_t rfl rfl ?_
 refine CE.skip' (NE.code (CE.seq (CE.block (CE.seq ?_))))
 refine CE.draw (fun _ => none) [0, 1, 2, 3, 4, 5, 6, 7, 8, 9, 10, 11] [12, 13] [] (by kernel_rfl) (by kernel_rfl) ?_
 have md3 : Mod [] w4 w4.drew := (Mod.refl _ _).drew
 generalize w4.drew = w5 at md3 ⊢
 refine DD 0 rfl (by kernel_rfl) rfl (fun wD mD => op_move rfl) ?_
 refine DD 1 rfl (by kernel_rfl) rfl (fun wD mD => op_move rfl) ?_
 refine DD 2 rfl (by kernel_rfl) rfl (fun wD mD => op_nilCheck rfl) ?_
 refine DD 3 rfl (by kernel_rfl) rfl (fun wD mD => op_fieldAddr (off' := k + 1) rfl Try.runUnderlying31 rfl rfl Try.sizeOf28 rfl) ?_
 refine DD 4 rfl (by kernel_rfl) rfl (fun wD mD => op_indexArr (off' := k + 2) rfl rfl Try.runUnderlying28 Try.sizeOf27 (by decide) (by decide) rfl) ?_
 refine DD 5 rfl (by kernel_rfl) rfl (fun wD mD => op_load1 (i := k + 2) rfl Try.isAgg27 ((((((r.ext md1).ext m1).ext md2).ext m2).ext md3).ext mD) (Nat.zero_add _) (sub_get (i := 2) hk rfl)) ?_
 refine DD 6 rfl (by kernel_rfl) rfl (fun wD mD => op_move rfl) ?_
 refine DD 7 rfl (by kernel_rfl) rfl (fun wD mD => op_move rfl) ?_
 refine DD 8 rfl (by kernel_rfl) rfl (fun wD mD => op_nilCheck rfl) ?_
 refine DD 9 rfl (by kernel_rfl) rfl (fun wD mD => op_fieldAddr (off' := k2 + 1) rfl Try.runUnderlying31 rfl rfl Try.sizeOf28 rfl) ?_
 refine DD 10 rfl (by kernel_rfl) rfl (fun wD mD => op_indexArr (off' := k2 + 2) rfl rfl Try.runUnderlying28 Try.sizeOf27 (by decide) (by decide) rfl) ?_
 refine DD 11 rfl (by kernel_rfl) rfl (fun wD mD => op_load1 (i := k2 + 2) rfl Try.isAgg27 ((((((r2.ext md1).ext m1).ext md2).ext m2).ext md3).ext mD) (Nat.zero_add _) (sub_get (i := 2) hk2 rfl)) ?_
 refine DR.done rfl ?_
 intro w6 m3
 refine WO.call rfl (.free rfl) rfl (ltb rfl) (oc_call (vs := [vF c1, vF c1]) (cap := []) rfl rfl rfl Try.call128 (c_l01Same c1 c1 c1 c1 rfl rfl w6)) ?_
 rintro _ _ ⟨rfl, rfl⟩
 refine WO.det (op_not rfl) rfl (.free rfl) rfl rfl ?_
 refine WO.end (NE.code ?_)
 refine CE.cond_f rfl (bnot_t (beq_self_eq_true _)) ?_
 refine CE.skip' (NE.blk (NE.code (CE.region ?_)))
 refine WD (op_move rfl) rfl ?_
 refine WD (op_add (r := 2) rfl rfl (by decide)) rfl ?_
 refine WD (op_assign rfl) rfl ?_
 refine WL.end (NE.round (RN.one (CE.seq (CE.seq (CE.region ?_)))))
 refine WD (op_move rfl) rfl ?_
 refine WD (op_lti rfl rfl) rfl ?_
 refine WL.end (NE.code ?_)
 refine CE.cond_t rfl rfl ?_
 refine CE.skip' (NE.code (CE.seq (CE.block (CE.seq ?_))))
 refine CE.draw (fun _ => none) [0, 1, 2, 3, 4, 5, 6, 7, 8, 9, 10, 11] [12, 13] [] (by kernel_rfl) (by kernel_rfl) ?_
 have md4 : Mod [] w6 w6.drew := (Mod.refl _ _).drew
 generalize w6.drew = w7 at md4 ⊢
 refine DD 0 rfl (by kernel_rfl) rfl (fun wD mD => op_move rfl) ?_
 refine DD 1 rfl (by kernel_rfl) rfl (fun wD mD => op_move rfl) ?_
 refine DD 2 rfl (by kernel_rfl) rfl (fun wD mD => op_nilCheck rfl) ?_
 refine DD 3 rfl (by kernel_rfl) rfl (fun wD mD => op_fieldAddr (off' := k + 1) rfl Try.runUnderlying31 rfl rfl Try.sizeOf28 rfl) ?_
 refine DD 4 rfl (by kernel_rfl) rfl (fun wD mD => op_indexArr (off' := k + 3) rfl rfl Try.runUnderlying28 Try.sizeOf27 (by decide) (by decide) rfl) ?_
 refine DD 5 rfl (by kernel_rfl) rfl (fun wD mD => op_load1 (i := k + 3) rfl Try.isAgg27 ((((((((r.ext md1).ext m1).ext md2).ext m2).ext md3).ext m3).ext md4).ext mD) (Nat.zero_add _) (sub_get (i := 3) hk rfl)) ?_
 refine DD 6 rfl (by kernel_rfl) rfl (fun wD mD => op_move rfl) ?_
 refine DD 7 rfl (by kernel_rfl) rfl (fun wD mD => op_move rfl) ?_
 refine DD 8 rfl (by kernel_rfl) rfl (fun wD mD => op_nilCheck rfl) ?_
 refine DD 9 rfl (by kernel_rfl) rfl (fun wD mD => op_fieldAddr (off' := k2 + 1) rfl Try.runUnderlying31 rfl rfl Try.sizeOf28 rfl) ?_
 refine DD 10 rfl (by kernel_rfl) rfl (fun wD mD => op_indexArr (off' := k2 + 3) rfl rfl Try.runUnderlying28 Try.sizeOf27 (by decide) (by decide) rfl) ?_
 refine DD 11 rfl (by kernel_rfl) rfl (fun wD mD => op_load1 (i := k2 + 3) rfl Try.isAgg27 ((((((((r2.ext md1).ext m1).ext md2).ext m2).ext md3).ext m3).ext md4).ext mD) (Nat.zero_add _) (sub_get (i := 3) hk2 rfl)) ?_
 refine DR.done rfl ?_
 intro w8 m4
 refine WO.call rfl (.free rfl) rfl (ltb rfl) (oc_call (vs := [vF c2, vF c2]) (cap := []) rfl rfl rfl Try.call128 (c_l01Same c2 c2 c2 c2 rfl rfl w8)) ?_
 rintro _ _ ⟨rfl, rfl⟩
 refine WO.det (op_not rfl) rfl (.free rfl) rfl rfl ?_
 refine WO.end (NE.code ?_)
 refine CE.cond_f rfl (bnot_t (beq_self_eq_true _)) ?_
 refine CE.skip' (NE.blk (NE.code (CE.region ?_)))
 refine WD (op_move rfl) rfl ?_
 refine WD (op_add (r := 3) rfl rfl (by decide)) rfl ?_
 refine WD (op_assign rfl) rfl ?_
 refine WL.end (NE.round (RN.one (CE.seq (CE.seq (CE.region ?_)))))
 refine WD (op_move rfl) rfl ?_
 refine WD (op_lti rfl rfl) rfl ?_
 refine WL.end (NE.code ?_)
 refine CE.cond_f rfl rfl ?_
 refine CE.exit' (XE.exit_then (XE.exit_then (XE.exit_here (NE.code (CE.seq ?_)))))
 refine CE.draw (fun | 10 => some (fun _ wA uA wB => uA = .bool (cn .f32 s0 == cn .f32 s0) ∧ wA = wB) | _ => none) [0, 1, 2, 3, 4, 5, 6, 7, 8, 9, 10, 11, 12, 13, 14, 15, 16, 17, 18, 19, 20, 21] [22, 23, 24] [] (by kernel_rfl) (by kernel_rfl) ?_
 have md5 : Mod [] w8 w8.drew := (Mod.refl _ _).drew
 generalize w8.drew = w9 at md5 ⊢
 refine DD 0 rfl (by kernel_rfl) rfl (fun wD mD => op_move rfl) ?_
 refine DD 1 rfl (by kernel_rfl) rfl (fun wD mD => op_nilCheck rfl) ?_
 refine DD 2 rfl (by kernel_rfl) rfl (fun wD mD => op_fieldAddr (off' := k + 4) rfl Try.runUnderlying31 rfl rfl Try.sizeOf29 rfl) ?_
 refine DD 3 rfl (by kernel_rfl) rfl (fun wD mD => op_indexArr (off' := k + 4) rfl rfl Try.runUnderlying29 Try.sizeOf27 (by decide) (by decide) rfl) ?_
 refine DD 4 rfl (by kernel_rfl) rfl (fun wD mD => op_load1 (i := k + 4) rfl Try.isAgg27 ((((((((((r.ext md1).ext m1).ext md2).ext m2).ext md3).ext m3).ext md4).ext m4).ext md5).ext mD) (Nat.zero_add _) (sub_get (i := 4) hk rfl)) ?_
 refine DD 5 rfl (by kernel_rfl) rfl (fun wD mD => op_move rfl) ?_
 refine DD 6 rfl (by kernel_rfl) rfl (fun wD mD => op_nilCheck rfl) ?_
 refine DD 7 rfl (by kernel_rfl) rfl (fun wD mD => op_fieldAddr (off' := k2 + 4) rfl Try.runUnderlying31 rfl rfl Try.sizeOf29 rfl) ?_
 refine DD 8 rfl (by kernel_rfl) rfl (fun wD mD => op_indexArr (off' := k2 + 4) rfl rfl Try.runUnderlying29 Try.sizeOf27 (by decide) (by decide) rfl) ?_
 refine DD 9 rfl (by kernel_rfl) rfl (fun wD mD => op_load1 (i := k2 + 4) rfl Try.isAgg27 ((((((((((r2.ext md1).ext m1).ext md2).ext m2).ext md3).ext m3).ext md4).ext m4).ext md5).ext mD) (Nat.zero_add _) (sub_get (i := 4) hk2 rfl)) ?_
 refine DR.call (i := 10) (fun uA => uA = .bool (cn .f32 s0 == cn .f32 s0)) rfl rfl (by kernel_rfl) (.free rfl) rfl (ltb rfl) ⟨_, rfl⟩ (vs := [.func (.func 128) #[] #[], vF s0, vF s0]) rfl (fun wD mD => oc_call (vs := [vF s0, vF s0]) (cap := []) rfl rfl rfl Try.call128 (c_l01Same s0 s0 s0 s0 rfl rfl wD)) ?_ ?_
 ·rintro w1 _ _ m1 ⟨rfl, rfl⟩; exact ⟨rfl, Mod.refl _ _⟩
 rintro _ rfl
 refine DD 11 rfl (by kernel_rfl) rfl (fun wD mD => op_move rfl) ?_
 refine DR.det (i := 12) rfl rfl (by kernel_rfl) (.yes rfl rfl rfl (ltb rfl) rfl (beq_self_eq_true _)) rfl rfl (fun wD mD => op_move rfl) ?_
 refine DR.det (i := 13) rfl rfl (by kernel_rfl) (.yes rfl rfl rfl (ltb rfl) rfl (beq_self_eq_true _)) rfl rfl (fun wD mD => op_nilCheck rfl) ?_
 refine DR.det (i := 14) rfl rfl (by kernel_rfl) (.yes rfl rfl rfl (ltb rfl) rfl (beq_self_eq_true _)) rfl rfl (fun wD mD => op_fieldAddr (off' := k + 4) rfl Try.runUnderlying31 rfl rfl Try.sizeOf29 rfl) ?_
 refine DR.det (i := 15) rfl rfl (by kernel_rfl) (.yes rfl rfl rfl (ltb rfl) rfl (beq_self_eq_true _)) rfl rfl (fun wD mD => op_indexArr (off' := k + 5) rfl rfl Try.runUnderlying29 Try.sizeOf27 (by decide) (by decide) rfl) ?_
 refine DR.det (i := 16) rfl rfl (by kernel_rfl) (.yes rfl rfl rfl (ltb rfl) rfl (beq_self_eq_true _)) rfl rfl (fun wD mD => op_load1 (i := k + 5) rfl Try.isAgg27 ((((((((((r.ext md1).ext m1).ext md2).ext m2).ext md3).ext m3).ext md4).ext m4).ext md5).ext mD) (Nat.zero_add _) (sub_get (i := 5) hk rfl)) ?_
 refine DR.det (i := 17) rfl rfl (by kernel_rfl) (.yes rfl rfl rfl (ltb rfl) rfl (beq_self_eq_true _)) rfl rfl (fun wD mD => op_move rfl) ?_
 refine DR.det (i := 18) rfl rfl (by kernel_rfl) (.yes rfl rfl rfl (ltb rfl) rfl (beq_self_eq_true _)) rfl rfl (fun wD mD => op_nilCheck rfl) ?_
 refine DR.det (i := 19) rfl rfl (by kernel_rfl) (.yes rfl rfl rfl (ltb rfl) rfl (beq_self_eq_true _)) rfl rfl (fun wD mD => op_fieldAddr (off' := k2 + 4) rfl Try.runUnderlying31 rfl rfl Try.sizeOf29 rfl) ?_
 refine DR.det (i := 20) rfl rfl (by kernel_rfl) (.yes rfl rfl rfl (ltb rfl) rfl (beq_self_eq_true _)) rfl rfl (fun wD mD => op_indexArr (off' := k2 + 5) rfl rfl Try.runUnderlying29 Try.sizeOf27 (by decide) (by decide) rfl) ?_
 refine DR.det (i := 21) rfl rfl (by kernel_rfl) (.yes rfl rfl rfl (ltb rfl) rfl (beq_self_eq_true _)) rfl rfl (fun wD mD => op_load1 (i := k2 + 5) rfl Try.isAgg27 ((((((((((r2.ext md1).ext m1).ext md2).ext m2).ext md3).ext m3).ext md4).ext m4).ext md5).ext mD) (Nat.zero_add _) (sub_get (i := 5) hk2 rfl)) ?_
 refine DR.done rfl ?_
 intro w10 m5
 refine WO.call rfl (.yes rfl rfl rfl (ltb rfl) rfl (beq_self_eq_true _)) rfl (ltb rfl) (oc_call (vs := [vF s1, vF s1]) (cap := []) rfl rfl rfl Try.call128 (c_l01Same s1 s1 s1 s1 rfl rfl w10)) ?_
 rintro _ _ ⟨rfl, rfl⟩
 refine WO.det (op_pick_t rfl (beq_self_eq_true _) rfl) rfl (.free rfl) rfl rfl ?_
 refine WO.det (op_assign rfl) rfl (.free rfl) rfl rfl ?_
 refine WO.end (NE.code (CE.ret' ?_))
 refine XE.leave1 Try.results142 rfl ?_
 refine ⟨?_, (((((((((((Mod.refl [] w).nt md1).nt m1).nt md2).nt m2).nt md3).nt m3).nt md4).nt m4).nt md5).nt m5)⟩
 all_goals simp_all

theorem c_l04SameX (nR : Nat) (nS : Nat) (xS : List Nat) (kc0 : Nat) (kc1 : Nat) (op : Bool) (lo : Nat) (re : Nat) (sl : Nat) (z : PipeSt) (cR : Nat) (bR : Nat) (PR : List BC) (loR : Nat) (cL : Nat) (bL : Nat) (PL : List BC) (loL : Nat) (cS : Nat) (bS : Nat) (cR' : Nat) (bR' : Nat) (PR' : List BC) (loR' : Nat) (cL' : Nat) (bL' : Nat) (PL' : List BC) (loL' : Nat) (cS' : Nat) (bS' : Nat) (p : Nat) (p2 : Nat) (hdz : DPz nR nS xS kc0 kc1 lo re sl z 57) (lDR : z.R.length = nR) (lDL : z.L.length = nR) (lPR : PR.length = nR) (lPL : PL.length = nR) (lnS : xS.length = nS) (lPR' : PR'.length = nR) (lPL' : PL'.length = nR) (w : World) (q : Rng w p 0 [vS bR 0 nR cR, vS bL 0 nR cL, vS bS 0 nS cS, vI 1, vF kc0, vF kc1, vF 0, vF (z.s0), vF (z.s1), .bool op, vF lo, vF re, vF sl]) (q2 : Rng w p2 0 [vS bR' 0 nR cR', vS bL' 0 nR cL', vS bS' 0 nS cS', vI 1, vF kc0, vF kc1, vF 0, vF (z.s0), vF (z.s1), .bool op, vF lo, vF re, vF sl]) (rR : Rng w bR 0 (olc z.R PR)) (rL : Rng w bL 0 (olc z.L PL)) (rS : Rng w bS 0 (fl xS)) (rR' : Rng w bR' 0 (olc z.R PR')) (rL' : Rng w bL' 0 (olc z.L PL')) (rS' : Rng w bS' 0 (fl xS))  (FR : OF loR w z.R PR) (FL : OF loL w z.L PL) (FR' : OF loR' w z.R PR') (FL' : OF loL' w z.L PL') : Cl Try.prog 97 #[vP p 0, vP p2 0] w fun v w' => v = .bool true ∧ Mod [] w w' := by
 have hnA := hdz.n1
 have hnB := hdz.n3
 have hnC := hdz.sn
 have hzR := hdz.small.1
 have hzL := hdz.small.2
 refine Cl.of Try.func97 Try.ntmps97 rfl rfl (ρ := [(0, vP p 0), (1, vP p2 0)]) rfl ?_
 refine CE.seq (CE.region ?_)
 refine WD (op_assign rfl) rfl ?_
 refine WL.end (NE.code (CE.seq ?_))
 refine CE.draw (fun | 8 => some (fun _ wA uA wB => uA = .bool true ∧ Mod [] wA wB) | 18 => some (fun _ wA uA wB => uA = .bool true ∧ Mod [] wA wB) | 29 => some (fun _ wA uA wB => uA = .bool true ∧ Mod [] wA wB) | 38 => some (fun _ wA uA wB => uA = .bool true ∧ Mod [] wA wB) | 60 => some (fun _ wA uA wB => uA = .bool (cn .f32 lo == cn .f32 lo) ∧ wA = wB) | 71 => some (fun _ wA uA wB => uA = .bool (cn .f32 re == cn .f32 re) ∧ wA = wB) | _ => none) [0, 1, 2, 3, 4, 5, 6, 7, 8, 9, 10, 11, 12, 13, 14, 15, 16, 17, 18, 19, 20, 21, 22, 23, 24, 25, 26, 27, 28, 29, 30, 31, 32, 33, 34, 35, 36, 37, 38, 39, 40, 41, 42, 43, 44, 45, 46, 47, 48, 49, 50, 51, 52, 53, 54, 55, 56, 57, 58, 59, 60, 61, 62, 63, 64, 65, 66, 67, 68, 69, 70, 71, 72, 73, 74, 75, 76, 77, 78, 79, 80, 81] [82, 83, 84] [] (by kernel_rfl) (by kernel_rfl) ?_
 have md1 : Mod [] w w.drew := (Mod.refl _ _).drew
 generalize w.drew = w1 at md1 ⊢
 refine DD 0 rfl (by kernel_rfl) rfl (fun wD mD => op_move rfl) ?_
 refine DD 1 rfl (by kernel_rfl) rfl (fun wD mD => op_nilCheck rfl) ?_
 refine DD 2 rfl (by kernel_rfl) rfl (fun wD mD => op_fieldAddr (off' := 0) rfl Try.runUnderlying33 rfl rfl Try.sizeOf25 rfl) ?_
 refine DD 3 rfl (by kernel_rfl) rfl (fun wD mD => op_load1 (i := 0) rfl Try.isAgg25 ((q.ext md1).ext mD) rfl rfl) ?_
 refine DD 4 rfl (by kernel_rfl) rfl (fun wD mD => op_move rfl) ?_
 refine DD 5 rfl (by kernel_rfl) rfl (fun wD mD => op_nilCheck rfl) ?_
 refine DD 6 rfl (by kernel_rfl) rfl (fun wD mD => op_fieldAddr (off' := 0) rfl Try.runUnderlying33 rfl rfl Try.sizeOf25 rfl) ?_
 refine DD 7 rfl (by kernel_rfl) rfl (fun wD mD => op_load1 (i := 0) rfl Try.isAgg25 ((q2.ext md1).ext mD) rfl rfl) ?_
 refine DR.call (i := 8) (fun uA => uA = .bool true) rfl rfl (by kernel_rfl) (.free rfl) rfl (ltb rfl) ⟨_, rfl⟩ (vs := [.func (.func 141) #[] #[], vS bR 0 nR cR, vS bR' 0 nR cR']) rfl (fun wD mD => oc_call (vs := [vS bR 0 nR cR, vS bR' 0 nR cR']) (cap := []) rfl rfl rfl Try.call141 (c_sameRingsX nR cR bR z.R PR loR cR' bR' PR' loR' lDR lPR lPR' (by first | assumption | exact rd_small (by assumption) (by assumption) | exact markD_small (by first | assumption | exact rd_small (by assumption) (by assumption)) _) (by omega) wD ((rR.ext md1).ext mD) ((rR'.ext md1).ext mD) ((FR.ext md1).ext mD) ((FR'.ext md1).ext mD))) ?_ ?_
 ·rintro w1 _ w2 m1 ⟨rfl, m2⟩; exact ⟨rfl, m2⟩
 rintro _ rfl
 refine DD 9 rfl (by kernel_rfl) rfl (fun wD mD => op_move rfl) ?_
 refine DR.det (i := 10) rfl rfl (by kernel_rfl) (.yes rfl rfl rfl (ltb rfl) rfl rfl) rfl rfl (fun wD mD => op_move rfl) ?_
 refine DR.det (i := 11) rfl rfl (by kernel_rfl) (.yes rfl rfl rfl (ltb rfl) rfl rfl) rfl rfl (fun wD mD => op_nilCheck rfl) ?_
 refine DR.det (i := 12) rfl rfl (by kernel_rfl) (.yes rfl rfl rfl (ltb rfl) rfl rfl) rfl rfl (fun wD mD => op_fieldAddr (off' := 1) rfl Try.runUnderlying33 rfl rfl Try.sizeOf25 rfl) ?_
 refine DR.det (i := 13) rfl rfl (by kernel_rfl) (.yes rfl rfl rfl (ltb rfl) rfl rfl) rfl rfl (fun wD mD => op_load1 (i := 1) rfl Try.isAgg25 ((q.ext md1).ext mD) rfl rfl) ?_
 refine DR.det (i := 14) rfl rfl (by kernel_rfl) (.yes rfl rfl rfl (ltb rfl) rfl rfl) rfl rfl (fun wD mD => op_move rfl) ?_
 refine DR.det (i := 15) rfl rfl (by kernel_rfl) (.yes rfl rfl rfl (ltb rfl) rfl rfl) rfl rfl (fun wD mD => op_nilCheck rfl) ?_
 refine DR.det (i := 16) rfl rfl (by kernel_rfl) (.yes rfl rfl rfl (ltb rfl) rfl rfl) rfl rfl (fun wD mD => op_fieldAddr (off' := 1) rfl Try.runUnderlying33 rfl rfl Try.sizeOf25 rfl) ?_
 refine DR.det (i := 17) rfl rfl (by kernel_rfl) (.yes rfl rfl rfl (ltb rfl) rfl rfl) rfl rfl (fun wD mD => op_load1 (i := 1) rfl Try.isAgg25 ((q2.ext md1).ext mD) rfl rfl) ?_
 refine DR.call (i := 18) (fun uA => uA = .bool true) rfl rfl (by kernel_rfl) (.yes rfl rfl rfl (ltb rfl) rfl rfl) rfl (ltb rfl) ⟨_, rfl⟩ (vs := [.func (.func 141) #[] #[], vS bL 0 nR cL, vS bL' 0 nR cL']) rfl (fun wD mD => oc_call (vs := [vS bL 0 nR cL, vS bL' 0 nR cL']) (cap := []) rfl rfl rfl Try.call141 (c_sameRingsX nR cL bL z.L PL loL cL' bL' PL' loL' lDL lPL lPL' (by first | assumption | exact rd_small (by assumption) (by assumption) | exact markD_small (by first | assumption | exact rd_small (by assumption) (by assumption)) _) (by omega) wD ((rL.ext md1).ext mD) ((rL'.ext md1).ext mD) ((FL.ext md1).ext mD) ((FL'.ext md1).ext mD))) ?_ ?_
 ·rintro w1 _ w2 m1 ⟨rfl, m2⟩; exact ⟨rfl, m2⟩
 rintro _ rfl
 refine DD 19 rfl (by kernel_rfl) rfl (fun wD mD => op_pick_t rfl rfl rfl) ?_
 refine DD 20 rfl (by kernel_rfl) rfl (fun wD mD => op_move rfl) ?_
 refine DR.det (i := 21) rfl rfl (by kernel_rfl) (.yes rfl rfl rfl (ltb rfl) rfl rfl) rfl rfl (fun wD mD => op_move rfl) ?_
 refine DR.det (i := 22) rfl rfl (by kernel_rfl) (.yes rfl rfl rfl (ltb rfl) rfl rfl) rfl rfl (fun wD mD => op_nilCheck rfl) ?_
 refine DR.det (i := 23) rfl rfl (by kernel_rfl) (.yes rfl rfl rfl (ltb rfl) rfl rfl) rfl rfl (fun wD mD => op_fieldAddr (off' := 2) rfl Try.runUnderlying33 rfl rfl Try.sizeOf26 rfl) ?_
 refine DR.det (i := 24) rfl rfl (by kernel_rfl) (.yes rfl rfl rfl (ltb rfl) rfl rfl) rfl rfl (fun wD mD => op_load1 (i := 2) rfl Try.isAgg26 ((q.ext md1).ext mD) rfl rfl) ?_
 refine DR.det (i := 25) rfl rfl (by kernel_rfl) (.yes rfl rfl rfl (ltb rfl) rfl rfl) rfl rfl (fun wD mD => op_move rfl) ?_
 refine DR.det (i := 26) rfl rfl (by kernel_rfl) (.yes rfl rfl rfl (ltb rfl) rfl rfl) rfl rfl (fun wD mD => op_nilCheck rfl) ?_
 refine DR.det (i := 27) rfl rfl (by kernel_rfl) (.yes rfl rfl rfl (ltb rfl) rfl rfl) rfl rfl (fun wD mD => op_fieldAddr (off' := 2) rfl Try.runUnderlying33 rfl rfl Try.sizeOf26 rfl) ?_
 refine DR.det (i := 28) rfl rfl (by kernel_rfl) (.yes rfl rfl rfl (ltb rfl) rfl rfl) rfl rfl (fun wD mD => op_load1 (i := 2) rfl Try.isAgg26 ((q2.ext md1).ext mD) rfl rfl) ?_
 refine DR.call (i := 29) (fun uA => uA = .bool true) rfl rfl (by kernel_rfl) (.yes rfl rfl rfl (ltb rfl) rfl rfl) rfl (ltb rfl) ⟨_, rfl⟩ (vs := [.func (.func 78) #[] #[], vS bS 0 nS cS, vS bS' 0 nS cS']) rfl (fun wD mD => oc_call (vs := [vS bS 0 nS cS, vS bS' 0 nS cS']) (cap := []) rfl rfl rfl Try.call78 (c_sameListX nS cS (some ⟨bS, 0, none⟩) bS xS cS' (some ⟨bS', 0, none⟩) bS' xS (fun _ => rfl) (fun _ => rfl) lnS lnS (by first | with_reducible exact Cn.refl _ | with_reducible assumption | exact Cn.eq2 (by with_reducible assumption) (by with_reducible assumption) | exact cn_parts (by with_reducible assumption) (by with_reducible assumption) (by with_reducible assumption) (by with_reducible assumption) (by omega) | exact cn_over (by with_reducible assumption) (by with_reducible assumption) (by omega) | exact cn_two (by assumption) (by assumption) (by assumption) (by assumption) (by assumption) (by assumption) (by assumption) (by omega) (by omega)) (by omega) wD ((rS.ext md1).ext mD) ((rS'.ext md1).ext mD))) ?_ ?_
 ·rintro w1 _ w2 m1 ⟨rfl, m2⟩; exact ⟨rfl, m2⟩
 rintro _ rfl
 refine DD 30 rfl (by kernel_rfl) rfl (fun wD mD => op_pick_t rfl rfl rfl) ?_
 refine DD 31 rfl (by kernel_rfl) rfl (fun wD mD => op_move rfl) ?_
 refine DR.det (i := 32) rfl rfl (by kernel_rfl) (.yes rfl rfl rfl (ltb rfl) rfl rfl) rfl rfl (fun wD mD => op_move rfl) ?_
 refine DR.det (i := 33) rfl rfl (by kernel_rfl) (.yes rfl rfl rfl (ltb rfl) rfl rfl) rfl rfl (fun wD mD => op_nilCheck rfl) ?_
 refine DR.det (i := 34) rfl rfl (by kernel_rfl) (.yes rfl rfl rfl (ltb rfl) rfl rfl) rfl rfl (fun wD mD => op_fieldAddr (off' := 3) rfl Try.runUnderlying33 rfl rfl Try.sizeOf31 rfl) ?_
 refine DR.det (i := 35) rfl rfl (by kernel_rfl) (.yes rfl rfl rfl (ltb rfl) rfl rfl) rfl rfl (fun wD mD => op_move rfl) ?_
 refine DR.det (i := 36) rfl rfl (by kernel_rfl) (.yes rfl rfl rfl (ltb rfl) rfl rfl) rfl rfl (fun wD mD => op_nilCheck rfl) ?_
 refine DR.det (i := 37) rfl rfl (by kernel_rfl) (.yes rfl rfl rfl (ltb rfl) rfl rfl) rfl rfl (fun wD mD => op_fieldAddr (off' := 3) rfl Try.runUnderlying33 rfl rfl Try.sizeOf31 rfl) ?_
 refine DR.call (i := 38) (fun uA => uA = .bool true) rfl rfl (by kernel_rfl) (.yes rfl rfl rfl (ltb rfl) rfl rfl) rfl (ltb rfl) ⟨_, rfl⟩ (vs := [.func (.func 142) #[] #[], vP p 3, vP p2 3]) rfl (fun wD mD => oc_call (vs := [vP p 3, vP p2 3]) (cap := []) rfl rfl rfl Try.call142 (c_l02Same (1 : Int) kc0 kc1 0 (z.s0) (z.s1) p 3 [vS bR 0 nR cR, vS bL 0 nR cL, vS bS 0 nS cS, vI 1, vF kc0, vF kc1, vF 0, vF (z.s0), vF (z.s1), .bool op, vF lo, vF re, vF sl] p2 3 [vS bR' 0 nR cR', vS bL' 0 nR cL', vS bS' 0 nS cS', vI 1, vF kc0, vF kc1, vF 0, vF (z.s0), vF (z.s1), .bool op, vF lo, vF re, vF sl] (lB rfl) (lB rfl) wD (Rng.congr ((q.ext md1).ext mD) rfl) (Rng.congr ((q2.ext md1).ext mD) rfl))) ?_ ?_
 ·rintro w1 _ w2 m1 ⟨rfl, m2⟩; exact ⟨rfl, m2⟩
 rintro _ rfl
 refine DD 39 rfl (by kernel_rfl) rfl (fun wD mD => op_pick_t rfl rfl rfl) ?_
 refine DD 40 rfl (by kernel_rfl) rfl (fun wD mD => op_move rfl) ?_
 refine DR.det (i := 41) rfl rfl (by kernel_rfl) (.yes rfl rfl rfl (ltb rfl) rfl rfl) rfl rfl (fun wD mD => op_move rfl) ?_
 refine DR.det (i := 42) rfl rfl (by kernel_rfl) (.yes rfl rfl rfl (ltb rfl) rfl rfl) rfl rfl (fun wD mD => op_nilCheck rfl) ?_
 refine DR.det (i := 43) rfl rfl (by kernel_rfl) (.yes rfl rfl rfl (ltb rfl) rfl rfl) rfl rfl (fun wD mD => op_fieldAddr (off' := 9) rfl Try.runUnderlying33 rfl rfl Try.sizeOf4 rfl) ?_
 refine DR.det (i := 44) rfl rfl (by kernel_rfl) (.yes rfl rfl rfl (ltb rfl) rfl rfl) rfl rfl (fun wD mD => op_load1 (i := 9) rfl Try.isAgg4 ((q.ext md1).ext mD) rfl rfl) ?_
 refine DR.det (i := 45) rfl rfl (by kernel_rfl) (.yes rfl rfl rfl (ltb rfl) rfl rfl) rfl rfl (fun wD mD => op_move rfl) ?_
 refine DR.det (i := 46) rfl rfl (by kernel_rfl) (.yes rfl rfl rfl (ltb rfl) rfl rfl) rfl rfl (fun wD mD => op_nilCheck rfl) ?_
 refine DR.det (i := 47) rfl rfl (by kernel_rfl) (.yes rfl rfl rfl (ltb rfl) rfl rfl) rfl rfl (fun wD mD => op_fieldAddr (off' := 9) rfl Try.runUnderlying33 rfl rfl Try.sizeOf4 rfl) ?_
 refine DR.det (i := 48) rfl rfl (by kernel_rfl) (.yes rfl rfl rfl (ltb rfl) rfl rfl) rfl rfl (fun wD mD => op_load1 (i := 9) rfl Try.isAgg4 ((q2.ext md1).ext mD) rfl rfl) ?_
 refine DR.det (i := 49) rfl rfl (by kernel_rfl) (.yes rfl rfl rfl (ltb rfl) rfl rfl) rfl rfl (fun wD mD => op_eqb_same rfl rfl Try.underlying4) ?_
 refine DD 50 rfl (by kernel_rfl) rfl (fun wD mD => op_pick_t rfl rfl rfl) ?_
 refine DD 51 rfl (by kernel_rfl) rfl (fun wD mD => op_move rfl) ?_
 refine DR.det (i := 52) rfl rfl (by kernel_rfl) (.yes rfl rfl rfl (ltb rfl) rfl rfl) rfl rfl (fun wD mD => op_move rfl) ?_
 refine DR.det (i := 53) rfl rfl (by kernel_rfl) (.yes rfl rfl rfl (ltb rfl) rfl rfl) rfl rfl (fun wD mD => op_nilCheck rfl) ?_
 refine DR.det (i := 54) rfl rfl (by kernel_rfl) (.yes rfl rfl rfl (ltb rfl) rfl rfl) rfl rfl (fun wD mD => op_fieldAddr (off' := 10) rfl Try.runUnderlying33 rfl rfl Try.sizeOf27 rfl) ?_
 refine DR.det (i := 55) rfl rfl (by kernel_rfl) (.yes rfl rfl rfl (ltb rfl) rfl rfl) rfl rfl (fun wD mD => op_load1 (i := 10) rfl Try.isAgg27 ((q.ext md1).ext mD) rfl rfl) ?_
 refine DR.det (i := 56) rfl rfl (by kernel_rfl) (.yes rfl rfl rfl (ltb rfl) rfl rfl) rfl rfl (fun wD mD => op_move rfl) ?_
 refine DR.det (i := 57) rfl rfl (by kernel_rfl) (.yes rfl rfl rfl (ltb rfl) rfl rfl) rfl rfl (fun wD mD => op_nilCheck rfl) ?_
 refine DR.det (i := 58) rfl rfl (by kernel_rfl) (.yes rfl rfl rfl (ltb rfl) rfl rfl) rfl rfl (fun wD mD => op_fieldAddr (off' := 10) rfl Try.runUnderlying33 rfl rfl Try.sizeOf27 rfl) ?_
 refine DR.det (i := 59) rfl rfl (by kernel_rfl) (.yes rfl rfl rfl (ltb rfl) rfl rfl) rfl rfl (fun wD mD => op_load1 (i := 10) rfl Try.isAgg27 ((q2.ext md1).ext mD) rfl rfl) ?_
 refine DR.call (i := 60) (fun uA => uA = .bool (cn .f32 lo == cn .f32 lo)) rfl rfl (by kernel_rfl) (.yes rfl rfl rfl (ltb rfl) rfl rfl) rfl (ltb rfl) ⟨_, rfl⟩ (vs := [.func (.func 128) #[] #[], vF lo, vF lo]) rfl (fun wD mD => oc_call (vs := [vF lo, vF lo]) (cap := []) rfl rfl rfl Try.call128 (c_l01Same lo lo lo lo rfl rfl wD)) ?_ ?_
 ·rintro w1 _ _ m1 ⟨rfl, rfl⟩; exact ⟨rfl, Mod.refl _ _⟩
 rintro _ rfl
 refine DD 61 rfl (by kernel_rfl) rfl (fun wD mD => op_pick_t rfl rfl rfl) ?_
 refine DD 62 rfl (by kernel_rfl) rfl (fun wD mD => op_move rfl) ?_
 refine DR.det (i := 63) rfl rfl (by kernel_rfl) (.yes rfl rfl rfl (ltb rfl) rfl (beq_self_eq_true _)) rfl rfl (fun wD mD => op_move rfl) ?_
 refine DR.det (i := 64) rfl rfl (by kernel_rfl) (.yes rfl rfl rfl (ltb rfl) rfl (beq_self_eq_true _)) rfl rfl (fun wD mD => op_nilCheck rfl) ?_
 refine DR.det (i := 65) rfl rfl (by kernel_rfl) (.yes rfl rfl rfl (ltb rfl) rfl (beq_self_eq_true _)) rfl rfl (fun wD mD => op_fieldAddr (off' := 11) rfl Try.runUnderlying33 rfl rfl Try.sizeOf27 rfl) ?_
 refine DR.det (i := 66) rfl rfl (by kernel_rfl) (.yes rfl rfl rfl (ltb rfl) rfl (beq_self_eq_true _)) rfl rfl (fun wD mD => op_load1 (i := 11) rfl Try.isAgg27 ((q.ext md1).ext mD) rfl rfl) ?_
 refine DR.det (i := 67) rfl rfl (by kernel_rfl) (.yes rfl rfl rfl (ltb rfl) rfl (beq_self_eq_true _)) rfl rfl (fun wD mD => op_move rfl) ?_
 refine DR.det (i := 68) rfl rfl (by kernel_rfl) (.yes rfl rfl rfl (ltb rfl) rfl (beq_self_eq_true _)) rfl rfl (fun wD mD => op_nilCheck rfl) ?_
 refine DR.det (i := 69) rfl rfl (by kernel_rfl) (.yes rfl rfl rfl (ltb rfl) rfl (beq_self_eq_true _)) rfl rfl (fun wD mD => op_fieldAddr (off' := 11) rfl Try.runUnderlying33 rfl rfl Try.sizeOf27 rfl) ?_
 refine DR.det (i := 70) rfl rfl (by kernel_rfl) (.yes rfl rfl rfl (ltb rfl) rfl (beq_self_eq_true _)) rfl rfl (fun wD mD => op_load1 (i := 11) rfl Try.isAgg27 ((q2.ext md1).ext mD) rfl rfl) ?_
 refine DR.call (i := 71) (fun uA => uA = .bool (cn .f32 re == cn .f32 re)) rfl rfl (by kernel_rfl) (.yes rfl rfl rfl (ltb rfl) rfl (beq_self_eq_true _)) rfl (ltb rfl) ⟨_, rfl⟩ (vs := [.func (.func 128) #[] #[], vF re, vF re]) rfl (fun wD mD => oc_call (vs := [vF re, vF re]) (cap := []) rfl rfl rfl Try.call128 (c_l01Same re re re re rfl rfl wD)) ?_ ?_
 ·rintro w1 _ _ m1 ⟨rfl, rfl⟩; exact ⟨rfl, Mod.refl _ _⟩
 rintro _ rfl
 refine DD 72 rfl (by kernel_rfl) rfl (fun wD mD => op_pick_t rfl (beq_self_eq_true _) rfl) ?_
 refine DD 73 rfl (by kernel_rfl) rfl (fun wD mD => op_move rfl) ?_
 refine DR.det (i := 74) rfl rfl (by kernel_rfl) (.yes rfl rfl rfl (ltb rfl) rfl (beq_self_eq_true _)) rfl rfl (fun wD mD => op_move rfl) ?_
 refine DR.det (i := 75) rfl rfl (by kernel_rfl) (.yes rfl rfl rfl (ltb rfl) rfl (beq_self_eq_true _)) rfl rfl (fun wD mD => op_nilCheck rfl) ?_
 refine DR.det (i := 76) rfl rfl (by kernel_rfl) (.yes rfl rfl rfl (ltb rfl) rfl (beq_self_eq_true _)) rfl rfl (fun wD mD => op_fieldAddr (off' := 12) rfl Try.runUnderlying33 rfl rfl Try.sizeOf27 rfl) ?_
 refine DR.det (i := 77) rfl rfl (by kernel_rfl) (.yes rfl rfl rfl (ltb rfl) rfl (beq_self_eq_true _)) rfl rfl (fun wD mD => op_load1 (i := 12) rfl Try.isAgg27 ((q.ext md1).ext mD) rfl rfl) ?_
 refine DR.det (i := 78) rfl rfl (by kernel_rfl) (.yes rfl rfl rfl (ltb rfl) rfl (beq_self_eq_true _)) rfl rfl (fun wD mD => op_move rfl) ?_
 refine DR.det (i := 79) rfl rfl (by kernel_rfl) (.yes rfl rfl rfl (ltb rfl) rfl (beq_self_eq_true _)) rfl rfl (fun wD mD => op_nilCheck rfl) ?_
 refine DR.det (i := 80) rfl rfl (by kernel_rfl) (.yes rfl rfl rfl (ltb rfl) rfl (beq_self_eq_true _)) rfl rfl (fun wD mD => op_fieldAddr (off' := 12) rfl Try.runUnderlying33 rfl rfl Try.sizeOf27 rfl) ?_
 refine DR.det (i := 81) rfl rfl (by kernel_rfl) (.yes rfl rfl rfl (ltb rfl) rfl (beq_self_eq_true _)) rfl rfl (fun wD mD => op_load1 (i := 12) rfl Try.isAgg27 ((q2.ext md1).ext mD) rfl rfl) ?_
 refine DR.done rfl ?_
 intro w2 m1
 refine WO.call rfl (.yes rfl rfl rfl (ltb rfl) rfl (beq_self_eq_true _)) rfl (ltb rfl) (oc_call (vs := [vF sl, vF sl]) (cap := []) rfl rfl rfl Try.call128 (c_l01Same sl sl sl sl rfl rfl w2)) ?_
 rintro _ _ ⟨rfl, rfl⟩
 refine WO.det (op_pick_t rfl (beq_self_eq_true _) rfl) rfl (.free rfl) rfl rfl ?_
 refine WO.det (op_assign rfl) rfl (.free rfl) rfl rfl ?_
 refine WO.end (NE.code (CE.ret' ?_))
 refine XE.leave1 Try.results97 rfl ?_
 refine ⟨?_, (((Mod.refl [] w).nt md1).nt m1)⟩
 all_goals simp_all

theorem c_SamePipeZ (nR : Nat) (nS : Nat) (xS : List Nat) (kc0 : Nat) (kc1 : Nat) (op : Bool) (lo : Nat) (re : Nat) (sl : Nat) (z : PipeSt) (cR : Nat) (bR : Nat) (PR : List BC) (loR : Nat) (cL : Nat) (bL : Nat) (PL : List BC) (loL : Nat) (cS : Nat) (bS : Nat) (cR' : Nat) (bR' : Nat) (PR' : List BC) (loR' : Nat) (cL' : Nat) (bL' : Nat) (PL' : List BC) (loL' : Nat) (cS' : Nat) (bS' : Nat) (hdz : DPz nR nS xS kc0 kc1 lo re sl z 57) (lDR : z.R.length = nR) (lDL : z.L.length = nR) (lPR : PR.length = nR) (lPL : PL.length = nR) (lnS : xS.length = nS) (lPR' : PR'.length = nR) (lPL' : PL'.length = nR) (w : World) (rR : Rng w bR 0 (olc z.R PR)) (rL : Rng w bL 0 (olc z.L PL)) (rS : Rng w bS 0 (fl xS)) (rR' : Rng w bR' 0 (olc z.R PR')) (rL' : Rng w bL' 0 (olc z.L PL')) (rS' : Rng w bS' 0 (fl xS))  (FR : OF loR w z.R PR) (FL : OF loL w z.L PL) (FR' : OF loR' w z.R PR') (FL' : OF loL' w z.L PL') : Cl Try.prog 37 #[.agg #[vS bR 0 nR cR, vS bL 0 nR cL, vS bS 0 nS cS, vI 1, vF kc0, vF kc1, vF 0, vF (z.s0), vF (z.s1), .bool op, vF lo, vF re, vF sl], .agg #[vS bR' 0 nR cR', vS bL' 0 nR cL', vS bS' 0 nS cS', vI 1, vF kc0, vF kc1, vF 0, vF (z.s0), vF (z.s1), .bool op, vF lo, vF re, vF sl]] w fun v w' => v = .bool true ∧ Mod [] w w' := by
 refine Cl.of Try.func37 Try.ntmps37 rfl rfl (ρ := [(0, .agg #[vS bR 0 nR cR, vS bL 0 nR cL, vS bS 0 nS cS, vI 1, vF kc0, vF kc1, vF 0, vF (z.s0), vF (z.s1), .bool op, vF lo, vF re, vF sl]), (1, .agg #[vS bR' 0 nR cR', vS bL' 0 nR cL', vS bS' 0 nS cS', vI 1, vF kc0, vF kc1, vF 0, vF (z.s0), vF (z.s1), .bool op, vF lo, vF re, vF sl])]) rfl ?_
 refine CE.seq (CE.region ?_)
 refine WL.op (op_box (cs := [vS bR 0 nR cR, vS bL 0 nR cL, vS bS 0 nS cS, vI 1, vF kc0, vF kc1, vF 0, vF (z.s0), vF (z.s1), .bool op, vF lo, vF re, vF sl]) rfl rfl) rfl rfl (ltb rfl) ?_
 rintro _ w1 ⟨rfl, r1, m1, z1⟩
 refine WL.op (op_box (cs := [vS bR' 0 nR cR', vS bL' 0 nR cL', vS bS' 0 nS cS', vI 1, vF kc0, vF kc1, vF 0, vF (z.s0), vF (z.s1), .bool op, vF lo, vF re, vF sl]) rfl rfl) rfl rfl (ltb rfl) ?_
 rintro _ w2 ⟨rfl, r2, m2, z2⟩
 refine WD (op_assign rfl) rfl ?_
 refine WL.end (NE.code (CE.seq (CE.region ?_)))
 refine WL.call (oc_call (vs := [vP w.heap.size 0, vP w1.heap.size 0]) (cap := []) rfl rfl rfl Try.call97 (c_l04SameX nR nS xS kc0 kc1 op lo re sl z cR bR PR loR cL bL PL loL cS bS cR' bR' PR' loR' cL' bL' PL' loL' cS' bS' w.heap.size w1.heap.size (by first | with_reducible assumption | exact DPz.mono (by with_reducible assumption) (by omega) | exact zTo_dz (by with_reducible assumption) (by with_reducible assumption) (by with_reducible first | assumption | exact bd_take (by assumption) _) (by omega)) lDR lDL lPR lPL lnS lPR' lPL' w2 (r1.ext m2).rng r2.rng ((rR.ext m1).ext m2) ((rL.ext m1).ext m2) ((rS.ext m1).ext m2) ((rR'.ext m1).ext m2) ((rL'.ext m1).ext m2) ((rS'.ext m1).ext m2) ((FR.ext m1).ext m2) ((FL.ext m1).ext m2) ((FR'.ext m1).ext m2) ((FL'.ext m1).ext m2))) rfl rfl (ltb rfl) ?_
 rintro _ w3 ⟨rfl, m3⟩
 refine WD (op_assign rfl) rfl ?_
 refine WL.end (NE.code (CE.ret' ?_))
 refine XE.leave1 Try.results37 rfl ?_
 refine ⟨rfl, ((((Mod.refl [] w).nt m1).nt m2).nt m3)⟩

theorem c_SamePipeX (nR : Nat) (nS : Nat) (xS : List Nat) (kc0 : Nat) (kc1 : Nat) (op : Bool) (lo : Nat) (re : Nat) (sl : Nat) (z : PipeSt) (cR : Nat) (bR : Nat) (PR : List BC) (loR : Nat) (cL : Nat) (bL : Nat) (PL : List BC) (loL : Nat) (cS : Nat) (bS : Nat) (y : PipeSt) (cR' : Nat) (bR' : Nat) (PR' : List BC) (loR' : Nat) (cL' : Nat) (bL' : Nat) (PL' : List BC) (loL' : Nat) (cS' : Nat) (bS' : Nat) (hdz : DPz nR nS xS kc0 kc1 lo re sl y 57) (lDR : z.R.length = nR) (lDL : z.L.length = nR) (lPR : PR.length = nR) (lPL : PL.length = nR) (lnS : xS.length = nS) (lPR' : PR'.length = nR) (lPL' : PL'.length = nR) (he : z = y) (lYR : y.R.length = nR) (lYL : y.L.length = nR) (w : World) (rR : Rng w bR 0 (olc z.R PR)) (rL : Rng w bL 0 (olc z.L PL)) (rS : Rng w bS 0 (fl xS)) (rR' : Rng w bR' 0 (olc y.R PR')) (rL' : Rng w bL' 0 (olc y.L PL')) (rS' : Rng w bS' 0 (fl xS))  (FR : OF loR w z.R PR) (FL : OF loL w z.L PL) (FR' : OF loR' w y.R PR') (FL' : OF loL' w y.L PL') : Cl Try.prog 37 #[.agg #[vS bR 0 nR cR, vS bL 0 nR cL, vS bS 0 nS cS, vI 1, vF kc0, vF kc1, vF 0, vF (z.s0), vF (z.s1), .bool op, vF lo, vF re, vF sl], .agg #[vS bR' 0 nR cR', vS bL' 0 nR cL', vS bS' 0 nS cS', vI 1, vF kc0, vF kc1, vF 0, vF (y.s0), vF (y.s1), .bool op, vF lo, vF re, vF sl]] w fun v w' => v = .bool true ∧ Mod [] w w' := by
  subst he
  exact c_SamePipeZ nR nS xS kc0 kc1 op lo re sl z cR bR PR loR cL bL PL loL cS bS cR' bR' PR' loR' cL' bL' PL' loL' cS' bS' hdz lDR lDL lPR lPL lnS lPR' lPL' w rR rL rS rR' rL' rS' FR FL FR' FL'

end Go.Proofs.Ytnahhdnkbbdceaa
