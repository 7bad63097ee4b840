/- Pulses of drawn pipes. -/
import Derived.Test.YtnahhdnkbbdceaaN15
import Derived.Test.YtnahhdnkbbdceaaN14
set_option linter.unusedVariables false
set_option linter.unusedSimpArgs false
set_option maxRecDepth 100000
set_option maxHeartbeats 8000000
namespace Go.Proofs.Ytnahhdnkbbdceaa

theorem set1_lens {D : List RD} {m i a j : Nat} : ((D.set m ⟨(D.getD m RD.d).xs.set i a, (D.getD m RD.d).at_⟩).getD j RD.d).xs.length = (D.getD j RD.d).xs.length ∧ ((D.set m ⟨(D.getD m RD.d).xs.set i a, (D.getD m RD.d).at_⟩).getD j RD.d).at_ = (D.getD j RD.d).at_ := by
  by_cases hm : m < D.length
  · by_cases e : m = j
    · subst e
      simp [List.getD_eq_getElem?_getD, hm]
    · simp only [List.getD_eq_getElem?_getD, List.getElem?_set_ne e, and_self]
  · rw [List.set_eq_of_length_le (by omega)]; exact ⟨rfl, rfl⟩
theorem set1_same {D : List RD} {m i a : Nat} (hm : m < D.length) : (D.set m ⟨(D.getD m RD.d).xs.set i a, (D.getD m RD.d).at_⟩).getD m RD.d = ⟨(D.getD m RD.d).xs.set i a, (D.getD m RD.d).at_⟩ := by
  simp [List.getD_eq_getElem?_getD, hm]
theorem set1_other {D : List RD} {m j : Nat} {x : RD} (h : m ≠ j) : (D.set m x).getD j RD.d = D.getD j RD.d := by
  simp only [List.getD_eq_getElem?_getD, List.getElem?_set_ne h]
theorem set1_every {P : Nat → Prop} {D : List RD} {m q a : Nat} (h : ∀ i j, P ((D.getD i RD.d).xs.getD j 0)) (ha : P a) (i j : Nat) : P (((D.set m ⟨(D.getD m RD.d).xs.set q a, (D.getD m RD.d).at_⟩).getD i RD.d).xs.getD j 0) := by
  by_cases hm : m < D.length
  · by_cases e : m = i
    · subst e
      rw [set1_same hm]
      exact set_all (h m) ha j
    · rw [set1_other e]; exact h i j
  · rw [List.set_eq_of_length_le (by omega)]; exact h i j
theorem GoodD.set1 {D : List RD} {n m q a : Nat} (h : GoodD D n) (ha : a < wid .f32) : GoodD (D.set m ⟨(D.getD m RD.d).xs.set q a, (D.getD m RD.d).at_⟩) n := by
  refine ⟨fun i hi => ?_, fun i hi => ?_, fun i => ?_⟩
  · rw [(set1_lens (D := D) (m := m) (i := q) (a := a) (j := i)).2]; exact h.ge i hi
  · rw [(set1_lens (D := D) (m := m) (i := q) (a := a) (j := i)).2, (set1_lens (D := D) (m := m) (i := q) (a := a) (j := i)).1]; exact h.lt i hi
  · by_cases hm : m < D.length
    · by_cases e : m = i
      · subst e
        rw [set1_same hm]
        exact W32.set (h.wd m) ha
      · rw [set1_other e]; exact h.wd i
    · rw [List.set_eq_of_length_le (by omega)]; exact h.wd i
/-- a pipe behind a pulse -/
def pulZ (z : PipeSt) (m pl a : Nat) : PipeSt :=
  ⟨z.R.set m ⟨(z.R.getD m RD.d).xs.set (iR z m pl) (keptF (fop .add .f32 ((z.R.getD m RD.d).xs.getD (iR z m pl) 0) (fop .mul .f32 1056964608 a))), (z.R.getD m RD.d).at_⟩,
    z.L.set m ⟨(z.L.getD m RD.d).xs.set (iL z m pl) (keptF (fop .add .f32 ((z.L.getD m RD.d).xs.getD (iL z m pl) 0) (fop .mul .f32 1056964608 a))), (z.L.getD m RD.d).at_⟩, z.s0, z.s1⟩
theorem DPz.pul {nR nS c0 c1 lo re sl k m pl a : Nat} {xS : List Nat} {z : PipeSt} (h : DPz nR nS xS c0 c1 lo re sl z k) (ha : Bd a k) (hk : k ≤ 90) : DPz nR nS xS c0 c1 lo re sl (pulZ z m pl a) (k + 1) := by
  have b0 : Bd 1056964608 0 := by unfold Bd; omega
  have hh : Bd (fop .mul .f32 1056964608 a) k := by
    have := b0.mul2 ha (by omega)
    rwa [Nat.zero_add] at this
  have kr : ∀ x, Bd x k → Bd (keptF (fop .add .f32 x (fop .mul .f32 1056964608 a))) (k + 1) := fun x hx => (Bd.add2 hx hh (by omega)).kept
  have kw : ∀ x, keptF (fop .add .f32 x (fop .mul .f32 1056964608 a)) < wid .f32 := fun x => kept_lt _ (fop_lt _ _ _ _)
  refine ⟨h.n1, h.n3, h.sn, h.lS, List.length_set.trans h.lR, List.length_set.trans h.lL, fun i hi => ?_, h.gR.set1 (kw _), h.gL.set1 (kw _), h.cb, h.sc, ⟨?_, ?_, h.zb.s.mono (Nat.le_succ _)⟩, h.w0, h.w1⟩
  · have := h.ln i hi
    unfold pulZ
    rw [(set1_lens (D := z.R)).1, (set1_lens (D := z.L)).1]; exact this
  · exact set1_every (P := fun x => Bd x (k + 1)) (fun i j => (h.zb.r i j).mono (Nat.le_succ _)) (kr _ (h.zb.r m _))
  · exact set1_every (P := fun x => Bd x (k + 1)) (fun i j => (h.zb.l i j).mono (Nat.le_succ _)) (kr _ (h.zb.l m _))

theorem c_iPressZ (nR : Nat) (nS : Nat) (xS : List Nat) (kc0 : Nat) (kc1 : Nat) (op : Bool) (lo : Nat) (re : Nat) (sl : Nat) (z : PipeSt) (cR : Nat) (bR : Nat) (PR : List BC) (loR : Nat) (cL : Nat) (bL : Nat) (PL : List BC) (loL : Nat) (cS : Nat) (bS : Nat) (m : Nat) (pl : Nat) (hdz : DPz nR nS xS kc0 kc1 lo re sl z 57) (lDR : z.R.length = nR) (lDL : z.L.length = nR) (lPR : PR.length = nR) (lPL : PL.length = nR) (lnS : xS.length = nS) (hm : m < nR) (hpl : pl < (z.R.getD m RD.d).xs.length) (w : World) (rR : Rng w bR 0 (olc z.R PR)) (rL : Rng w bL 0 (olc z.L PL)) (rS : Rng w bS 0 (fl xS))  (FR : OF loR w z.R PR) (FL : OF loL w z.L PL) : Cl Try.prog 39 #[.agg #[vS bR 0 nR cR, vS bL 0 nR cL, vS bS 0 nS cS, vI 1, vF kc0, vF kc1, vF 0, vF (z.s0), vF (z.s1), .bool op, vF lo, vF re, vF sl], vI ((m : Nat) : Int), vI ((pl : Nat) : Int)] w fun v w' => ∃ (y : Nat), v = .tuple #[vF y, vI 0] ∧ (cn .f32 y = cn .f32 (prD z m pl)) ∧ (y < wid .f32) ∧ Mod [] w w' := by
  obtain ⟨e1, l1⟩ := hdz.gR.at_nat hm
  obtain ⟨e2, l2⟩ := hdz.gL.at_nat hm
  exact c_iPressA nR nS xS kc0 kc1 op lo re sl z cR bR PR loR cL bL PL loL cS bS m pl _ _ hdz lDR lDL lPR lPL lnS hm hpl e1 e2 l1 l2 w rR rL rS FR FL

theorem c_sPressZ (nR : Nat) (nS : Nat) (xS : List Nat) (kc0 : Nat) (kc1 : Nat) (op : Bool) (lo : Nat) (re : Nat) (sl : Nat) (z : PipeSt) (cR : Nat) (bR : Nat) (PR : List BC) (loR : Nat) (cL : Nat) (bL : Nat) (PL : List BC) (loL : Nat) (cS : Nat) (bS : Nat) (m : Nat) (pl : Nat) (hdz : DPz nR nS xS kc0 kc1 lo re sl z 57) (lDR : z.R.length = nR) (lDL : z.L.length = nR) (lPR : PR.length = nR) (lPL : PL.length = nR) (lnS : xS.length = nS) (hm : m < nR) (hpl : pl < (z.R.getD m RD.d).xs.length) (w : World) (rR : Rng w bR 0 (olc z.R PR)) (rL : Rng w bL 0 (olc z.L PL)) (rS : Rng w bS 0 (fl xS))  (FR : OF loR w z.R PR) (FL : OF loL w z.L PL) : Cl Try.prog 38 #[.agg #[vS bR 0 nR cR, vS bL 0 nR cL, vS bS 0 nS cS, vI 1, vF kc0, vF kc1, vF 0, vF (z.s0), vF (z.s1), .bool op, vF lo, vF re, vF sl], vI ((m : Nat) : Int), vI ((pl : Nat) : Int)] w fun v w' => ∃ (y : Nat), v = .tuple #[vF y, vI 0] ∧ (cn .f32 y = cn .f32 (prD z m pl)) ∧ (y < wid .f32) ∧ Mod [] w w' := by
  obtain ⟨e1, l1⟩ := hdz.gR.at_nat hm
  obtain ⟨e2, l2⟩ := hdz.gL.at_nat hm
  exact c_sPressA nR nS xS kc0 kc1 op lo re sl z cR bR PR loR cL bL PL loL cS bS m pl _ _ hdz lDR lDL lPR lPL lnS hm hpl e1 e2 l1 l2 w rR rL rS FR FL

theorem c_iPulZ (nR : Nat) (nS : Nat) (xS : List Nat) (kc0 : Nat) (kc1 : Nat) (op : Bool) (lo : Nat) (re : Nat) (sl : Nat) (z : PipeSt) (cR : Nat) (bR : Nat) (PR : List BC) (loR : Nat) (cL : Nat) (bL : Nat) (PL : List BC) (loL : Nat) (cS : Nat) (bS : Nat) (m : Nat) (pl : Nat) (a : Nat) (hdz : DPz nR nS xS kc0 kc1 lo re sl z 25) (lDR : z.R.length = nR) (lDL : z.L.length = nR) (lPR : PR.length = nR) (lPL : PL.length = nR) (lnS : xS.length = nS) (hm : m < nR) (hpl : pl < (z.R.getD m RD.d).xs.length) (hf : finF a = true) (ha : Bd a 1) (la : a < wid .f32) (w : World) (rR : Rng w bR 0 (olc z.R PR)) (rL : Rng w bL 0 (olc z.L PL)) (rS : Rng w bS 0 (fl xS))  (FR : OF loR w z.R PR) (FL : OF loL w z.L PL) : Cl Try.prog 35 #[.agg #[vS bR 0 nR cR, vS bL 0 nR cL, vS bS 0 nS cS, vI 1, vF kc0, vF kc1, vF 0, vF (z.s0), vF (z.s1), .bool op, vF lo, vF re, vF sl], vI ((m : Nat) : Int), vI ((pl : Nat) : Int), vF a] w fun v w' => ∃ (bR' : Nat) (cR' : Nat) (PR' : List BC) (bL' : Nat) (cL' : Nat) (PL' : List BC) (bS' : Nat) (cS' : Nat) (zz : PipeSt), v = .tuple #[.agg #[vS bR' 0 nR cR', vS bL' 0 nR cL', vS bS' 0 nS cS', vI 1, vF kc0, vF kc1, vF 0, vF (zz.s0), vF (zz.s1), .bool op, vF lo, vF re, vF sl], vI 0] ∧ (PR'.length = nR) ∧ (PL'.length = nR) ∧ (zz = pulZ z m pl a) ∧ (zz.R.length = nR) ∧ (zz.L.length = nR) ∧ (xS.length = nS) ∧ (DPz nR nS xS kc0 kc1 lo re sl zz 57) ∧ Row w' bR' 0 (olc zz.R PR') ∧ Row w' bL' 0 (olc zz.L PL') ∧ Row w' bS' 0 (fl xS) ∧ w.heap.size ≤ bR' ∧ w.heap.size ≤ bL' ∧ w.heap.size ≤ bS' ∧ bR' ≠ bL' ∧ bR' ≠ bS' ∧ bL' ≠ bS' ∧ OF w.heap.size w' zz.R PR' ∧ (∀ i, i < nR → (PR'.getD i BC.d).b ≠ bR') ∧ (∀ i, i < nR → (PR'.getD i BC.d).b ≠ bL') ∧ (∀ i, i < nR → (PR'.getD i BC.d).b ≠ bS') ∧ (∀ i j, i < nR → j < nR → (PR'.getD i BC.d).b ≠ (PL'.getD j BC.d).b) ∧ OF w.heap.size w' zz.L PL' ∧ (∀ i, i < nR → (PL'.getD i BC.d).b ≠ bR') ∧ (∀ i, i < nR → (PL'.getD i BC.d).b ≠ bL') ∧ (∀ i, i < nR → (PL'.getD i BC.d).b ≠ bS') ∧ Mod [] w w' := by
  have q1 := hdz.n1
  have q2 := hdz.n3
  have q3 := hdz.sn
  have w1 : z.s1 < wid .f32 := by rw [hdz.w1, wid32]; omega
  obtain ⟨e1, l1⟩ := hdz.gR.at_nat hm
  obtain ⟨e2, l2⟩ := hdz.gL.at_nat hm
  have hll : (z.R.getD m RD.d).xs.length = (z.L.getD m RD.d).xs.length := (hdz.ln m hm).2.2.symm
  by_cases h0 : 0 < nS
  · refine (c_iPulseS nR z.R nR z.L nS xS cR bR PR loR cL bL PL loL cS bS 1 kc0 kc1 0 z.s0 z.s1 op lo re sl m pl a _ _ _ _ lDR lDL lnS hdz.small.1 hdz.small.2 lPR lPL (by omega) (by omega) (by omega) (by omega) (by omega) hdz.pos.1 hdz.pos.2 (by omega) h0 hm rfl hpl e1 e2 l1 l2 hll (hdz.gR.wd m) (hdz.gL.wd m) (hdz.valid (by omega)) hf la rfl rfl (List.length_set.trans lDR) (List.length_set.trans lDL) w rR rL rS FR FL).mono ?_
    rintro v w' ⟨bR', cR', PR', bL', cL', PL', bS', cS', hv, p0, p1, hr⟩
    exact ⟨bR', cR', PR', bL', cL', PL', bS', cS', pulZ z m pl a, hv, p0, p1, rfl, List.length_set.trans lDR, List.length_set.trans lDL, lnS, (hdz.pul (ha.mono (by omega)) (by omega)).mono (by omega), hr⟩
  · obtain rfl : nS = 0 := by omega
    refine (c_iPulseS0 nR z.R nR z.L xS cR bR PR loR cL bL PL loL cS bS 1 kc0 kc1 0 z.s0 z.s1 op lo re sl m pl a _ _ _ _ lDR lDL lnS hdz.small.1 hdz.small.2 lPR lPL (by omega) (by omega) (by omega) (by omega) hdz.pos.1 hdz.pos.2 (by omega) hm rfl hpl e1 e2 l1 l2 hll (hdz.gR.wd m) (hdz.gL.wd m) (hdz.valid (by omega)) hf la rfl rfl (List.length_set.trans lDR) (List.length_set.trans lDL) w rR rL rS FR FL).mono ?_
    rintro v w' ⟨bR', cR', PR', bL', cL', PL', bS', cS', hv, p0, p1, hr⟩
    exact ⟨bR', cR', PR', bL', cL', PL', bS', cS', pulZ z m pl a, hv, p0, p1, rfl, List.length_set.trans lDR, List.length_set.trans lDL, lnS, (hdz.pul (ha.mono (by omega)) (by omega)).mono (by omega), hr⟩

theorem c_sPulZ (nR : Nat) (nS : Nat) (xS : List Nat) (kc0 : Nat) (kc1 : Nat) (op : Bool) (lo : Nat) (re : Nat) (sl : Nat) (z : PipeSt) (cR : Nat) (bR : Nat) (PR : List BC) (loR : Nat) (cL : Nat) (bL : Nat) (PL : List BC) (loL : Nat) (cS : Nat) (bS : Nat) (m : Nat) (pl : Nat) (a : Nat) (hdz : DPz nR nS xS kc0 kc1 lo re sl z 25) (lDR : z.R.length = nR) (lDL : z.L.length = nR) (lPR : PR.length = nR) (lPL : PL.length = nR) (lnS : xS.length = nS) (hm : m < nR) (hpl : pl < (z.R.getD m RD.d).xs.length) (hf : finF a = true) (ha : Bd a 1) (la : a < wid .f32) (w : World) (rR : Rng w bR 0 (olc z.R PR)) (rL : Rng w bL 0 (olc z.L PL)) (rS : Rng w bS 0 (fl xS))  (FR : OF loR w z.R PR) (FL : OF loL w z.L PL) : Cl Try.prog 36 #[.agg #[vS bR 0 nR cR, vS bL 0 nR cL, vS bS 0 nS cS, vI 1, vF kc0, vF kc1, vF 0, vF (z.s0), vF (z.s1), .bool op, vF lo, vF re, vF sl], vI ((m : Nat) : Int), vI ((pl : Nat) : Int), vF a] w fun v w' => ∃ (bR' : Nat) (cR' : Nat) (PR' : List BC) (bL' : Nat) (cL' : Nat) (PL' : List BC) (bS' : Nat) (cS' : Nat) (zz : PipeSt), v = .tuple #[.agg #[vS bR' 0 nR cR', vS bL' 0 nR cL', vS bS' 0 nS cS', vI 1, vF kc0, vF kc1, vF 0, vF (zz.s0), vF (zz.s1), .bool op, vF lo, vF re, vF sl], vI 0] ∧ (PR'.length = nR) ∧ (PL'.length = nR) ∧ (zz = pulZ z m pl a) ∧ (zz.R.length = nR) ∧ (zz.L.length = nR) ∧ (xS.length = nS) ∧ (DPz nR nS xS kc0 kc1 lo re sl zz 57) ∧ Row w' bR' 0 (olc zz.R PR') ∧ Row w' bL' 0 (olc zz.L PL') ∧ Row w' bS' 0 (fl xS) ∧ w.heap.size ≤ bR' ∧ w.heap.size ≤ bL' ∧ w.heap.size ≤ bS' ∧ bR' ≠ bL' ∧ bR' ≠ bS' ∧ bL' ≠ bS' ∧ OF w.heap.size w' zz.R PR' ∧ (∀ i, i < nR → (PR'.getD i BC.d).b ≠ bR') ∧ (∀ i, i < nR → (PR'.getD i BC.d).b ≠ bL') ∧ (∀ i, i < nR → (PR'.getD i BC.d).b ≠ bS') ∧ (∀ i j, i < nR → j < nR → (PR'.getD i BC.d).b ≠ (PL'.getD j BC.d).b) ∧ OF w.heap.size w' zz.L PL' ∧ (∀ i, i < nR → (PL'.getD i BC.d).b ≠ bR') ∧ (∀ i, i < nR → (PL'.getD i BC.d).b ≠ bL') ∧ (∀ i, i < nR → (PL'.getD i BC.d).b ≠ bS') ∧ Mod [] w w' := by
  have q1 := hdz.n1
  have q2 := hdz.n3
  have q3 := hdz.sn
  have w1 : z.s1 < wid .f32 := by rw [hdz.w1, wid32]; omega
  obtain ⟨e1, l1⟩ := hdz.gR.at_nat hm
  obtain ⟨e2, l2⟩ := hdz.gL.at_nat hm
  have hll : (z.R.getD m RD.d).xs.length = (z.L.getD m RD.d).xs.length := (hdz.ln m hm).2.2.symm
  by_cases h0 : 0 < nS
  · refine (c_sPulseS nR z.R nR z.L nS xS cR bR PR loR cL bL PL loL cS bS 1 kc0 kc1 0 z.s0 z.s1 op lo re sl m pl a _ _ _ _ lDR lDL lnS hdz.small.1 hdz.small.2 lPR lPL (by omega) (by omega) (by omega) (by omega) (by omega) hdz.pos.1 hdz.pos.2 (by omega) h0 hm rfl hpl e1 e2 l1 l2 hll (hdz.gR.wd m) (hdz.gL.wd m) (hdz.valid (by omega)) hf la rfl rfl (List.length_set.trans lDR) (List.length_set.trans lDL) w rR rL rS FR FL).mono ?_
    rintro v w' ⟨bR', cR', PR', bL', cL', PL', bS', cS', hv, p0, p1, hr⟩
    exact ⟨bR', cR', PR', bL', cL', PL', bS', cS', pulZ z m pl a, hv, p0, p1, rfl, List.length_set.trans lDR, List.length_set.trans lDL, lnS, (hdz.pul (ha.mono (by omega)) (by omega)).mono (by omega), hr⟩
  · obtain rfl : nS = 0 := by omega
    refine (c_sPulseS0 nR z.R nR z.L xS cR bR PR loR cL bL PL loL cS bS 1 kc0 kc1 0 z.s0 z.s1 op lo re sl m pl a _ _ _ _ lDR lDL lnS hdz.small.1 hdz.small.2 lPR lPL (by omega) (by omega) (by omega) (by omega) hdz.pos.1 hdz.pos.2 (by omega) hm rfl hpl e1 e2 l1 l2 hll (hdz.gR.wd m) (hdz.gL.wd m) (hdz.valid (by omega)) hf la rfl rfl (List.length_set.trans lDR) (List.length_set.trans lDL) w rR rL rS FR FL).mono ?_
    rintro v w' ⟨bR', cR', PR', bL', cL', PL', bS', cS', hv, p0, p1, hr⟩
    exact ⟨bR', cR', PR', bL', cL', PL', bS', cS', pulZ z m pl a, hv, p0, p1, rfl, List.length_set.trans lDR, List.length_set.trans lDL, lnS, (hdz.pul (ha.mono (by omega)) (by omega)).mono (by omega), hr⟩

end Go.Proofs.Ytnahhdnkbbdceaa
