/- What the checks on pipes compute. -/
import Derived.Test.YtnahhdnkbbdceaaV0
set_option linter.unusedVariables false
set_option linter.unusedSimpArgs false
set_option maxRecDepth 100000
set_option maxHeartbeats 8000000
namespace Go.Proofs.Ytnahhdnkbbdceaa

/-- the first `i` rings are valid -/
def vRings (D : List RD) : Nat → Bool
  | 0 => true
  | i + 1 => vRings D i && vRingF (D.getD i RD.d).xs.length (D.getD i RD.d).at_ (D.getD i RD.d).xs
/-- the first `i` rings of two lists are as long as each other -/
def vLens (D E : List RD) : Nat → Bool
  | 0 => true
  | i + 1 => vLens D E i && (((((D.getD i RD.d).xs.length : Nat) : Int)) == (((E.getD i RD.d).xs.length : Nat) : Int))
theorem out_of {f : Nat → Bool} {v : Nat → Bool} (hv : ∀ i, f (i + 1) = (f i && v i)) {i n : Nat} (hi : i < n) (h : v i = false) : f n = false := by
  induction n with
  | zero => omega
  | succ n ih =>
    rcases Nat.lt_or_ge i n with c | c
    · rw [hv, ih c, Bool.false_and]
    · obtain rfl : i = n := by omega
      rw [hv, h, Bool.and_false]
theorem vRings_out {D : List RD} {i n : Nat} (hi : i < n) (h : vRingF (D.getD i RD.d).xs.length (D.getD i RD.d).at_ (D.getD i RD.d).xs = false) : vRings D n = false := out_of (fun _ => rfl) hi h
theorem vLens_out {D E : List RD} {i n : Nat} (hi : i < n) (h : (((((D.getD i RD.d).xs.length : Nat) : Int)) == (((E.getD i RD.d).xs.length : Nat) : Int)) = false) : vLens D E n = false := out_of (fun _ => rfl) hi h
theorem vRings_get {D : List RD} {i n : Nat} (h : vRings D n = true) (hi : i < n) : vRingF (D.getD i RD.d).xs.length (D.getD i RD.d).at_ (D.getD i RD.d).xs = true := by
  cases hv : vRingF (D.getD i RD.d).xs.length (D.getD i RD.d).at_ (D.getD i RD.d).xs
  · rw [vRings_out hi hv] at h; cases h
  · rfl
/-- the condition on a pipe -/
def vPipe (nR nL nS : Nat) (GR GL : List RD) (xS : List Nat) (k : Int) (kc0 kc1 kc2 ks0 ks1 lo re sl : Nat) : Bool :=
  decide (1 ≤ nR ∧ nR ≤ 3 ∧ nL = nR ∧ nS + 1 = nR) && vRings GR nR && vRings GL nR && vLens GR GL nR && vSc xS nS && (vFil k kc0 kc1 kc2 ks0 ks1 && (k == 1)) && allF [lo, re, sl] 3
theorem vPipe_eq {nR nL nS : Nat} {GR GL : List RD} {xS : List Nat} {k : Int} {kc0 kc1 kc2 ks0 ks1 lo re sl : Nat} (h1 : 1 ≤ nR) (h2 : nR ≤ 3) (h3 : nL = nR) (h4 : nS + 1 = nR) : vPipe nR nL nS GR GL xS k kc0 kc1 kc2 ks0 ks1 lo re sl = (vRings GR nR && vRings GL nR && vLens GR GL nR && vSc xS nS && (vFil k kc0 kc1 kc2 ks0 ks1 && (k == 1)) && allF [lo, re, sl] 3) := by
  unfold vPipe
  rw [decide_eq_true ⟨h1, h2, h3, h4⟩, Bool.true_and]

theorem c_l04RingsS (n : Nat) (c : Nat) (b : Nat) (D : List RD) (P : List BC) (lo : Nat) (lD : D.length = n) (lP : P.length = n) (hz : ∀ i, (D.getD i RD.d).xs.length ≤ 1048576) (hn : n ≤ 1048576) (w : World) (r : Rng w b 0 (olc D P))  (F : OF lo w D P) : Cl Try.prog 108 #[vS b 0 n c] w fun v w' => v = .bool (vRings D n) ∧ Mod [] w w' := by
 refine Cl.of Try.func108 Try.ntmps108 rfl rfl (ρ := [(0, vS b 0 n c)]) rfl ?_
 refine CE.seq (CE.region ?_)
 refine WD (op_assign rfl) rfl ?_
 refine WL.end (NE.code (CE.seq (CE.seq (CE.region ?_))))
 refine WD (op_assign rfl) rfl ?_
 refine WL.end (NE.code (CE.block ?_))
 refine CE.loop (fun (i : Nat) => [(3, vI ((i : Nat) : Int)), (0, vS b 0 n c), (2, .bool false)]) (fun (i : Nat) => fun W => (i ≤ n) ∧ (vRings D i = true) ∧ Mod [] w W) (fun (i : Nat) => n - i) 0 (⟨rfl, rfl, rfl, trivial⟩) ⟨(by omega), (by rfl), Mod.refl _ _⟩ ?_
 rintro i w1 ⟨hi, hu, m1⟩
 have hzi := hz i
 show CE _ _ _ _ [(3, vI ((i : Nat) : Int)), (0, vS b 0 n c), (2, .bool false)] _
 refine CE.seq (CE.seq (CE.region ?_))
 iterate 2 refine WD (op_move rfl) rfl ?_
 refine WD (op_len rfl Try.runUnderlying25) rfl ?_
 refine WD (op_lti rfl rfl) rfl ?_
 refine WL.end (NE.code ?_)
 rcases Bool.eq_false_or_eq_true (decide (((i : Nat) : Int) < ((n : Nat) : Int))) with hb1 | hb1
 ·have hp1 := of_decide_eq_true hb1
  refine CE.cond_t rfl hb1 ?_
  refine CE.skip' (NE.code (CE.seq (CE.block (CE.seq (CE.region ?_)))))
  iterate 2 refine WD (op_move rfl) rfl ?_
  refine WD (op_indexSl (off' := 0 + i * 2) rfl rfl rfl Try.runUnderlying25 Try.sizeOf60 (by omega) (by omega) (by omega)) rfl ?_
  refine WL.call (oc_call (vs := [vP b (0 + i * 2)]) (cap := []) rfl rfl rfl Try.call148 (c_l02Ring ((D.getD i RD.d).xs.length) ((P.getD i BC.d).c) (some ⟨(P.getD i BC.d).b, 0, none⟩) ((D.getD i RD.d).at_) b (0 + i * 2) (olc D P) (by omega) (olc_fit lD lP (show i < n by omega) (Nat.zero_add _)) w1 (Rng.congr (r.ext m1) (olc_part lD lP (show i < n by omega) (Nat.zero_add _))))) rfl rfl (ltb rfl) ?_
  rintro _ _ ⟨rfl, rfl⟩
  refine WD (op_not rfl) rfl ?_
  refine WD (op_move rfl) rfl ?_
  rcases Bool.eq_false_or_eq_true (vRing ((D.getD i RD.d).xs.length) ((D.getD i RD.d).at_)) with hb2 | hb2
  ·refine WL.yes rfl rfl rfl (ltb rfl) rfl (bnot_t hb2) ?_
   refine WD (op_move rfl) rfl ?_
   refine WL.yes rfl rfl rfl (ltb rfl) rfl (bnot_t hb2) ?_
   refine WD (op_move rfl) rfl ?_
   refine WL.yes rfl rfl rfl (ltb rfl) rfl (bnot_t hb2) ?_
   refine WD (op_indexSl (off' := 0 + i * 2) rfl rfl rfl Try.runUnderlying25 Try.sizeOf60 (by omega) (by omega) (by omega)) rfl ?_
   refine WL.yes rfl rfl rfl (ltb rfl) rfl (bnot_t hb2) ?_
   refine WD (op_fieldAddr (off' := 0 + i * 2) rfl Try.runUnderlying60 rfl rfl Try.sizeOf26 rfl) rfl ?_
   refine WL.yes rfl rfl rfl (ltb rfl) rfl (bnot_t hb2) ?_
   refine WD (op_load1 (i := i * 2) rfl Try.isAgg26 (r.ext m1) rfl (olc_get0 lD lP (show i < n by omega))) rfl ?_
   refine WL.yes rfl rfl rfl (ltb rfl) rfl (bnot_t hb2) ?_
   refine WL.call (oc_call (vs := [vS ((P.getD i BC.d).b) 0 ((D.getD i RD.d).xs.length) ((P.getD i BC.d).c)]) (cap := []) rfl rfl rfl Try.call110 (c_l04All ((D.getD i RD.d).xs.length) ((P.getD i BC.d).c) ((P.getD i BC.d).b) ((D.getD i RD.d).xs) rfl (by omega) w1 ((OF.row F i (lQ (show i < n by omega) lD.symm)).ext m1).rng)) rfl rfl (ltb rfl) ?_
   rintro _ w2 ⟨rfl, m2⟩
   refine WL.yes rfl rfl rfl (ltb rfl) rfl (bnot_t hb2) ?_
   refine WD (op_not rfl) rfl ?_
   refine WD (op_pick_f rfl (bnot_t hb2) rfl) rfl ?_
   refine WL.end (NE.code ?_)
   rcases Bool.eq_false_or_eq_true (allF ((D.getD i RD.d).xs) ((D.getD i RD.d).xs.length)) with hb3 | hb3
   ·refine CE.cond_f rfl (bnot_t hb3) ?_
    refine CE.skip' (NE.blk (NE.code (CE.region ?_)))
    refine WD (op_move rfl) rfl ?_
    refine WD (op_add (r := ((i + 1 : Nat) : Int)) rfl rfl (w_i64 (by omega) (by omega))) rfl ?_
    refine WD (op_assign rfl) rfl ?_
    refine WL.end ?_
    exact NE.again (i + 1) (⟨rfl, rfl, rfl, trivial⟩) ⟨(by omega), (by simp only [vRings, hu, Bool.true_and]; simp_all [vRingF]), (m1.nt m2)⟩ (by first | (dsimp only; omega) | omega)
   ·refine CE.cond_t rfl (bnot_f hb3) ?_
    refine CE.seq (CE.region ?_)
    refine WD (op_assign rfl) rfl ?_
    refine WL.end (NE.code (CE.ret' (XE.ret_blk (XE.ret_then (XE.ret_then (XE.ret_blk (XE.ret_then ?_)))))))
    refine XE.leave1 Try.results108 rfl ?_
    refine ⟨?_, (((Mod.refl [] w).nt m1).nt m2)⟩
    all_goals first | (rw [vRings_out (i := i) (by omega) (by simp_all [vRingF])]; done) | (have e : i = n := (by omega); subst e; rw [hu])
  ·refine WL.no rfl rfl rfl (ltb rfl) rfl (bnot_f hb2) rfl (ltb rfl) ?_
   iterate 6 refine WL.no rfl rfl rfl (ltb rfl) rfl (bnot_f hb2) rfl (ltb rfl) ?_
   refine WD (op_pick_t rfl (bnot_f hb2) rfl) rfl ?_
   refine WL.end (NE.code ?_)
   refine CE.cond_t rfl rfl ?_
   refine CE.seq (CE.region ?_)
   refine WD (op_assign rfl) rfl ?_
   refine WL.end (NE.code (CE.ret' (XE.ret_blk (XE.ret_then (XE.ret_then (XE.ret_blk (XE.ret_then ?_)))))))
   refine XE.leave1 Try.results108 rfl ?_
   refine ⟨?_, ((Mod.refl [] w).nt m1)⟩
   all_goals first | (rw [vRings_out (i := i) (by omega) (by simp_all [vRingF])]; done) | (have e : i = n := (by omega); subst e; rw [hu])
 ·have hp1 := of_decide_eq_false hb1
  refine CE.cond_f rfl hb1 ?_
  refine CE.exit' (XE.exit_then (XE.exit_then (XE.exit_here (NE.code (CE.seq (CE.region ?_))))))
  refine WD (op_assign rfl) rfl ?_
  refine WL.end (NE.code (CE.ret' ?_))
  refine XE.leave1 Try.results108 rfl ?_
  refine ⟨?_, ((Mod.refl [] w).nt m1)⟩
  all_goals first | (rw [vRings_out (i := i) (by omega) (by simp_all [vRingF])]; done) | (have e : i = n := (by omega); subst e; rw [hu])

theorem c_l04OkS (nR : Nat) (GR : List RD) (nL : Nat) (GL : List RD) (nS : Nat) (xS : List Nat) (cR : Nat) (bR : Nat) (PR : List BC) (loR : Nat) (cL : Nat) (bL : Nat) (PL : List BC) (loL : Nat) (cS : Nat) (bS : Nat) (k : Int) (kc0 : Nat) (kc1 : Nat) (kc2 : Nat) (ks0 : Nat) (ks1 : Nat) (op : Bool) (lo : Nat) (re : Nat) (sl : Nat) (p : Nat) (lDR : GR.length = nR) (lDL : GL.length = nL) (lnS : xS.length = nS) (hzR : ∀ i, (GR.getD i RD.d).xs.length ≤ 1048576) (hzL : ∀ i, (GL.getD i RD.d).xs.length ≤ 1048576) (lPR : PR.length = nR) (lPL : PL.length = nL) (mR : nR ≤ 1048576) (mL : nL ≤ 1048576) (mS : nS ≤ 1048576) (hs : 1 ≤ nR ∧ nR ≤ 3 ∧ nL = nR ∧ nS + 1 = nR) (w : World) (q : Rng w p 0 [vS bR 0 nR cR, vS bL 0 nL cL, vS bS 0 nS cS, vI k, vF kc0, vF kc1, vF kc2, vF ks0, vF ks1, .bool op, vF lo, vF re, vF sl]) (rR : Rng w bR 0 (olc GR PR)) (rL : Rng w bL 0 (olc GL PL)) (rS : Rng w bS 0 (fl xS))  (FR : OF loR w GR PR) (FL : OF loL w GL PL) : Cl Try.prog 57 #[vP p 0] w fun v w' => v = .bool (vPipe nR nL nS GR GL xS k kc0 kc1 kc2 ks0 ks1 lo re sl) ∧ Mod [] w w' := by
 refine Cl.of Try.func57 Try.ntmps57 rfl rfl (ρ := [(0, vP p 0)]) rfl ?_
 refine CE.seq (CE.region ?_)
 refine WD (op_assign rfl) rfl ?_
 refine WL.end (NE.code (CE.seq (CE.region ?_)))
 refine WD (op_move rfl) rfl ?_
 refine WD (op_nilCheck rfl) rfl ?_
 refine WD (op_fieldAddr (off' := 0) rfl Try.runUnderlying33 rfl rfl Try.sizeOf25 rfl) rfl ?_
 refine WD (op_load1 (i := 0) rfl Try.isAgg25 q rfl rfl) rfl ?_
 refine WD (op_len rfl Try.runUnderlying25) rfl ?_
 refine WD (op_assign rfl) rfl ?_
 refine WL.end (NE.code (CE.seq (CE.seq (CE.region ?_))))
 refine WD (op_move rfl) rfl ?_
 refine WD (op_lti rfl rfl) rfl ?_
 refine WD (op_move rfl) rfl ?_
 rcases Bool.eq_false_or_eq_true (decide (((nR : Nat) : Int) < (1 : Int))) with hb1 | hb1
 ·have hp1 := of_decide_eq_true hb1
  iterate 2 refine WL.no rfl rfl rfl (ltb rfl) rfl hb1 rfl (ltb rfl) ?_
  refine WD (op_pick_t rfl hb1 rfl) rfl ?_
  refine WD (op_move rfl) rfl ?_
  iterate 7 refine WL.no rfl rfl rfl (ltb rfl) rfl rfl rfl (ltb rfl) ?_
  refine WD (op_pick_t rfl rfl rfl) rfl ?_
  refine WD (op_move rfl) rfl ?_
  iterate 8 refine WL.no rfl rfl rfl (ltb rfl) rfl rfl rfl (ltb rfl) ?_
  refine WD (op_pick_t rfl rfl rfl) rfl ?_
  refine WD (op_move rfl) rfl ?_
  iterate 6 refine WL.no rfl rfl rfl (ltb rfl) rfl rfl rfl (ltb rfl) ?_
  refine WD (op_pick_t rfl rfl rfl) rfl ?_
  refine WD (op_move rfl) rfl ?_
  iterate 6 refine WL.no rfl rfl rfl (ltb rfl) rfl rfl rfl (ltb rfl) ?_
  refine WD (op_pick_t rfl rfl rfl) rfl ?_
  refine WL.end (NE.code ?_)
  refine CE.cond_t rfl rfl ?_
  refine CE.seq (CE.region ?_)
  refine WD (op_assign rfl) rfl ?_
  refine WL.end (NE.code (CE.ret' (XE.ret_then ?_)))
  refine XE.leave1 Try.results57 rfl ?_
  refine ⟨?_, (Mod.refl [] w)⟩
  all_goals rw [vPipe_eq hs.1 hs.2.1 hs.2.2.1 hs.2.2.2]
  all_goals first | (exfalso; omega) | (rw [vSc_out (i := i2) (by omega) (Bool.and_eq_false_iff.2 (by first | exact .inl (by assumption) | exact .inr (by assumption)))]; simp; done) | (have e1 : i = nR := (by omega); have e2 : i2 = nS := (by omega); rw [e1] at hu; rw [e2] at hu2; simp_all; done) | (rw [vLens_out (i := i) (by omega) (beq_eq_false_iff_ne.2 (by assumption))]; simp; done) | (simp_all; done)
 ·have hp1 := of_decide_eq_false hb1
  refine WL.yes rfl rfl rfl (ltb rfl) rfl hb1 ?_
  refine WD (op_move rfl) rfl ?_
  refine WL.yes rfl rfl rfl (ltb rfl) rfl hb1 ?_
  refine WD (op_gti rfl rfl) rfl ?_
  refine WD (op_pick_f rfl hb1 rfl) rfl ?_
  refine WD (op_move rfl) rfl ?_
  rcases Bool.eq_false_or_eq_true (decide ((3 : Int) < ((nR : Nat) : Int))) with hb2 | hb2
  ·have hp2 := of_decide_eq_true hb2
   iterate 7 refine WL.no rfl rfl rfl (ltb rfl) rfl hb2 rfl (ltb rfl) ?_
   refine WD (op_pick_t rfl hb2 rfl) rfl ?_
   refine WD (op_move rfl) rfl ?_
   iterate 8 refine WL.no rfl rfl rfl (ltb rfl) rfl rfl rfl (ltb rfl) ?_
   refine WD (op_pick_t rfl rfl rfl) rfl ?_
   refine WD (op_move rfl) rfl ?_
   iterate 6 refine WL.no rfl rfl rfl (ltb rfl) rfl rfl rfl (ltb rfl) ?_
   refine WD (op_pick_t rfl rfl rfl) rfl ?_
   refine WD (op_move rfl) rfl ?_
   iterate 6 refine WL.no rfl rfl rfl (ltb rfl) rfl rfl rfl (ltb rfl) ?_
   refine WD (op_pick_t rfl rfl rfl) rfl ?_
   refine WL.end (NE.code ?_)
   refine CE.cond_t rfl rfl ?_
   refine CE.seq (CE.region ?_)
   refine WD (op_assign rfl) rfl ?_
   refine WL.end (NE.code (CE.ret' (XE.ret_then ?_)))
   refine XE.leave1 Try.results57 rfl ?_
   refine ⟨?_, (Mod.refl [] w)⟩
   all_goals rw [vPipe_eq hs.1 hs.2.1 hs.2.2.1 hs.2.2.2]
   all_goals first | (exfalso; omega) | (rw [vSc_out (i := i2) (by omega) (Bool.and_eq_false_iff.2 (by first | exact .inl (by assumption) | exact .inr (by assumption)))]; simp; done) | (have e1 : i = nR := (by omega); have e2 : i2 = nS := (by omega); rw [e1] at hu; rw [e2] at hu2; simp_all; done) | (rw [vLens_out (i := i) (by omega) (beq_eq_false_iff_ne.2 (by assumption))]; simp; done) | (simp_all; done)
  ·have hp2 := of_decide_eq_false hb2
   refine WL.yes rfl rfl rfl (ltb rfl) rfl hb2 ?_
   refine WD (op_move rfl) rfl ?_
   refine WL.yes rfl rfl rfl (ltb rfl) rfl hb2 ?_
   refine WD (op_nilCheck rfl) rfl ?_
   refine WL.yes rfl rfl rfl (ltb rfl) rfl hb2 ?_
   refine WD (op_fieldAddr (off' := 1) rfl Try.runUnderlying33 rfl rfl Try.sizeOf25 rfl) rfl ?_
   refine WL.yes rfl rfl rfl (ltb rfl) rfl hb2 ?_
   refine WD (op_load1 (i := 1) rfl Try.isAgg25 q rfl rfl) rfl ?_
   refine WL.yes rfl rfl rfl (ltb rfl) rfl hb2 ?_
   refine WD (op_len rfl Try.runUnderlying25) rfl ?_
   refine WL.yes rfl rfl rfl (ltb rfl) rfl hb2 ?_
   refine WD (op_move rfl) rfl ?_
   refine WL.yes rfl rfl rfl (ltb rfl) rfl hb2 ?_
   refine WD (op_nei rfl rfl) rfl ?_
   refine WD (op_pick_f rfl hb2 rfl) rfl ?_
   refine WD (op_move rfl) rfl ?_
   rcases Bool.eq_false_or_eq_true ((((nL : Nat) : Int) != ((nR : Nat) : Int))) with hb3 | hb3
   ·have hp3 := bne_iff_ne.1 hb3
    iterate 8 refine WL.no rfl rfl rfl (ltb rfl) rfl hb3 rfl (ltb rfl) ?_
    refine WD (op_pick_t rfl hb3 rfl) rfl ?_
    refine WD (op_move rfl) rfl ?_
    iterate 6 refine WL.no rfl rfl rfl (ltb rfl) rfl rfl rfl (ltb rfl) ?_
    refine WD (op_pick_t rfl rfl rfl) rfl ?_
    refine WD (op_move rfl) rfl ?_
    iterate 6 refine WL.no rfl rfl rfl (ltb rfl) rfl rfl rfl (ltb rfl) ?_
    refine WD (op_pick_t rfl rfl rfl) rfl ?_
    refine WL.end (NE.code ?_)
    refine CE.cond_t rfl rfl ?_
    refine CE.seq (CE.region ?_)
    refine WD (op_assign rfl) rfl ?_
    refine WL.end (NE.code (CE.ret' (XE.ret_then ?_)))
    refine XE.leave1 Try.results57 rfl ?_
    refine ⟨?_, (Mod.refl [] w)⟩
    all_goals rw [vPipe_eq hs.1 hs.2.1 hs.2.2.1 hs.2.2.2]
    all_goals first | (exfalso; omega) | (rw [vSc_out (i := i2) (by omega) (Bool.and_eq_false_iff.2 (by first | exact .inl (by assumption) | exact .inr (by assumption)))]; simp; done) | (have e1 : i = nR := (by omega); have e2 : i2 = nS := (by omega); rw [e1] at hu; rw [e2] at hu2; simp_all; done) | (rw [vLens_out (i := i) (by omega) (beq_eq_false_iff_ne.2 (by assumption))]; simp; done) | (simp_all; done)
   ·have hp3 := bne_eq_false_iff_eq.1 hb3
    refine WL.yes rfl rfl rfl (ltb rfl) rfl hb3 ?_
    refine WD (op_move rfl) rfl ?_
    refine WL.yes rfl rfl rfl (ltb rfl) rfl hb3 ?_
    refine WD (op_nilCheck rfl) rfl ?_
    refine WL.yes rfl rfl rfl (ltb rfl) rfl hb3 ?_
    refine WD (op_fieldAddr (off' := 2) rfl Try.runUnderlying33 rfl rfl Try.sizeOf26 rfl) rfl ?_
    refine WL.yes rfl rfl rfl (ltb rfl) rfl hb3 ?_
    refine WD (op_load1 (i := 2) rfl Try.isAgg26 q rfl rfl) rfl ?_
    refine WL.yes rfl rfl rfl (ltb rfl) rfl hb3 ?_
    refine WD (op_len rfl Try.runUnderlying26) rfl ?_
    refine WL.yes rfl rfl rfl (ltb rfl) rfl hb3 ?_
    refine WD (op_move rfl) rfl ?_
    refine WL.yes rfl rfl rfl (ltb rfl) rfl hb3 ?_
    refine WD (op_sub (r := ((nR - 1 : Nat) : Int)) rfl rfl (w_nsub (l := nR) (n := 1) (by omega) (by omega))) rfl ?_
    refine WL.yes rfl rfl rfl (ltb rfl) rfl hb3 ?_
    refine WD (op_nei rfl rfl) rfl ?_
    refine WD (op_pick_f rfl hb3 rfl) rfl ?_
    refine WD (op_move rfl) rfl ?_
    rcases Bool.eq_false_or_eq_true ((((nS : Nat) : Int) != ((nR - 1 : Nat) : Int))) with hb4 | hb4
    ·have hp4 := bne_iff_ne.1 hb4
     iterate 6 refine WL.no rfl rfl rfl (ltb rfl) rfl hb4 rfl (ltb rfl) ?_
     refine WD (op_pick_t rfl hb4 rfl) rfl ?_
     refine WD (op_move rfl) rfl ?_
     iterate 6 refine WL.no rfl rfl rfl (ltb rfl) rfl rfl rfl (ltb rfl) ?_
     refine WD (op_pick_t rfl rfl rfl) rfl ?_
     refine WL.end (NE.code ?_)
     refine CE.cond_t rfl rfl ?_
     refine CE.seq (CE.region ?_)
     refine WD (op_assign rfl) rfl ?_
     refine WL.end (NE.code (CE.ret' (XE.ret_then ?_)))
     refine XE.leave1 Try.results57 rfl ?_
     refine ⟨?_, (Mod.refl [] w)⟩
     all_goals rw [vPipe_eq hs.1 hs.2.1 hs.2.2.1 hs.2.2.2]
     all_goals first | (exfalso; omega) | (rw [vSc_out (i := i2) (by omega) (Bool.and_eq_false_iff.2 (by first | exact .inl (by assumption) | exact .inr (by assumption)))]; simp; done) | (have e1 : i = nR := (by omega); have e2 : i2 = nS := (by omega); rw [e1] at hu; rw [e2] at hu2; simp_all; done) | (rw [vLens_out (i := i) (by omega) (beq_eq_false_iff_ne.2 (by assumption))]; simp; done) | (simp_all; done)
    ·have hp4 := bne_eq_false_iff_eq.1 hb4
     refine WL.yes rfl rfl rfl (ltb rfl) rfl hb4 ?_
     refine WD (op_move rfl) rfl ?_
     refine WL.yes rfl rfl rfl (ltb rfl) rfl hb4 ?_
     refine WD (op_nilCheck rfl) rfl ?_
     refine WL.yes rfl rfl rfl (ltb rfl) rfl hb4 ?_
     refine WD (op_fieldAddr (off' := 0) rfl Try.runUnderlying33 rfl rfl Try.sizeOf25 rfl) rfl ?_
     refine WL.yes rfl rfl rfl (ltb rfl) rfl hb4 ?_
     refine WD (op_load1 (i := 0) rfl Try.isAgg25 q rfl rfl) rfl ?_
     refine WL.yes rfl rfl rfl (ltb rfl) rfl hb4 ?_
     refine WL.call (oc_call (vs := [vS bR 0 nR cR]) (cap := []) rfl rfl rfl Try.call108 (c_l04RingsS nR cR bR GR PR loR lDR lPR (by first | assumption | exact rd_small (by assumption) (by assumption) | exact markD_small (by first | assumption | exact rd_small (by assumption) (by assumption)) _) (by omega) w rR FR)) rfl rfl (ltb rfl) ?_
     rintro _ w1 ⟨rfl, m1⟩
     refine WL.yes rfl rfl rfl (ltb rfl) rfl hb4 ?_
     refine WD (op_not rfl) rfl ?_
     refine WD (op_pick_f rfl hb4 rfl) rfl ?_
     refine WD (op_move rfl) rfl ?_
     rcases Bool.eq_false_or_eq_true (vRings GR nR) with hb5 | hb5
     ·refine WL.yes rfl rfl rfl (ltb rfl) rfl (bnot_t hb5) ?_
      refine WD (op_move rfl) rfl ?_
      refine WL.yes rfl rfl rfl (ltb rfl) rfl (bnot_t hb5) ?_
      refine WD (op_nilCheck rfl) rfl ?_
      refine WL.yes rfl rfl rfl (ltb rfl) rfl (bnot_t hb5) ?_
      refine WD (op_fieldAddr (off' := 1) rfl Try.runUnderlying33 rfl rfl Try.sizeOf25 rfl) rfl ?_
      refine WL.yes rfl rfl rfl (ltb rfl) rfl (bnot_t hb5) ?_
      refine WD (op_load1 (i := 1) rfl Try.isAgg25 (q.ext m1) rfl rfl) rfl ?_
      refine WL.yes rfl rfl rfl (ltb rfl) rfl (bnot_t hb5) ?_
      refine WL.call (oc_call (vs := [vS bL 0 nL cL]) (cap := []) rfl rfl rfl Try.call108 (c_l04RingsS nL cL bL GL PL loL lDL lPL (by first | assumption | exact rd_small (by assumption) (by assumption) | exact markD_small (by first | assumption | exact rd_small (by assumption) (by assumption)) _) (by omega) w1 (rL.ext m1) (FL.ext m1))) rfl rfl (ltb rfl) ?_
      rintro _ w2 ⟨rfl, m2⟩
      refine WL.yes rfl rfl rfl (ltb rfl) rfl (bnot_t hb5) ?_
      refine WD (op_not rfl) rfl ?_
      refine WD (op_pick_f rfl (bnot_t hb5) rfl) rfl ?_
      refine WL.end (NE.code ?_)
      rcases Bool.eq_false_or_eq_true (vRings GL nL) with hb6 | hb6
      ·refine CE.cond_f rfl (bnot_t hb6) ?_
       refine CE.skip' (NE.code (CE.seq (CE.seq (CE.region ?_))))
       refine WD (op_assign rfl) rfl ?_
       refine WL.end (NE.code (CE.block ?_))
       refine CE.loop (fun (i : Nat) => [(4, vI ((i : Nat) : Int)), (0, vP p 0), (2, .bool false), (3, vI ((nR : Nat) : Int))]) (fun (i : Nat) => fun W => (i ≤ nR) ∧ (vLens GR GL i = true) ∧ Mod [] w2 W) (fun (i : Nat) => nR - i) 0 (⟨rfl, rfl, rfl, rfl, trivial⟩) ⟨(by omega), (by rfl), Mod.refl _ _⟩ ?_
       rintro i w3 ⟨hi, hu, m3⟩
       show CE _ _ _ _ [(4, vI ((i : Nat) : Int)), (0, vP p 0), (2, .bool false), (3, vI ((nR : Nat) : Int))] _
       refine CE.seq (CE.seq (CE.region ?_))
       iterate 2 refine WD (op_move rfl) rfl ?_
       refine WD (op_lti rfl rfl) rfl ?_
       refine WL.end (NE.code ?_)
       rcases Bool.eq_false_or_eq_true (decide (((i : Nat) : Int) < ((nR : Nat) : Int))) with hb7 | hb7
       ·have hp7 := of_decide_eq_true hb7
        refine CE.cond_t rfl hb7 ?_
        refine CE.skip' (NE.code (CE.seq (CE.block (CE.seq ?_))))
        refine CE.draw (fun _ => none) [0, 1, 2, 3, 4, 5, 6, 7, 8, 9, 10, 11, 12, 13, 14, 15, 16, 17] [18] [] (by kernel_rfl) (by kernel_rfl) ?_
        have md1 : Mod [] w3 w3.drew := (Mod.refl _ _).drew
        generalize w3.drew = w4 at md1 ⊢
        refine DD 0 rfl (by kernel_rfl) rfl (fun wD mD => op_move rfl) ?_
        refine DD 1 rfl (by kernel_rfl) rfl (fun wD mD => op_nilCheck rfl) ?_
        refine DD 2 rfl (by kernel_rfl) rfl (fun wD mD => op_fieldAddr (off' := 0) rfl Try.runUnderlying33 rfl rfl Try.sizeOf25 rfl) ?_
        refine DD 3 rfl (by kernel_rfl) rfl (fun wD mD => op_load1 (i := 0) rfl Try.isAgg25 (((((q.ext m1).ext m2).ext m3).ext md1).ext mD) rfl rfl) ?_
        refine DD 4 rfl (by kernel_rfl) rfl (fun wD mD => op_move rfl) ?_
        refine DD 5 rfl (by kernel_rfl) rfl (fun wD mD => op_indexSl (off' := 0 + i * 2) rfl rfl rfl Try.runUnderlying25 Try.sizeOf60 (by omega) (by omega) (by omega)) ?_
        refine DD 6 rfl (by kernel_rfl) rfl (fun wD mD => op_fieldAddr (off' := 0 + i * 2) rfl Try.runUnderlying60 rfl rfl Try.sizeOf26 rfl) ?_
        refine DD 7 rfl (by kernel_rfl) rfl (fun wD mD => op_load1 (i := i * 2) rfl Try.isAgg26 (((((rR.ext m1).ext m2).ext m3).ext md1).ext mD) rfl (olc_get0 lDR lPR (show i < nR by omega))) ?_
        refine DD 8 rfl (by kernel_rfl) rfl (fun wD mD => op_len rfl Try.runUnderlying26) ?_
        refine DD 9 rfl (by kernel_rfl) rfl (fun wD mD => op_move rfl) ?_
        refine DD 10 rfl (by kernel_rfl) rfl (fun wD mD => op_nilCheck rfl) ?_
        refine DD 11 rfl (by kernel_rfl) rfl (fun wD mD => op_fieldAddr (off' := 1) rfl Try.runUnderlying33 rfl rfl Try.sizeOf25 rfl) ?_
        refine DD 12 rfl (by kernel_rfl) rfl (fun wD mD => op_load1 (i := 1) rfl Try.isAgg25 (((((q.ext m1).ext m2).ext m3).ext md1).ext mD) rfl rfl) ?_
        refine DD 13 rfl (by kernel_rfl) rfl (fun wD mD => op_move rfl) ?_
        refine DD 14 rfl (by kernel_rfl) rfl (fun wD mD => op_indexSl (off' := 0 + i * 2) rfl rfl rfl Try.runUnderlying25 Try.sizeOf60 (by omega) (by omega) (by omega)) ?_
        refine DD 15 rfl (by kernel_rfl) rfl (fun wD mD => op_fieldAddr (off' := 0 + i * 2) rfl Try.runUnderlying60 rfl rfl Try.sizeOf26 rfl) ?_
        refine DD 16 rfl (by kernel_rfl) rfl (fun wD mD => op_load1 (i := i * 2) rfl Try.isAgg26 (((((rL.ext m1).ext m2).ext m3).ext md1).ext mD) rfl (olc_get0 lDL lPL (show i < nL by omega))) ?_
        refine DD 17 rfl (by kernel_rfl) rfl (fun wD mD => op_len rfl Try.runUnderlying26) ?_
        refine DR.done rfl ?_
        intro w5 m4
        refine WO.det (op_nei rfl rfl) rfl (.free rfl) rfl rfl ?_
        refine WO.end (NE.code ?_)
        rcases Bool.eq_false_or_eq_true (((((GR.getD i RD.d).xs.length : Nat) : Int) != (((GL.getD i RD.d).xs.length : Nat) : Int))) with hb8 | hb8
        ·have hp8 := bne_iff_ne.1 hb8
         refine CE.cond_t rfl hb8 ?_
         refine CE.seq (CE.region ?_)
         refine WD (op_assign rfl) rfl ?_
         refine WL.end (NE.code (CE.ret' (XE.ret_blk (XE.ret_then (XE.ret_then (XE.ret_blk (XE.ret_then ?_)))))))
         refine XE.leave1 Try.results57 rfl ?_
         refine ⟨?_, ((((((Mod.refl [] w).nt m1).nt m2).nt m3).nt md1).nt m4)⟩
         all_goals rw [vPipe_eq hs.1 hs.2.1 hs.2.2.1 hs.2.2.2]
         all_goals first | (exfalso; omega) | (rw [vSc_out (i := i2) (by omega) (Bool.and_eq_false_iff.2 (by first | exact .inl (by assumption) | exact .inr (by assumption)))]; simp; done) | (have e1 : i = nR := (by omega); have e2 : i2 = nS := (by omega); rw [e1] at hu; rw [e2] at hu2; simp_all; done) | (rw [vLens_out (i := i) (by omega) (beq_eq_false_iff_ne.2 (by assumption))]; simp; done) | (simp_all; done)
        ·have hp8 := bne_eq_false_iff_eq.1 hb8
         refine CE.cond_f rfl hb8 ?_
         refine CE.skip' (NE.blk (NE.code (CE.region ?_)))
         refine WD (op_move rfl) rfl ?_
         refine WD (op_add (r := ((i + 1 : Nat) : Int)) rfl rfl (w_i64 (by omega) (by omega))) rfl ?_
         refine WD (op_assign rfl) rfl ?_
         refine WL.end ?_
         exact NE.again (i + 1) (⟨rfl, rfl, rfl, rfl, trivial⟩) ⟨(by omega), (by simp only [vLens, hu, Bool.true_and]; simp_all), ((m3.nt md1).nt m4)⟩ (by first | (dsimp only; omega) | omega)
       ·have hp7 := of_decide_eq_false hb7
        refine CE.cond_f rfl hb7 ?_
        refine CE.exit' (XE.exit_then (XE.exit_then (XE.exit_here (NE.code (CE.seq (CE.seq (CE.region ?_)))))))
        refine WD (op_assign rfl) rfl ?_
        refine WL.end (NE.code (CE.block ?_))
        refine CE.loop (fun (i2 : Nat) => [(5, vI ((i2 : Nat) : Int)), (0, vP p 0), (2, .bool false), (3, vI ((nR : Nat) : Int))]) (fun (i2 : Nat) => fun W => (i2 ≤ nS) ∧ (vSc xS i2 = true) ∧ Mod [] w3 W) (fun (i2 : Nat) => nS - i2) 0 (⟨rfl, rfl, rfl, rfl, trivial⟩) ⟨(by omega), (by rfl), Mod.refl _ _⟩ ?_
        rintro i2 w6 ⟨hi2, hu2, m5⟩
        show CE _ _ _ _ [(5, vI ((i2 : Nat) : Int)), (0, vP p 0), (2, .bool false), (3, vI ((nR : Nat) : Int))] _
        refine CE.seq (CE.seq (CE.region ?_))
        iterate 2 refine WD (op_move rfl) rfl ?_
        refine WD (op_sub (r := ((nR - 1 : Nat) : Int)) rfl rfl (w_nsub (l := nR) (n := 1) (by omega) (by omega))) rfl ?_
        refine WD (op_lti rfl rfl) rfl ?_
        refine WL.end (NE.code ?_)
        rcases Bool.eq_false_or_eq_true (decide (((i2 : Nat) : Int) < ((nR - 1 : Nat) : Int))) with hb9 | hb9
        ·have hp9 := of_decide_eq_true hb9
         refine CE.cond_t rfl hb9 ?_
         refine CE.skip' (NE.code (CE.seq (CE.block (CE.seq (CE.region ?_)))))
         refine WD (op_move rfl) rfl ?_
         refine WD (op_nilCheck rfl) rfl ?_
         refine WD (op_fieldAddr (off' := 2) rfl Try.runUnderlying33 rfl rfl Try.sizeOf26 rfl) rfl ?_
         have r1 := ((((q.ext m1).ext m2).ext m3).ext m5)
         refine WD (op_load1 (i := 2) rfl Try.isAgg26 r1 rfl rfl) rfl ?_
         refine WD (op_move rfl) rfl ?_
         refine WD (op_indexSl (off' := 0 + i2) rfl rfl rfl Try.runUnderlying26 Try.sizeOf27 (by omega) (by omega) (by omega)) rfl ?_
         have r2 := ((((rS.ext m1).ext m2).ext m3).ext m5)
         refine WD (op_load1 (i := i2) rfl Try.isAgg27 r2 rfl (fl_get (by have eL : List.length xS = nS := lnS; omega))) rfl ?_
         refine WD (op_fge (c := fGe .f32 (xS.getD i2 0) 3212836864) rfl rfl rfl rfl rfl) rfl ?_
         refine WD (op_move rfl) rfl ?_
         rcases Bool.eq_false_or_eq_true (fGe .f32 (xS.getD i2 0) 3212836864) with hb10 | hb10
         ·refine WL.yes rfl rfl rfl (ltb rfl) rfl hb10 ?_
          refine WD (op_move rfl) rfl ?_
          refine WL.yes rfl rfl rfl (ltb rfl) rfl hb10 ?_
          refine WD (op_nilCheck rfl) rfl ?_
          refine WL.yes rfl rfl rfl (ltb rfl) rfl hb10 ?_
          refine WD (op_fieldAddr (off' := 2) rfl Try.runUnderlying33 rfl rfl Try.sizeOf26 rfl) rfl ?_
          refine WL.yes rfl rfl rfl (ltb rfl) rfl hb10 ?_
          refine WD (op_load1 (i := 2) rfl Try.isAgg26 r1 rfl rfl) rfl ?_
          refine WL.yes rfl rfl rfl (ltb rfl) rfl hb10 ?_
          refine WD (op_move rfl) rfl ?_
          refine WL.yes rfl rfl rfl (ltb rfl) rfl hb10 ?_
          refine WD (op_indexSl (off' := 0 + i2) rfl rfl rfl Try.runUnderlying26 Try.sizeOf27 (by omega) (by omega) (by omega)) rfl ?_
          refine WL.yes rfl rfl rfl (ltb rfl) rfl hb10 ?_
          refine WD (op_load1 (i := i2) rfl Try.isAgg27 r2 rfl (fl_get (by have eL : List.length xS = nS := lnS; omega))) rfl ?_
          refine WL.yes rfl rfl rfl (ltb rfl) rfl hb10 ?_
          refine WD (op_fle (c := fLe .f32 (xS.getD i2 0) 1065353216) rfl rfl rfl rfl rfl) rfl ?_
          refine WD (op_pick_t rfl hb10 rfl) rfl ?_
          refine WD (op_not rfl) rfl ?_
          refine WL.end (NE.code ?_)
          rcases Bool.eq_false_or_eq_true (fLe .f32 (xS.getD i2 0) 1065353216) with hb11 | hb11
          ·refine CE.cond_f rfl (bnot_t hb11) ?_
           refine CE.skip' (NE.blk (NE.code (CE.region ?_)))
           refine WD (op_move rfl) rfl ?_
           refine WD (op_add (r := ((i2 + 1 : Nat) : Int)) rfl rfl (w_i64 (by omega) (by omega))) rfl ?_
           refine WD (op_assign rfl) rfl ?_
           refine WL.end ?_
           exact NE.again (i2 + 1) (⟨rfl, rfl, rfl, rfl, trivial⟩) ⟨(by omega), (by simp only [vSc, hu2, Bool.true_and]; simp_all), m5⟩ (by first | (dsimp only; omega) | omega)
          ·refine CE.cond_t rfl (bnot_f hb11) ?_
           refine CE.seq (CE.region ?_)
           refine WD (op_assign rfl) rfl ?_
           refine WL.end (NE.code (CE.ret' (XE.ret_blk (XE.ret_then (XE.ret_then (XE.ret_blk (XE.ret_then ?_)))))))
           refine XE.leave1 Try.results57 rfl ?_
           refine ⟨?_, (((((Mod.refl [] w).nt m1).nt m2).nt m3).nt m5)⟩
           all_goals rw [vPipe_eq hs.1 hs.2.1 hs.2.2.1 hs.2.2.2]
           all_goals first | (exfalso; omega) | (rw [vSc_out (i := i2) (by omega) (Bool.and_eq_false_iff.2 (by first | exact .inl (by assumption) | exact .inr (by assumption)))]; simp; done) | (have e1 : i = nR := (by omega); have e2 : i2 = nS := (by omega); rw [e1] at hu; rw [e2] at hu2; simp_all; done) | (rw [vLens_out (i := i) (by omega) (beq_eq_false_iff_ne.2 (by assumption))]; simp; done) | (simp_all; done)
         ·refine WL.no rfl rfl rfl (ltb rfl) rfl hb10 rfl (ltb rfl) ?_
          iterate 7 refine WL.no rfl rfl rfl (ltb rfl) rfl hb10 rfl (ltb rfl) ?_
          refine WD (op_pick_f rfl hb10 rfl) rfl ?_
          refine WD (op_not rfl) rfl ?_
          refine WL.end (NE.code ?_)
          refine CE.cond_t rfl rfl ?_
          refine CE.seq (CE.region ?_)
          refine WD (op_assign rfl) rfl ?_
          refine WL.end (NE.code (CE.ret' (XE.ret_blk (XE.ret_then (XE.ret_then (XE.ret_blk (XE.ret_then ?_)))))))
          refine XE.leave1 Try.results57 rfl ?_
          refine ⟨?_, (((((Mod.refl [] w).nt m1).nt m2).nt m3).nt m5)⟩
          all_goals rw [vPipe_eq hs.1 hs.2.1 hs.2.2.1 hs.2.2.2]
          all_goals first | (exfalso; omega) | (rw [vSc_out (i := i2) (by omega) (Bool.and_eq_false_iff.2 (by first | exact .inl (by assumption) | exact .inr (by assumption)))]; simp; done) | (have e1 : i = nR := (by omega); have e2 : i2 = nS := (by omega); rw [e1] at hu; rw [e2] at hu2; simp_all; done) | (rw [vLens_out (i := i) (by omega) (beq_eq_false_iff_ne.2 (by assumption))]; simp; done) | (simp_all; done)
        ·have hp9 := of_decide_eq_false hb9
         refine CE.cond_f rfl hb9 ?_
         refine CE.exit' (XE.exit_then (XE.exit_then (XE.exit_here (NE.code (CE.seq ?_)))))
         rcases Bool.eq_false_or_eq_true (vFil k kc0 kc1 kc2 ks0 ks1) with hb12 | hb12
         ·rcases Bool.eq_false_or_eq_true ((k == (1 : Int))) with hb13 | hb13
          ·have hp13 := eq_of_beq hb13
           refine CE.draw (fun | 3 => some (fun _ wA uA wB => uA = .bool (vFil k kc0 kc1 kc2 ks0 ks1) ∧ Mod [] wA wB) | _ => none) [0, 1, 2, 3, 4, 5, 6, 7, 8, 9, 10, 11, 12, 13, 14, 15, 16, 17, 18, 19, 20, 21, 22, 23, 24] [25, 26, 27, 28] [] (by kernel_rfl) (by kernel_rfl) ?_
           have md2 : Mod [] w6 w6.drew := (Mod.refl _ _).drew
           generalize w6.drew = w7 at md2 ⊢
           refine DD 0 rfl (by kernel_rfl) rfl (fun wD mD => op_move rfl) ?_
           refine DD 1 rfl (by kernel_rfl) rfl (fun wD mD => op_nilCheck rfl) ?_
           refine DD 2 rfl (by kernel_rfl) rfl (fun wD mD => op_fieldAddr (off' := 3) rfl Try.runUnderlying33 rfl rfl Try.sizeOf31 rfl) ?_
           refine DR.call (i := 3) (fun uA => uA = .bool (vFil k kc0 kc1 kc2 ks0 ks1)) rfl rfl (by kernel_rfl) (.free rfl) rfl (ltb rfl) ⟨_, rfl⟩ (vs := [.func (.func 109) #[] #[], vP p 3]) rfl (fun wD mD => oc_call (vs := [vP p 3]) (cap := []) rfl rfl rfl Try.call109 (c_l02Ok k kc0 kc1 kc2 ks0 ks1 p 3 [vS bR 0 nR cR, vS bL 0 nL cL, vS bS 0 nS cS, vI k, vF kc0, vF kc1, vF kc2, vF ks0, vF ks1, .bool op, vF lo, vF re, vF sl] (lB rfl) wD (Rng.congr ((((((q.ext m1).ext m2).ext m3).ext m5).ext md2).ext mD) rfl))) ?_ ?_
           ·rintro w1 _ w2 m1 ⟨rfl, m2⟩; exact ⟨rfl, m2⟩
           rintro _ rfl
           refine DD 4 rfl (by kernel_rfl) rfl (fun wD mD => op_move rfl) ?_
           refine DR.det (i := 5) rfl rfl (by kernel_rfl) (.yes rfl rfl rfl (ltb rfl) rfl hb12) rfl rfl (fun wD mD => op_move rfl) ?_
           refine DR.det (i := 6) rfl rfl (by kernel_rfl) (.yes rfl rfl rfl (ltb rfl) rfl hb12) rfl rfl (fun wD mD => op_nilCheck rfl) ?_
           refine DR.det (i := 7) rfl rfl (by kernel_rfl) (.yes rfl rfl rfl (ltb rfl) rfl hb12) rfl rfl (fun wD mD => op_fieldAddr (off' := 3) rfl Try.runUnderlying33 rfl rfl Try.sizeOf31 rfl) ?_
           refine DR.det (i := 8) rfl rfl (by kernel_rfl) (.yes rfl rfl rfl (ltb rfl) rfl hb12) rfl rfl (fun wD mD => op_fieldAddr (off' := 3) rfl Try.runUnderlying31 rfl rfl Try.sizeOf2 rfl) ?_
           refine DR.det (i := 9) rfl rfl (by kernel_rfl) (.yes rfl rfl rfl (ltb rfl) rfl hb12) rfl rfl (fun wD mD => op_load1 (i := 3) rfl Try.isAgg2 ((((((q.ext m1).ext m2).ext m3).ext m5).ext md2).ext mD) rfl rfl) ?_
           refine DR.det (i := 10) rfl rfl (by kernel_rfl) (.yes rfl rfl rfl (ltb rfl) rfl hb12) rfl rfl (fun wD mD => op_eqi rfl rfl) ?_
           refine DD 11 rfl (by kernel_rfl) rfl (fun wD mD => op_pick_t rfl hb12 rfl) ?_
           refine DD 12 rfl (by kernel_rfl) rfl (fun wD mD => op_move rfl) ?_
           refine DR.det (i := 13) rfl rfl (by kernel_rfl) (.yes rfl rfl rfl (ltb rfl) rfl hb13) rfl rfl (fun wD mD => op_move rfl) ?_
           refine DR.det (i := 14) rfl rfl (by kernel_rfl) (.yes rfl rfl rfl (ltb rfl) rfl hb13) rfl rfl (fun wD mD => op_nilCheck rfl) ?_
           refine DR.det (i := 15) rfl rfl (by kernel_rfl) (.yes rfl rfl rfl (ltb rfl) rfl hb13) rfl rfl (fun wD mD => op_fieldAddr (off' := 10) rfl Try.runUnderlying33 rfl rfl Try.sizeOf27 rfl) ?_
           refine DR.det (i := 16) rfl rfl (by kernel_rfl) (.yes rfl rfl rfl (ltb rfl) rfl hb13) rfl rfl (fun wD mD => op_load1 (i := 10) rfl Try.isAgg27 ((((((q.ext m1).ext m2).ext m3).ext m5).ext md2).ext mD) rfl rfl) ?_
           refine DR.det (i := 17) rfl rfl (by kernel_rfl) (.yes rfl rfl rfl (ltb rfl) rfl hb13) rfl rfl (fun wD mD => op_move rfl) ?_
           refine DR.det (i := 18) rfl rfl (by kernel_rfl) (.yes rfl rfl rfl (ltb rfl) rfl hb13) rfl rfl (fun wD mD => op_nilCheck rfl) ?_
           refine DR.det (i := 19) rfl rfl (by kernel_rfl) (.yes rfl rfl rfl (ltb rfl) rfl hb13) rfl rfl (fun wD mD => op_fieldAddr (off' := 11) rfl Try.runUnderlying33 rfl rfl Try.sizeOf27 rfl) ?_
           refine DR.det (i := 20) rfl rfl (by kernel_rfl) (.yes rfl rfl rfl (ltb rfl) rfl hb13) rfl rfl (fun wD mD => op_load1 (i := 11) rfl Try.isAgg27 ((((((q.ext m1).ext m2).ext m3).ext m5).ext md2).ext mD) rfl rfl) ?_
           refine DR.det (i := 21) rfl rfl (by kernel_rfl) (.yes rfl rfl rfl (ltb rfl) rfl hb13) rfl rfl (fun wD mD => op_move rfl) ?_
           refine DR.det (i := 22) rfl rfl (by kernel_rfl) (.yes rfl rfl rfl (ltb rfl) rfl hb13) rfl rfl (fun wD mD => op_nilCheck rfl) ?_
           refine DR.det (i := 23) rfl rfl (by kernel_rfl) (.yes rfl rfl rfl (ltb rfl) rfl hb13) rfl rfl (fun wD mD => op_fieldAddr (off' := 12) rfl Try.runUnderlying33 rfl rfl Try.sizeOf27 rfl) ?_
           refine DR.det (i := 24) rfl rfl (by kernel_rfl) (.yes rfl rfl rfl (ltb rfl) rfl hb13) rfl rfl (fun wD mD => op_load1 (i := 12) rfl Try.isAgg27 ((((((q.ext m1).ext m2).ext m3).ext m5).ext md2).ext mD) rfl rfl) ?_
           refine DR.done rfl ?_
           intro w8 m6
           refine WO.op rfl (.yes rfl rfl rfl (ltb rfl) rfl hb13) rfl (ltb rfl) (op_buildSl (qs := [(0, vF lo), (1, vF re), (2, vF sl)]) (cells := #[vF lo, vF re, vF sl]) rfl Try.runUnderlying26 Try.sizeOf27 Try.zeroValue27 (by decide) (by decide) (by kernel_rfl)) ?_
           rintro _ w9 ⟨rfl, r3, m7, z1⟩
           refine WO.call rfl (.yes rfl rfl rfl (ltb rfl) rfl hb13) rfl (ltb rfl) (oc_call (vs := [vS w8.heap.size 0 3 3]) (cap := []) rfl rfl rfl Try.call110 (c_l04All 3 3 w8.heap.size [lo, re, sl] rfl (by omega) w9 r3.rng)) ?_
           rintro _ w10 ⟨rfl, m8⟩
           refine WO.det (op_pick_t rfl hb13 rfl) rfl (.free rfl) rfl rfl ?_
           refine WO.det (op_assign rfl) rfl (.free rfl) rfl rfl ?_
           refine WO.end (NE.code (CE.ret' ?_))
           refine XE.leave1 Try.results57 rfl ?_
           refine ⟨?_, (((((((((Mod.refl [] w).nt m1).nt m2).nt m3).nt m5).nt md2).nt m6).nt m7).nt m8)⟩
           all_goals rw [vPipe_eq hs.1 hs.2.1 hs.2.2.1 hs.2.2.2]
           all_goals first | (exfalso; omega) | (rw [vSc_out (i := i2) (by omega) (Bool.and_eq_false_iff.2 (by first | exact .inl (by assumption) | exact .inr (by assumption)))]; simp; done) | (have e1 : i = nR := (by omega); have e2 : i2 = nS := (by omega); rw [e1] at hu; rw [e2] at hu2; simp_all; done) | (rw [vLens_out (i := i) (by omega) (beq_eq_false_iff_ne.2 (by assumption))]; simp; done) | (simp_all; done)
          ·have hp13 := ne_of_beq_false hb13
           refine CE.draw (fun | 3 => some (fun _ wA uA wB => uA = .bool (vFil k kc0 kc1 kc2 ks0 ks1) ∧ Mod [] wA wB) | _ => none) [0, 1, 2, 3, 4, 5, 6, 7, 8, 9, 10, 11, 12, 13, 14, 15, 16, 17, 18, 19, 20, 21, 22, 23, 24] [25, 26, 27, 28] [] (by kernel_rfl) (by kernel_rfl) ?_
           have md3 : Mod [] w6 w6.drew := (Mod.refl _ _).drew
           generalize w6.drew = w11 at md3 ⊢
           refine DD 0 rfl (by kernel_rfl) rfl (fun wD mD => op_move rfl) ?_
           refine DD 1 rfl (by kernel_rfl) rfl (fun wD mD => op_nilCheck rfl) ?_
           refine DD 2 rfl (by kernel_rfl) rfl (fun wD mD => op_fieldAddr (off' := 3) rfl Try.runUnderlying33 rfl rfl Try.sizeOf31 rfl) ?_
           refine DR.call (i := 3) (fun uA => uA = .bool (vFil k kc0 kc1 kc2 ks0 ks1)) rfl rfl (by kernel_rfl) (.free rfl) rfl (ltb rfl) ⟨_, rfl⟩ (vs := [.func (.func 109) #[] #[], vP p 3]) rfl (fun wD mD => oc_call (vs := [vP p 3]) (cap := []) rfl rfl rfl Try.call109 (c_l02Ok k kc0 kc1 kc2 ks0 ks1 p 3 [vS bR 0 nR cR, vS bL 0 nL cL, vS bS 0 nS cS, vI k, vF kc0, vF kc1, vF kc2, vF ks0, vF ks1, .bool op, vF lo, vF re, vF sl] (lB rfl) wD (Rng.congr ((((((q.ext m1).ext m2).ext m3).ext m5).ext md3).ext mD) rfl))) ?_ ?_
           ·rintro w1 _ w2 m1 ⟨rfl, m2⟩; exact ⟨rfl, m2⟩
           rintro _ rfl
           refine DD 4 rfl (by kernel_rfl) rfl (fun wD mD => op_move rfl) ?_
           refine DR.det (i := 5) rfl rfl (by kernel_rfl) (.yes rfl rfl rfl (ltb rfl) rfl hb12) rfl rfl (fun wD mD => op_move rfl) ?_
           refine DR.det (i := 6) rfl rfl (by kernel_rfl) (.yes rfl rfl rfl (ltb rfl) rfl hb12) rfl rfl (fun wD mD => op_nilCheck rfl) ?_
           refine DR.det (i := 7) rfl rfl (by kernel_rfl) (.yes rfl rfl rfl (ltb rfl) rfl hb12) rfl rfl (fun wD mD => op_fieldAddr (off' := 3) rfl Try.runUnderlying33 rfl rfl Try.sizeOf31 rfl) ?_
           refine DR.det (i := 8) rfl rfl (by kernel_rfl) (.yes rfl rfl rfl (ltb rfl) rfl hb12) rfl rfl (fun wD mD => op_fieldAddr (off' := 3) rfl Try.runUnderlying31 rfl rfl Try.sizeOf2 rfl) ?_
           refine DR.det (i := 9) rfl rfl (by kernel_rfl) (.yes rfl rfl rfl (ltb rfl) rfl hb12) rfl rfl (fun wD mD => op_load1 (i := 3) rfl Try.isAgg2 ((((((q.ext m1).ext m2).ext m3).ext m5).ext md3).ext mD) rfl rfl) ?_
           refine DR.det (i := 10) rfl rfl (by kernel_rfl) (.yes rfl rfl rfl (ltb rfl) rfl hb12) rfl rfl (fun wD mD => op_eqi rfl rfl) ?_
           refine DD 11 rfl (by kernel_rfl) rfl (fun wD mD => op_pick_t rfl hb12 rfl) ?_
           refine DD 12 rfl (by kernel_rfl) rfl (fun wD mD => op_move rfl) ?_
           refine DR.skip (i := 13) rfl (by kernel_rfl) (.no rfl rfl rfl (ltb rfl) rfl hb13) rfl (ltb rfl) ?_
           refine DR.skip (i := 14) rfl (by kernel_rfl) (.no rfl rfl rfl (ltb rfl) rfl hb13) rfl (ltb rfl) ?_
           refine DR.skip (i := 15) rfl (by kernel_rfl) (.no rfl rfl rfl (ltb rfl) rfl hb13) rfl (ltb rfl) ?_
           refine DR.skip (i := 16) rfl (by kernel_rfl) (.no rfl rfl rfl (ltb rfl) rfl hb13) rfl (ltb rfl) ?_
           refine DR.skip (i := 17) rfl (by kernel_rfl) (.no rfl rfl rfl (ltb rfl) rfl hb13) rfl (ltb rfl) ?_
           refine DR.skip (i := 18) rfl (by kernel_rfl) (.no rfl rfl rfl (ltb rfl) rfl hb13) rfl (ltb rfl) ?_
           refine DR.skip (i := 19) rfl (by kernel_rfl) (.no rfl rfl rfl (ltb rfl) rfl hb13) rfl (ltb rfl) ?_
           refine DR.skip (i := 20) rfl (by kernel_rfl) (.no rfl rfl rfl (ltb rfl) rfl hb13) rfl (ltb rfl) ?_
           refine DR.skip (i := 21) rfl (by kernel_rfl) (.no rfl rfl rfl (ltb rfl) rfl hb13) rfl (ltb rfl) ?_
           refine DR.skip (i := 22) rfl (by kernel_rfl) (.no rfl rfl rfl (ltb rfl) rfl hb13) rfl (ltb rfl) ?_
           refine DR.skip (i := 23) rfl (by kernel_rfl) (.no rfl rfl rfl (ltb rfl) rfl hb13) rfl (ltb rfl) ?_
           refine DR.skip (i := 24) rfl (by kernel_rfl) (.no rfl rfl rfl (ltb rfl) rfl hb13) rfl (ltb rfl) ?_
           refine DR.done rfl ?_
           intro w12 m9
           iterate 2 refine WO.skip rfl (.no rfl rfl rfl (ltb rfl) rfl hb13) rfl (ltb rfl) ?_
           refine WO.det (op_pick_f rfl hb13 rfl) rfl (.free rfl) rfl rfl ?_
           refine WO.det (op_assign rfl) rfl (.free rfl) rfl rfl ?_
           refine WO.end (NE.code (CE.ret' ?_))
           refine XE.leave1 Try.results57 rfl ?_
           refine ⟨?_, (((((((Mod.refl [] w).nt m1).nt m2).nt m3).nt m5).nt md3).nt m9)⟩
           all_goals rw [vPipe_eq hs.1 hs.2.1 hs.2.2.1 hs.2.2.2]
           all_goals first | (exfalso; omega) | (rw [vSc_out (i := i2) (by omega) (Bool.and_eq_false_iff.2 (by first | exact .inl (by assumption) | exact .inr (by assumption)))]; simp; done) | (have e1 : i = nR := (by omega); have e2 : i2 = nS := (by omega); rw [e1] at hu; rw [e2] at hu2; simp_all; done) | (rw [vLens_out (i := i) (by omega) (beq_eq_false_iff_ne.2 (by assumption))]; simp; done) | (simp_all; done)
         ·refine CE.draw (fun | 3 => some (fun _ wA uA wB => uA = .bool (vFil k kc0 kc1 kc2 ks0 ks1) ∧ Mod [] wA wB) | _ => none) [0, 1, 2, 3, 4, 5, 6, 7, 8, 9, 10, 11, 12, 13, 14, 15, 16, 17, 18, 19, 20, 21, 22, 23, 24] [25, 26, 27, 28] [] (by kernel_rfl) (by kernel_rfl) ?_
          have md4 : Mod [] w6 w6.drew := (Mod.refl _ _).drew
          generalize w6.drew = w13 at md4 ⊢
          refine DD 0 rfl (by kernel_rfl) rfl (fun wD mD => op_move rfl) ?_
          refine DD 1 rfl (by kernel_rfl) rfl (fun wD mD => op_nilCheck rfl) ?_
          refine DD 2 rfl (by kernel_rfl) rfl (fun wD mD => op_fieldAddr (off' := 3) rfl Try.runUnderlying33 rfl rfl Try.sizeOf31 rfl) ?_
          refine DR.call (i := 3) (fun uA => uA = .bool (vFil k kc0 kc1 kc2 ks0 ks1)) rfl rfl (by kernel_rfl) (.free rfl) rfl (ltb rfl) ⟨_, rfl⟩ (vs := [.func (.func 109) #[] #[], vP p 3]) rfl (fun wD mD => oc_call (vs := [vP p 3]) (cap := []) rfl rfl rfl Try.call109 (c_l02Ok k kc0 kc1 kc2 ks0 ks1 p 3 [vS bR 0 nR cR, vS bL 0 nL cL, vS bS 0 nS cS, vI k, vF kc0, vF kc1, vF kc2, vF ks0, vF ks1, .bool op, vF lo, vF re, vF sl] (lB rfl) wD (Rng.congr ((((((q.ext m1).ext m2).ext m3).ext m5).ext md4).ext mD) rfl))) ?_ ?_
          ·rintro w1 _ w2 m1 ⟨rfl, m2⟩; exact ⟨rfl, m2⟩
          rintro _ rfl
          refine DD 4 rfl (by kernel_rfl) rfl (fun wD mD => op_move rfl) ?_
          refine DR.skip (i := 5) rfl (by kernel_rfl) (.no rfl rfl rfl (ltb rfl) rfl hb12) rfl (ltb rfl) ?_
          refine DR.skip (i := 6) rfl (by kernel_rfl) (.no rfl rfl rfl (ltb rfl) rfl hb12) rfl (ltb rfl) ?_
          refine DR.skip (i := 7) rfl (by kernel_rfl) (.no rfl rfl rfl (ltb rfl) rfl hb12) rfl (ltb rfl) ?_
          refine DR.skip (i := 8) rfl (by kernel_rfl) (.no rfl rfl rfl (ltb rfl) rfl hb12) rfl (ltb rfl) ?_
          refine DR.skip (i := 9) rfl (by kernel_rfl) (.no rfl rfl rfl (ltb rfl) rfl hb12) rfl (ltb rfl) ?_
          refine DR.skip (i := 10) rfl (by kernel_rfl) (.no rfl rfl rfl (ltb rfl) rfl hb12) rfl (ltb rfl) ?_
          refine DD 11 rfl (by kernel_rfl) rfl (fun wD mD => op_pick_f rfl hb12 rfl) ?_
          refine DD 12 rfl (by kernel_rfl) rfl (fun wD mD => op_move rfl) ?_
          refine DR.skip (i := 13) rfl (by kernel_rfl) (.no rfl rfl rfl (ltb rfl) rfl rfl) rfl (ltb rfl) ?_
          refine DR.skip (i := 14) rfl (by kernel_rfl) (.no rfl rfl rfl (ltb rfl) rfl rfl) rfl (ltb rfl) ?_
          refine DR.skip (i := 15) rfl (by kernel_rfl) (.no rfl rfl rfl (ltb rfl) rfl rfl) rfl (ltb rfl) ?_
          refine DR.skip (i := 16) rfl (by kernel_rfl) (.no rfl rfl rfl (ltb rfl) rfl rfl) rfl (ltb rfl) ?_
          refine DR.skip (i := 17) rfl (by kernel_rfl) (.no rfl rfl rfl (ltb rfl) rfl rfl) rfl (ltb rfl) ?_
          refine DR.skip (i := 18) rfl (by kernel_rfl) (.no rfl rfl rfl (ltb rfl) rfl rfl) rfl (ltb rfl) ?_
          refine DR.skip (i := 19) rfl (by kernel_rfl) (.no rfl rfl rfl (ltb rfl) rfl rfl) rfl (ltb rfl) ?_
          refine DR.skip (i := 20) rfl (by kernel_rfl) (.no rfl rfl rfl (ltb rfl) rfl rfl) rfl (ltb rfl) ?_
          refine DR.skip (i := 21) rfl (by kernel_rfl) (.no rfl rfl rfl (ltb rfl) rfl rfl) rfl (ltb rfl) ?_
          refine DR.skip (i := 22) rfl (by kernel_rfl) (.no rfl rfl rfl (ltb rfl) rfl rfl) rfl (ltb rfl) ?_
          refine DR.skip (i := 23) rfl (by kernel_rfl) (.no rfl rfl rfl (ltb rfl) rfl rfl) rfl (ltb rfl) ?_
          refine DR.skip (i := 24) rfl (by kernel_rfl) (.no rfl rfl rfl (ltb rfl) rfl rfl) rfl (ltb rfl) ?_
          refine DR.done rfl ?_
          intro w14 m10
          iterate 2 refine WO.skip rfl (.no rfl rfl rfl (ltb rfl) rfl rfl) rfl (ltb rfl) ?_
          refine WO.det (op_pick_f rfl rfl rfl) rfl (.free rfl) rfl rfl ?_
          refine WO.det (op_assign rfl) rfl (.free rfl) rfl rfl ?_
          refine WO.end (NE.code (CE.ret' ?_))
          refine XE.leave1 Try.results57 rfl ?_
          refine ⟨?_, (((((((Mod.refl [] w).nt m1).nt m2).nt m3).nt m5).nt md4).nt m10)⟩
          all_goals rw [vPipe_eq hs.1 hs.2.1 hs.2.2.1 hs.2.2.2]
          all_goals first | (exfalso; omega) | (rw [vSc_out (i := i2) (by omega) (Bool.and_eq_false_iff.2 (by first | exact .inl (by assumption) | exact .inr (by assumption)))]; simp; done) | (have e1 : i = nR := (by omega); have e2 : i2 = nS := (by omega); rw [e1] at hu; rw [e2] at hu2; simp_all; done) | (rw [vLens_out (i := i) (by omega) (beq_eq_false_iff_ne.2 (by assumption))]; simp; done) | (simp_all; done)
      ·refine CE.cond_t rfl (bnot_f hb6) ?_
       refine CE.seq (CE.region ?_)
       refine WD (op_assign rfl) rfl ?_
       refine WL.end (NE.code (CE.ret' (XE.ret_then ?_)))
       refine XE.leave1 Try.results57 rfl ?_
       refine ⟨?_, (((Mod.refl [] w).nt m1).nt m2)⟩
       all_goals rw [vPipe_eq hs.1 hs.2.1 hs.2.2.1 hs.2.2.2]
       all_goals first | (exfalso; omega) | (rw [vSc_out (i := i2) (by omega) (Bool.and_eq_false_iff.2 (by first | exact .inl (by assumption) | exact .inr (by assumption)))]; simp; done) | (have e1 : i = nR := (by omega); have e2 : i2 = nS := (by omega); rw [e1] at hu; rw [e2] at hu2; simp_all; done) | (rw [vLens_out (i := i) (by omega) (beq_eq_false_iff_ne.2 (by assumption))]; simp; done) | (simp_all; done)
     ·refine WL.no rfl rfl rfl (ltb rfl) rfl (bnot_f hb5) rfl (ltb rfl) ?_
      iterate 5 refine WL.no rfl rfl rfl (ltb rfl) rfl (bnot_f hb5) rfl (ltb rfl) ?_
      refine WD (op_pick_t rfl (bnot_f hb5) rfl) rfl ?_
      refine WL.end (NE.code ?_)
      refine CE.cond_t rfl rfl ?_
      refine CE.seq (CE.region ?_)
      refine WD (op_assign rfl) rfl ?_
      refine WL.end (NE.code (CE.ret' (XE.ret_then ?_)))
      refine XE.leave1 Try.results57 rfl ?_
      refine ⟨?_, ((Mod.refl [] w).nt m1)⟩
      all_goals rw [vPipe_eq hs.1 hs.2.1 hs.2.2.1 hs.2.2.2]
      all_goals first | (exfalso; omega) | (rw [vSc_out (i := i2) (by omega) (Bool.and_eq_false_iff.2 (by first | exact .inl (by assumption) | exact .inr (by assumption)))]; simp; done) | (have e1 : i = nR := (by omega); have e2 : i2 = nS := (by omega); rw [e1] at hu; rw [e2] at hu2; simp_all; done) | (rw [vLens_out (i := i) (by omega) (beq_eq_false_iff_ne.2 (by assumption))]; simp; done) | (simp_all; done)

theorem c_ValidPipeS (nR : Nat) (GR : List RD) (nL : Nat) (GL : List RD) (nS : Nat) (xS : List Nat) (cR : Nat) (bR : Nat) (PR : List BC) (loR : Nat) (cL : Nat) (bL : Nat) (PL : List BC) (loL : Nat) (cS : Nat) (bS : Nat) (k : Int) (kc0 : Nat) (kc1 : Nat) (kc2 : Nat) (ks0 : Nat) (ks1 : Nat) (op : Bool) (lo : Nat) (re : Nat) (sl : Nat) (lDR : GR.length = nR) (lDL : GL.length = nL) (lnS : xS.length = nS) (hzR : ∀ i, (GR.getD i RD.d).xs.length ≤ 1048576) (hzL : ∀ i, (GL.getD i RD.d).xs.length ≤ 1048576) (lPR : PR.length = nR) (lPL : PL.length = nL) (mR : nR ≤ 1048576) (mL : nL ≤ 1048576) (mS : nS ≤ 1048576) (hs : 1 ≤ nR ∧ nR ≤ 3 ∧ nL = nR ∧ nS + 1 = nR) (w : World) (rR : Rng w bR 0 (olc GR PR)) (rL : Rng w bL 0 (olc GL PL)) (rS : Rng w bS 0 (fl xS))  (FR : OF loR w GR PR) (FL : OF loL w GL PL) : Cl Try.prog 44 #[.agg #[vS bR 0 nR cR, vS bL 0 nL cL, vS bS 0 nS cS, vI k, vF kc0, vF kc1, vF kc2, vF ks0, vF ks1, .bool op, vF lo, vF re, vF sl]] w fun v w' => v = .bool (vPipe nR nL nS GR GL xS k kc0 kc1 kc2 ks0 ks1 lo re sl) ∧ Mod [] w w' := by
 refine Cl.of Try.func44 Try.ntmps44 rfl rfl (ρ := [(0, .agg #[vS bR 0 nR cR, vS bL 0 nL cL, vS bS 0 nS cS, vI k, vF kc0, vF kc1, vF kc2, vF ks0, vF ks1, .bool op, vF lo, vF re, vF sl])]) rfl ?_
 refine CE.seq (CE.region ?_)
 refine WL.op (op_box (cs := [vS bR 0 nR cR, vS bL 0 nL cL, vS bS 0 nS cS, vI k, vF kc0, vF kc1, vF kc2, vF ks0, vF ks1, .bool op, vF lo, vF re, vF sl]) rfl rfl) rfl rfl (ltb rfl) ?_
 rintro _ w1 ⟨rfl, r1, m1, z1⟩
 refine WD (op_assign rfl) rfl ?_
 refine WL.end (NE.code (CE.seq (CE.region ?_)))
 refine WD (op_fieldAddr (off' := 0) rfl Try.runUnderlying33 rfl rfl Try.sizeOf25 rfl) rfl ?_
 refine WD (op_load1 (i := 0) rfl Try.isAgg25 r1.rng rfl rfl) rfl ?_
 refine WD (op_len rfl Try.runUnderlying25) rfl ?_
 refine WD (op_assign rfl) rfl ?_
 refine WL.end (NE.code (CE.seq (CE.seq (CE.region ?_))))
 refine WD (op_move rfl) rfl ?_
 refine WL.call (oc_call (vs := [vI ((nR : Nat) : Int), vI 1, vI 3]) (cap := []) rfl rfl rfl Try.call62 (c_within ((nR : Nat) : Int) (1 : Int) (3 : Int) w1)) rfl rfl (ltb rfl) ?_
 rintro _ _ ⟨rfl, rfl⟩
 refine WD (op_not rfl) rfl ?_
 refine WD (op_move rfl) rfl ?_
 refine WL.yes rfl rfl rfl (ltb rfl) rfl (bnot_t ((vIn_t _ _ _).2 (by omega))) ?_
 refine WD (op_fieldAddr (off' := 1) rfl Try.runUnderlying33 rfl rfl Try.sizeOf25 rfl) rfl ?_
 refine WL.yes rfl rfl rfl (ltb rfl) rfl (bnot_t ((vIn_t _ _ _).2 (by omega))) ?_
 refine WD (op_load1 (i := 1) rfl Try.isAgg25 r1.rng rfl rfl) rfl ?_
 refine WL.yes rfl rfl rfl (ltb rfl) rfl (bnot_t ((vIn_t _ _ _).2 (by omega))) ?_
 refine WD (op_len rfl Try.runUnderlying25) rfl ?_
 refine WL.yes rfl rfl rfl (ltb rfl) rfl (bnot_t ((vIn_t _ _ _).2 (by omega))) ?_
 refine WD (op_move rfl) rfl ?_
 refine WL.yes rfl rfl rfl (ltb rfl) rfl (bnot_t ((vIn_t _ _ _).2 (by omega))) ?_
 refine WD (op_nei rfl rfl) rfl ?_
 refine WD (op_pick_f rfl (bnot_t ((vIn_t _ _ _).2 (by omega))) rfl) rfl ?_
 refine WD (op_move rfl) rfl ?_
 rcases Bool.eq_false_or_eq_true ((((nL : Nat) : Int) != ((nR : Nat) : Int))) with hb1 | hb1
 ·have hp1 := bne_iff_ne.1 hb1
  iterate 6 refine WL.no rfl rfl rfl (ltb rfl) rfl hb1 rfl (ltb rfl) ?_
  refine WD (op_pick_t rfl hb1 rfl) rfl ?_
  refine WD (op_move rfl) rfl ?_
  iterate 4 refine WL.no rfl rfl rfl (ltb rfl) rfl rfl rfl (ltb rfl) ?_
  refine WD (op_pick_t rfl rfl rfl) rfl ?_
  refine WD (op_move rfl) rfl ?_
  iterate 9 refine WL.no rfl rfl rfl (ltb rfl) rfl rfl rfl (ltb rfl) ?_
  refine WD (op_pick_t rfl rfl rfl) rfl ?_
  refine WL.end (NE.code ?_)
  refine CE.cond_t rfl rfl ?_
  refine CE.seq (CE.region ?_)
  refine WD (op_assign rfl) rfl ?_
  refine WL.end (NE.code (CE.ret' (XE.ret_then ?_)))
  refine XE.leave1 Try.results44 rfl ?_
  refine ⟨?_, ((Mod.refl [] w).nt m1)⟩
  all_goals rw [vPipe_eq hs.1 hs.2.1 hs.2.2.1 hs.2.2.2]
  all_goals first | (exfalso; omega) | (rw [vRings_out (D := GR) (i := i) (by omega) (by assumption)]; simp; done) | (rw [vRings_out (D := GL) (i := i) (by omega) (by assumption)]; simp; done) | (rw [vLens_out (i := i) (by omega) (beq_eq_false_iff_ne.2 (by assumption))]; simp; done) | (have e1 : i = nR := (by omega); rw [e1] at hu1 hu2 hu3; simp_all; done) | (simp_all; done)
 ·have hp1 := bne_eq_false_iff_eq.1 hb1
  refine WL.yes rfl rfl rfl (ltb rfl) rfl hb1 ?_
  refine WD (op_fieldAddr (off' := 2) rfl Try.runUnderlying33 rfl rfl Try.sizeOf26 rfl) rfl ?_
  refine WL.yes rfl rfl rfl (ltb rfl) rfl hb1 ?_
  refine WD (op_load1 (i := 2) rfl Try.isAgg26 r1.rng rfl rfl) rfl ?_
  refine WL.yes rfl rfl rfl (ltb rfl) rfl hb1 ?_
  refine WD (op_len rfl Try.runUnderlying26) rfl ?_
  refine WL.yes rfl rfl rfl (ltb rfl) rfl hb1 ?_
  refine WD (op_move rfl) rfl ?_
  refine WL.yes rfl rfl rfl (ltb rfl) rfl hb1 ?_
  refine WD (op_sub (r := (((nR : Nat) : Int) - (1 : Int))) rfl rfl (w_i64 (by omega) (by omega))) rfl ?_
  refine WL.yes rfl rfl rfl (ltb rfl) rfl hb1 ?_
  refine WD (op_nei rfl rfl) rfl ?_
  refine WD (op_pick_f rfl hb1 rfl) rfl ?_
  refine WD (op_move rfl) rfl ?_
  rcases Bool.eq_false_or_eq_true ((((nS : Nat) : Int) != (((nR : Nat) : Int) - (1 : Int)))) with hb2 | hb2
  ·have hp2 := bne_iff_ne.1 hb2
   iterate 4 refine WL.no rfl rfl rfl (ltb rfl) rfl hb2 rfl (ltb rfl) ?_
   refine WD (op_pick_t rfl hb2 rfl) rfl ?_
   refine WD (op_move rfl) rfl ?_
   iterate 9 refine WL.no rfl rfl rfl (ltb rfl) rfl rfl rfl (ltb rfl) ?_
   refine WD (op_pick_t rfl rfl rfl) rfl ?_
   refine WL.end (NE.code ?_)
   refine CE.cond_t rfl rfl ?_
   refine CE.seq (CE.region ?_)
   refine WD (op_assign rfl) rfl ?_
   refine WL.end (NE.code (CE.ret' (XE.ret_then ?_)))
   refine XE.leave1 Try.results44 rfl ?_
   refine ⟨?_, ((Mod.refl [] w).nt m1)⟩
   all_goals rw [vPipe_eq hs.1 hs.2.1 hs.2.2.1 hs.2.2.2]
   all_goals first | (exfalso; omega) | (rw [vRings_out (D := GR) (i := i) (by omega) (by assumption)]; simp; done) | (rw [vRings_out (D := GL) (i := i) (by omega) (by assumption)]; simp; done) | (rw [vLens_out (i := i) (by omega) (beq_eq_false_iff_ne.2 (by assumption))]; simp; done) | (have e1 : i = nR := (by omega); rw [e1] at hu1 hu2 hu3; simp_all; done) | (simp_all; done)
  ·have hp2 := bne_eq_false_iff_eq.1 hb2
   refine WL.yes rfl rfl rfl (ltb rfl) rfl hb2 ?_
   refine WD (op_fieldAddr (off' := 3) rfl Try.runUnderlying33 rfl rfl Try.sizeOf31 rfl) rfl ?_
   refine WL.yes rfl rfl rfl (ltb rfl) rfl hb2 ?_
   refine WD (op_loadA (i := 3) (cs := [vI k, vF kc0, vF kc1, vF kc2, vF ks0, vF ks1]) rfl Try.isAgg31 Try.sizeOf31 r1.rng rfl rfl rfl) rfl ?_
   refine WL.yes rfl rfl rfl (ltb rfl) rfl hb2 ?_
   refine WL.call (oc_call (vs := [.agg #[vI k, vF kc0, vF kc1, vF kc2, vF ks0, vF ks1], vI 1]) (cap := []) rfl rfl rfl Try.call101 (c_isFilter k kc0 kc1 kc2 ks0 ks1 (1 : Int) w1)) rfl rfl (ltb rfl) ?_
   rintro _ w2 ⟨rfl, m2⟩
   refine WL.yes rfl rfl rfl (ltb rfl) rfl hb2 ?_
   refine WD (op_not rfl) rfl ?_
   refine WD (op_pick_f rfl hb2 rfl) rfl ?_
   refine WD (op_move rfl) rfl ?_
   rcases Bool.eq_false_or_eq_true (vFil k kc0 kc1 kc2 ks0 ks1 && (k == (1 : Int))) with hb3 | hb3
   ·have hp3 := hb3; try simp only [Bool.and_eq_true, Bool.or_eq_true, Bool.not_eq_true', Bool.not_eq_false', Bool.and_eq_false_iff, Bool.or_eq_false_iff, decide_eq_true_eq, decide_eq_false_iff_not, beq_iff_eq, bne_iff_ne, beq_eq_false_iff_ne, bne_eq_false_iff_eq, ne_eq, Bool.false_eq_true, not_false_eq_true, not_true_eq_false, vIn_t, vIn_f] at hp3
    refine WL.yes rfl rfl rfl (ltb rfl) rfl (bnot_t hb3) ?_
    refine WD (op_fieldAddr (off' := 10) rfl Try.runUnderlying33 rfl rfl Try.sizeOf27 rfl) rfl ?_
    refine WL.yes rfl rfl rfl (ltb rfl) rfl (bnot_t hb3) ?_
    refine WD (op_load1 (i := 10) rfl Try.isAgg27 (r1.ext m2).rng rfl rfl) rfl ?_
    refine WL.yes rfl rfl rfl (ltb rfl) rfl (bnot_t hb3) ?_
    refine WD (op_fieldAddr (off' := 11) rfl Try.runUnderlying33 rfl rfl Try.sizeOf27 rfl) rfl ?_
    refine WL.yes rfl rfl rfl (ltb rfl) rfl (bnot_t hb3) ?_
    refine WD (op_load1 (i := 11) rfl Try.isAgg27 (r1.ext m2).rng rfl rfl) rfl ?_
    refine WL.yes rfl rfl rfl (ltb rfl) rfl (bnot_t hb3) ?_
    refine WD (op_fieldAddr (off' := 12) rfl Try.runUnderlying33 rfl rfl Try.sizeOf27 rfl) rfl ?_
    refine WL.yes rfl rfl rfl (ltb rfl) rfl (bnot_t hb3) ?_
    refine WD (op_load1 (i := 12) rfl Try.isAgg27 (r1.ext m2).rng rfl rfl) rfl ?_
    refine WL.yes rfl rfl rfl (ltb rfl) rfl (bnot_t hb3) ?_
    refine WL.op (op_buildSl (qs := [(0, vF lo), (1, vF re), (2, vF sl)]) (cells := #[vF lo, vF re, vF sl]) rfl Try.runUnderlying26 Try.sizeOf27 Try.zeroValue27 (by decide) (by decide) (by kernel_rfl)) rfl rfl (ltb rfl) ?_
    rintro _ w3 ⟨rfl, r2, m3, z2⟩
    refine WL.yes rfl rfl rfl (ltb rfl) rfl (bnot_t hb3) ?_
    refine WL.call (oc_call (vs := [vS w2.heap.size 0 3 3]) (cap := []) rfl rfl rfl Try.call83 (c_areFinite 3 3 w2.heap.size [lo, re, sl] rfl (by omega) w3 r2.rng)) rfl rfl (ltb rfl) ?_
    rintro _ w4 ⟨rfl, m4⟩
    refine WL.yes rfl rfl rfl (ltb rfl) rfl (bnot_t hb3) ?_
    refine WD (op_not rfl) rfl ?_
    refine WD (op_pick_f rfl (bnot_t hb3) rfl) rfl ?_
    refine WL.end (NE.code ?_)
    rcases Bool.eq_false_or_eq_true (allF [lo, re, sl] 3) with hb4 | hb4
    ·refine CE.cond_f rfl (bnot_t hb4) ?_
     refine CE.skip' (NE.code (CE.seq (CE.seq (CE.region ?_))))
     refine WD (op_fieldAddr (off' := 0) rfl Try.runUnderlying33 rfl rfl Try.sizeOf25 rfl) rfl ?_
     have r3 := (((r1.ext m2).ext m3).ext m4)
     refine WD (op_load1 (i := 0) rfl Try.isAgg25 r3.rng rfl rfl) rfl ?_
     refine WD (op_len rfl Try.runUnderlying25) rfl ?_
     refine WD (op_move rfl) rfl ?_
     refine WL.end (NE.code (CE.block ?_))
     refine CE.loop (fun (i : Nat) => [(47, vI ((i : Nat) : Int)), (1, vP w.heap.size 0), (2, .bool false), (45, vS bR 0 nR cR), (46, vI ((nR : Nat) : Int))]) (fun (i : Nat) => fun W => (i ≤ nR) ∧ (vRings GR i = true) ∧ (vRings GL i = true) ∧ (vLens GR GL i = true) ∧ Mod [] w4 W) (fun (i : Nat) => nR - i) 0 (⟨rfl, rfl, rfl, rfl, rfl, trivial⟩) ⟨(by omega), (by rfl), (by rfl), (by rfl), Mod.refl _ _⟩ ?_
     rintro i w5 ⟨hi, hu1, hu2, hu3, m5⟩
     have hzi := hzR i
     have hzj := hzL i
     show CE _ _ _ _ [(47, vI ((i : Nat) : Int)), (1, vP w.heap.size 0), (2, .bool false), (45, vS bR 0 nR cR), (46, vI ((nR : Nat) : Int))] _
     refine CE.seq (CE.region ?_)
     refine WD (op_lti rfl rfl) rfl ?_
     refine WL.end (NE.code (CE.seq ?_))
     rcases Bool.eq_false_or_eq_true (decide (((i : Nat) : Int) < ((nR : Nat) : Int))) with hb5 | hb5
     ·have hp5 := of_decide_eq_true hb5
      refine CE.cond_t rfl hb5 ?_
      refine CE.skip' (NE.code (CE.seq (CE.block (CE.seq (CE.region ?_)))))
      refine WD (op_move rfl) rfl ?_
      refine WD (op_indexSl (off' := 0 + i * 2) rfl rfl rfl Try.runUnderlying25 Try.sizeOf60 (by omega) (by omega) (by omega)) rfl ?_
      have r4 := (((((rR.ext m1).ext m2).ext m3).ext m4).ext m5)
      refine WD (op_loadA (i := i * 2) (cs := [vS ((PR.getD i BC.d).b) 0 ((GR.getD i RD.d).xs.length) ((PR.getD i BC.d).c), vI ((GR.getD i RD.d).at_)]) rfl Try.isAgg60 Try.sizeOf60 r4 rfl (olc_at lDR lPR (show i < nR by omega)) rfl) rfl ?_
      refine WL.op (op_alloc (cs := [.slice none 0 0, vI 0]) Try.zeroValue60 rfl) rfl rfl (ltb rfl) ?_
      rintro _ w6 ⟨rfl, r5, m6, z3⟩
      refine WD (op_assign rfl) rfl ?_
      refine WL.op0 (op_store (i := 0) (cs := [vS ((PR.getD i BC.d).b) 0 ((GR.getD i RD.d).xs.length) ((PR.getD i BC.d).c), vI ((GR.getD i RD.d).at_)]) rfl rfl rfl Try.sizeOf60 rfl r5 rfl (lB rfl) rfl) rfl rfl ?_
      rintro _ w7 ⟨r6, m7, z4⟩
      have r7 : Row w7 w5.heap.size 0 [vS ((PR.getD i BC.d).b) 0 ((GR.getD i RD.d).xs.length) ((PR.getD i BC.d).c), vI ((GR.getD i RD.d).at_)] := Row.congr r6 rfl
      refine WL.end (NE.code (CE.seq ?_))
      rcases Bool.eq_false_or_eq_true (vRingF ((GR.getD i RD.d).xs.length) ((GR.getD i RD.d).at_) ((GR.getD i RD.d).xs)) with hb6 | hb6
      ·rcases Bool.eq_false_or_eq_true (vRingF ((GL.getD i RD.d).xs.length) ((GL.getD i RD.d).at_) ((GL.getD i RD.d).xs)) with hb7 | hb7
       ·refine CE.draw (fun | 1 => some (fun _ wA uA wB => uA = .bool (vRingF ((GR.getD i RD.d).xs.length) ((GR.getD i RD.d).at_) ((GR.getD i RD.d).xs)) ∧ Mod [] wA wB) | 9 => some (fun _ wA uA wB => uA = .bool (vRingF ((GL.getD i RD.d).xs.length) ((GL.getD i RD.d).at_) ((GL.getD i RD.d).xs)) ∧ Mod [] wA wB) | _ => none) [0, 1, 2, 3, 4, 5, 6, 7, 8, 9, 10, 11, 12, 13, 14, 15, 16, 17, 18, 19, 20, 21, 22] [23, 24] [] (by kernel_rfl) (by kernel_rfl) ?_
        have md1 : Mod [] w7 w7.drew := (Mod.refl _ _).drew
        generalize w7.drew = w8 at md1 ⊢
        refine DD 0 rfl (by kernel_rfl) rfl (fun wD mD => op_loadA (i := 0) (cs := [vS ((PR.getD i BC.d).b) 0 ((GR.getD i RD.d).xs.length) ((PR.getD i BC.d).c), vI ((GR.getD i RD.d).at_)]) rfl Try.isAgg60 Try.sizeOf60 ((r7.ext md1).ext mD).rng rfl rfl rfl) ?_
        refine DR.call (i := 1) (fun uA => uA = .bool (vRingF ((GR.getD i RD.d).xs.length) ((GR.getD i RD.d).at_) ((GR.getD i RD.d).xs))) rfl rfl (by kernel_rfl) (.free rfl) rfl (ltb rfl) ⟨_, rfl⟩ (vs := [.func (.func 102) #[] #[], .agg #[vS ((PR.getD i BC.d).b) 0 ((GR.getD i RD.d).xs.length) ((PR.getD i BC.d).c), vI ((GR.getD i RD.d).at_)]]) rfl (fun wD mD => oc_call (vs := [.agg #[vS ((PR.getD i BC.d).b) 0 ((GR.getD i RD.d).xs.length) ((PR.getD i BC.d).c), vI ((GR.getD i RD.d).at_)]]) (cap := []) rfl rfl rfl Try.call102 (c_isRing ((GR.getD i RD.d).xs.length) ((PR.getD i BC.d).c) ((PR.getD i BC.d).b) ((GR.getD i RD.d).xs) ((GR.getD i RD.d).at_) rfl (by omega) wD ((((((((((OF.row FR i (lQ (show i < nR by omega) lDR.symm)).ext m1).ext m2).ext m3).ext m4).ext m5).ext m6).mod m7 (nC (lE (lL (OF.lt FR (lQ (show i < nR by omega) lDR.symm)) (lT (lT (lT (lT (lT m1.size m2.size) m3.size) m4.size) m5.size) lR))) nN)).ext md1).ext mD).rng)) ?_ ?_
        ·rintro w1 _ w2 m1 ⟨rfl, m2⟩; exact ⟨rfl, m2⟩
        rintro _ rfl
        refine DD 2 rfl (by kernel_rfl) rfl (fun wD mD => op_not rfl) ?_
        refine DD 3 rfl (by kernel_rfl) rfl (fun wD mD => op_move rfl) ?_
        refine DR.det (i := 4) rfl rfl (by kernel_rfl) (.yes rfl rfl rfl (ltb rfl) rfl (bnot_t hb6)) rfl rfl (fun wD mD => op_fieldAddr (off' := 1) rfl Try.runUnderlying33 rfl rfl Try.sizeOf25 rfl) ?_
        refine DR.det (i := 5) rfl rfl (by kernel_rfl) (.yes rfl rfl rfl (ltb rfl) rfl (bnot_t hb6)) rfl rfl (fun wD mD => op_load1 (i := 1) rfl Try.isAgg25 (((((r3.ext m5).ext m6).mod m7 (nC (lE (lL (lL r1.lt (lT (lT (lT m2.size m3.size) m4.size) m5.size)) lR)) nN)).ext md1).ext mD).rng rfl rfl) ?_
        refine DR.det (i := 6) rfl rfl (by kernel_rfl) (.yes rfl rfl rfl (ltb rfl) rfl (bnot_t hb6)) rfl rfl (fun wD mD => op_move rfl) ?_
        refine DR.det (i := 7) rfl rfl (by kernel_rfl) (.yes rfl rfl rfl (ltb rfl) rfl (bnot_t hb6)) rfl rfl (fun wD mD => op_indexSl (off' := 0 + i * 2) rfl rfl rfl Try.runUnderlying25 Try.sizeOf60 (by omega) (by omega) (by omega)) ?_
        refine DR.det (i := 8) rfl rfl (by kernel_rfl) (.yes rfl rfl rfl (ltb rfl) rfl (bnot_t hb6)) rfl rfl (fun wD mD => op_loadA (i := i * 2) (cs := [vS ((PL.getD i BC.d).b) 0 ((GL.getD i RD.d).xs.length) ((PL.getD i BC.d).c), vI ((GL.getD i RD.d).at_)]) rfl Try.isAgg60 Try.sizeOf60 (((Rng.youngS rL ((((((rL.ext m1).ext m2).ext m3).ext m4).ext m5).ext m6) m7 (allge_cons (lT (lT (lT (lT (lT m1.size m2.size) m3.size) m4.size) m5.size) lR) allge_nil)).ext md1).ext mD) rfl (olc_at lDL lPL (show i < nL by omega)) rfl) ?_
        refine DR.call (i := 9) (fun uA => uA = .bool (vRingF ((GL.getD i RD.d).xs.length) ((GL.getD i RD.d).at_) ((GL.getD i RD.d).xs))) rfl rfl (by kernel_rfl) (.yes rfl rfl rfl (ltb rfl) rfl (bnot_t hb6)) rfl (ltb rfl) ⟨_, rfl⟩ (vs := [.func (.func 102) #[] #[], .agg #[vS ((PL.getD i BC.d).b) 0 ((GL.getD i RD.d).xs.length) ((PL.getD i BC.d).c), vI ((GL.getD i RD.d).at_)]]) rfl (fun wD mD => oc_call (vs := [.agg #[vS ((PL.getD i BC.d).b) 0 ((GL.getD i RD.d).xs.length) ((PL.getD i BC.d).c), vI ((GL.getD i RD.d).at_)]]) (cap := []) rfl rfl rfl Try.call102 (c_isRing ((GL.getD i RD.d).xs.length) ((PL.getD i BC.d).c) ((PL.getD i BC.d).b) ((GL.getD i RD.d).xs) ((GL.getD i RD.d).at_) rfl (by omega) wD ((((((((((OF.row FL i (lQ (show i < nL by omega) lDL.symm)).ext m1).ext m2).ext m3).ext m4).ext m5).ext m6).mod m7 (nC (lE (lL (OF.lt FL (lQ (show i < nL by omega) lDL.symm)) (lT (lT (lT (lT (lT m1.size m2.size) m3.size) m4.size) m5.size) lR))) nN)).ext md1).ext mD).rng)) ?_ ?_
        ·rintro w1 _ w2 m1 ⟨rfl, m2⟩; exact ⟨rfl, m2⟩
        rintro _ rfl
        refine DR.det (i := 10) rfl rfl (by kernel_rfl) (.yes rfl rfl rfl (ltb rfl) rfl (bnot_t hb6)) rfl rfl (fun wD mD => op_not rfl) ?_
        refine DD 11 rfl (by kernel_rfl) rfl (fun wD mD => op_pick_f rfl (bnot_t hb6) rfl) ?_
        refine DD 12 rfl (by kernel_rfl) rfl (fun wD mD => op_move rfl) ?_
        refine DR.det (i := 13) rfl rfl (by kernel_rfl) (.yes rfl rfl rfl (ltb rfl) rfl (bnot_t hb7)) rfl rfl (fun wD mD => op_fieldAddr (off' := 0) rfl Try.runUnderlying60 rfl rfl Try.sizeOf26 rfl) ?_
        refine DR.det (i := 14) rfl rfl (by kernel_rfl) (.yes rfl rfl rfl (ltb rfl) rfl (bnot_t hb7)) rfl rfl (fun wD mD => op_load1 (i := 0) rfl Try.isAgg26 ((r7.ext md1).ext mD).rng rfl rfl) ?_
        refine DR.det (i := 15) rfl rfl (by kernel_rfl) (.yes rfl rfl rfl (ltb rfl) rfl (bnot_t hb7)) rfl rfl (fun wD mD => op_len rfl Try.runUnderlying26) ?_
        refine DR.det (i := 16) rfl rfl (by kernel_rfl) (.yes rfl rfl rfl (ltb rfl) rfl (bnot_t hb7)) rfl rfl (fun wD mD => op_fieldAddr (off' := 1) rfl Try.runUnderlying33 rfl rfl Try.sizeOf25 rfl) ?_
        refine DR.det (i := 17) rfl rfl (by kernel_rfl) (.yes rfl rfl rfl (ltb rfl) rfl (bnot_t hb7)) rfl rfl (fun wD mD => op_load1 (i := 1) rfl Try.isAgg25 (((((r3.ext m5).ext m6).mod m7 (nC (lE (lL (lL r1.lt (lT (lT (lT m2.size m3.size) m4.size) m5.size)) lR)) nN)).ext md1).ext mD).rng rfl rfl) ?_
        refine DR.det (i := 18) rfl rfl (by kernel_rfl) (.yes rfl rfl rfl (ltb rfl) rfl (bnot_t hb7)) rfl rfl (fun wD mD => op_move rfl) ?_
        refine DR.det (i := 19) rfl rfl (by kernel_rfl) (.yes rfl rfl rfl (ltb rfl) rfl (bnot_t hb7)) rfl rfl (fun wD mD => op_indexSl (off' := 0 + i * 2) rfl rfl rfl Try.runUnderlying25 Try.sizeOf60 (by omega) (by omega) (by omega)) ?_
        refine DR.det (i := 20) rfl rfl (by kernel_rfl) (.yes rfl rfl rfl (ltb rfl) rfl (bnot_t hb7)) rfl rfl (fun wD mD => op_fieldAddr (off' := 0 + i * 2) rfl Try.runUnderlying60 rfl rfl Try.sizeOf26 rfl) ?_
        refine DR.det (i := 21) rfl rfl (by kernel_rfl) (.yes rfl rfl rfl (ltb rfl) rfl (bnot_t hb7)) rfl rfl (fun wD mD => op_load1 (i := i * 2) rfl Try.isAgg26 (((Rng.youngS rL ((((((rL.ext m1).ext m2).ext m3).ext m4).ext m5).ext m6) m7 (allge_cons (lT (lT (lT (lT (lT m1.size m2.size) m3.size) m4.size) m5.size) lR) allge_nil)).ext md1).ext mD) rfl (olc_get0 lDL lPL (show i < nL by omega))) ?_
        refine DR.det (i := 22) rfl rfl (by kernel_rfl) (.yes rfl rfl rfl (ltb rfl) rfl (bnot_t hb7)) rfl rfl (fun wD mD => op_len rfl Try.runUnderlying26) ?_
        refine DR.done rfl ?_
        intro w9 m8
        refine WO.det (op_nei rfl rfl) rfl (.yes rfl rfl rfl (ltb rfl) rfl (bnot_t hb7)) rfl rfl ?_
        refine WO.det (op_pick_f rfl (bnot_t hb7) rfl) rfl (.free rfl) rfl rfl ?_
        refine WO.end (NE.code ?_)
        rcases Bool.eq_false_or_eq_true (((((GR.getD i RD.d).xs.length : Nat) : Int) != (((GL.getD i RD.d).xs.length : Nat) : Int))) with hb8 | hb8
        ·have hp8 := bne_iff_ne.1 hb8
         refine CE.cond_t rfl hb8 ?_
         refine CE.seq (CE.region ?_)
         refine WD (op_assign rfl) rfl ?_
         refine WL.end (NE.code (CE.ret' (XE.ret_blk (XE.ret_then (XE.ret_then (XE.ret_blk (XE.ret_then ?_)))))))
         refine XE.leave1 Try.results44 rfl ?_
         have sz1 := (lT (lT (lT (lT m1.size m2.size) m3.size) m4.size) m5.size)
         refine ⟨?_, ((((((((((Mod.refl [] w).nt m1).nt m2).nt m3).nt m4).nt m5).nt m6).then m7 ((aC (.inr (lT sz1 lR)) aN))).nt md1).nt m8)⟩
         all_goals rw [vPipe_eq hs.1 hs.2.1 hs.2.2.1 hs.2.2.2]
         all_goals first | (exfalso; omega) | (rw [vRings_out (D := GR) (i := i) (by omega) (by assumption)]; simp; done) | (rw [vRings_out (D := GL) (i := i) (by omega) (by assumption)]; simp; done) | (rw [vLens_out (i := i) (by omega) (beq_eq_false_iff_ne.2 (by assumption))]; simp; done) | (have e1 : i = nR := (by omega); rw [e1] at hu1 hu2 hu3; simp_all; done) | (simp_all; done)
        ·have hp8 := bne_eq_false_iff_eq.1 hb8
         refine CE.cond_f rfl hb8 ?_
         refine CE.skip' (NE.blk (NE.code (CE.region ?_)))
         refine WD (op_add (r := ((i + 1 : Nat) : Int)) rfl rfl (w_i64 (by omega) (by omega))) rfl ?_
         refine WD (op_move rfl) rfl ?_
         refine WL.end ?_
         exact NE.again (i + 1) (⟨rfl, rfl, rfl, rfl, rfl, trivial⟩) ⟨(by omega), (by simp only [vRings, hu1, Bool.true_and]; assumption), (by simp only [vRings, hu2, Bool.true_and]; assumption), (by simp only [vLens, hu3, Bool.true_and]; exact beq_iff_eq.2 (by assumption)), ((((m5.nt m6).then m7 ((aC (.inr (lT m5.size lR)) aN))).nt md1).nt m8)⟩ (by first | (dsimp only; omega) | omega)
       ·refine CE.draw (fun | 1 => some (fun _ wA uA wB => uA = .bool (vRingF ((GR.getD i RD.d).xs.length) ((GR.getD i RD.d).at_) ((GR.getD i RD.d).xs)) ∧ Mod [] wA wB) | 9 => some (fun _ wA uA wB => uA = .bool (vRingF ((GL.getD i RD.d).xs.length) ((GL.getD i RD.d).at_) ((GL.getD i RD.d).xs)) ∧ Mod [] wA wB) | _ => none) [0, 1, 2, 3, 4, 5, 6, 7, 8, 9, 10, 11, 12, 13, 14, 15, 16, 17, 18, 19, 20, 21, 22] [23, 24] [] (by kernel_rfl) (by kernel_rfl) ?_
        have md2 : Mod [] w7 w7.drew := (Mod.refl _ _).drew
        generalize w7.drew = w10 at md2 ⊢
        refine DD 0 rfl (by kernel_rfl) rfl (fun wD mD => op_loadA (i := 0) (cs := [vS ((PR.getD i BC.d).b) 0 ((GR.getD i RD.d).xs.length) ((PR.getD i BC.d).c), vI ((GR.getD i RD.d).at_)]) rfl Try.isAgg60 Try.sizeOf60 ((r7.ext md2).ext mD).rng rfl rfl rfl) ?_
        refine DR.call (i := 1) (fun uA => uA = .bool (vRingF ((GR.getD i RD.d).xs.length) ((GR.getD i RD.d).at_) ((GR.getD i RD.d).xs))) rfl rfl (by kernel_rfl) (.free rfl) rfl (ltb rfl) ⟨_, rfl⟩ (vs := [.func (.func 102) #[] #[], .agg #[vS ((PR.getD i BC.d).b) 0 ((GR.getD i RD.d).xs.length) ((PR.getD i BC.d).c), vI ((GR.getD i RD.d).at_)]]) rfl (fun wD mD => oc_call (vs := [.agg #[vS ((PR.getD i BC.d).b) 0 ((GR.getD i RD.d).xs.length) ((PR.getD i BC.d).c), vI ((GR.getD i RD.d).at_)]]) (cap := []) rfl rfl rfl Try.call102 (c_isRing ((GR.getD i RD.d).xs.length) ((PR.getD i BC.d).c) ((PR.getD i BC.d).b) ((GR.getD i RD.d).xs) ((GR.getD i RD.d).at_) rfl (by omega) wD ((((((((((OF.row FR i (lQ (show i < nR by omega) lDR.symm)).ext m1).ext m2).ext m3).ext m4).ext m5).ext m6).mod m7 (nC (lE (lL (OF.lt FR (lQ (show i < nR by omega) lDR.symm)) (lT (lT (lT (lT (lT m1.size m2.size) m3.size) m4.size) m5.size) lR))) nN)).ext md2).ext mD).rng)) ?_ ?_
        ·rintro w1 _ w2 m1 ⟨rfl, m2⟩; exact ⟨rfl, m2⟩
        rintro _ rfl
        refine DD 2 rfl (by kernel_rfl) rfl (fun wD mD => op_not rfl) ?_
        refine DD 3 rfl (by kernel_rfl) rfl (fun wD mD => op_move rfl) ?_
        refine DR.det (i := 4) rfl rfl (by kernel_rfl) (.yes rfl rfl rfl (ltb rfl) rfl (bnot_t hb6)) rfl rfl (fun wD mD => op_fieldAddr (off' := 1) rfl Try.runUnderlying33 rfl rfl Try.sizeOf25 rfl) ?_
        refine DR.det (i := 5) rfl rfl (by kernel_rfl) (.yes rfl rfl rfl (ltb rfl) rfl (bnot_t hb6)) rfl rfl (fun wD mD => op_load1 (i := 1) rfl Try.isAgg25 (((((r3.ext m5).ext m6).mod m7 (nC (lE (lL (lL r1.lt (lT (lT (lT m2.size m3.size) m4.size) m5.size)) lR)) nN)).ext md2).ext mD).rng rfl rfl) ?_
        refine DR.det (i := 6) rfl rfl (by kernel_rfl) (.yes rfl rfl rfl (ltb rfl) rfl (bnot_t hb6)) rfl rfl (fun wD mD => op_move rfl) ?_
        refine DR.det (i := 7) rfl rfl (by kernel_rfl) (.yes rfl rfl rfl (ltb rfl) rfl (bnot_t hb6)) rfl rfl (fun wD mD => op_indexSl (off' := 0 + i * 2) rfl rfl rfl Try.runUnderlying25 Try.sizeOf60 (by omega) (by omega) (by omega)) ?_
        refine DR.det (i := 8) rfl rfl (by kernel_rfl) (.yes rfl rfl rfl (ltb rfl) rfl (bnot_t hb6)) rfl rfl (fun wD mD => op_loadA (i := i * 2) (cs := [vS ((PL.getD i BC.d).b) 0 ((GL.getD i RD.d).xs.length) ((PL.getD i BC.d).c), vI ((GL.getD i RD.d).at_)]) rfl Try.isAgg60 Try.sizeOf60 (((Rng.youngS rL ((((((rL.ext m1).ext m2).ext m3).ext m4).ext m5).ext m6) m7 (allge_cons (lT (lT (lT (lT (lT m1.size m2.size) m3.size) m4.size) m5.size) lR) allge_nil)).ext md2).ext mD) rfl (olc_at lDL lPL (show i < nL by omega)) rfl) ?_
        refine DR.call (i := 9) (fun uA => uA = .bool (vRingF ((GL.getD i RD.d).xs.length) ((GL.getD i RD.d).at_) ((GL.getD i RD.d).xs))) rfl rfl (by kernel_rfl) (.yes rfl rfl rfl (ltb rfl) rfl (bnot_t hb6)) rfl (ltb rfl) ⟨_, rfl⟩ (vs := [.func (.func 102) #[] #[], .agg #[vS ((PL.getD i BC.d).b) 0 ((GL.getD i RD.d).xs.length) ((PL.getD i BC.d).c), vI ((GL.getD i RD.d).at_)]]) rfl (fun wD mD => oc_call (vs := [.agg #[vS ((PL.getD i BC.d).b) 0 ((GL.getD i RD.d).xs.length) ((PL.getD i BC.d).c), vI ((GL.getD i RD.d).at_)]]) (cap := []) rfl rfl rfl Try.call102 (c_isRing ((GL.getD i RD.d).xs.length) ((PL.getD i BC.d).c) ((PL.getD i BC.d).b) ((GL.getD i RD.d).xs) ((GL.getD i RD.d).at_) rfl (by omega) wD ((((((((((OF.row FL i (lQ (show i < nL by omega) lDL.symm)).ext m1).ext m2).ext m3).ext m4).ext m5).ext m6).mod m7 (nC (lE (lL (OF.lt FL (lQ (show i < nL by omega) lDL.symm)) (lT (lT (lT (lT (lT m1.size m2.size) m3.size) m4.size) m5.size) lR))) nN)).ext md2).ext mD).rng)) ?_ ?_
        ·rintro w1 _ w2 m1 ⟨rfl, m2⟩; exact ⟨rfl, m2⟩
        rintro _ rfl
        refine DR.det (i := 10) rfl rfl (by kernel_rfl) (.yes rfl rfl rfl (ltb rfl) rfl (bnot_t hb6)) rfl rfl (fun wD mD => op_not rfl) ?_
        refine DD 11 rfl (by kernel_rfl) rfl (fun wD mD => op_pick_f rfl (bnot_t hb6) rfl) ?_
        refine DD 12 rfl (by kernel_rfl) rfl (fun wD mD => op_move rfl) ?_
        refine DR.skip (i := 13) rfl (by kernel_rfl) (.no rfl rfl rfl (ltb rfl) rfl (bnot_f hb7)) rfl (ltb rfl) ?_
        refine DR.skip (i := 14) rfl (by kernel_rfl) (.no rfl rfl rfl (ltb rfl) rfl (bnot_f hb7)) rfl (ltb rfl) ?_
        refine DR.skip (i := 15) rfl (by kernel_rfl) (.no rfl rfl rfl (ltb rfl) rfl (bnot_f hb7)) rfl (ltb rfl) ?_
        refine DR.skip (i := 16) rfl (by kernel_rfl) (.no rfl rfl rfl (ltb rfl) rfl (bnot_f hb7)) rfl (ltb rfl) ?_
        refine DR.skip (i := 17) rfl (by kernel_rfl) (.no rfl rfl rfl (ltb rfl) rfl (bnot_f hb7)) rfl (ltb rfl) ?_
        refine DR.skip (i := 18) rfl (by kernel_rfl) (.no rfl rfl rfl (ltb rfl) rfl (bnot_f hb7)) rfl (ltb rfl) ?_
        refine DR.skip (i := 19) rfl (by kernel_rfl) (.no rfl rfl rfl (ltb rfl) rfl (bnot_f hb7)) rfl (ltb rfl) ?_
        refine DR.skip (i := 20) rfl (by kernel_rfl) (.no rfl rfl rfl (ltb rfl) rfl (bnot_f hb7)) rfl (ltb rfl) ?_
        refine DR.skip (i := 21) rfl (by kernel_rfl) (.no rfl rfl rfl (ltb rfl) rfl (bnot_f hb7)) rfl (ltb rfl) ?_
        refine DR.skip (i := 22) rfl (by kernel_rfl) (.no rfl rfl rfl (ltb rfl) rfl (bnot_f hb7)) rfl (ltb rfl) ?_
        refine DR.done rfl ?_
        intro w11 m9
        refine WO.skip rfl (.no rfl rfl rfl (ltb rfl) rfl (bnot_f hb7)) rfl (ltb rfl) ?_
        refine WO.det (op_pick_t rfl (bnot_f hb7) rfl) rfl (.free rfl) rfl rfl ?_
        refine WO.end (NE.code ?_)
        refine CE.cond_t rfl rfl ?_
        refine CE.seq (CE.region ?_)
        refine WD (op_assign rfl) rfl ?_
        refine WL.end (NE.code (CE.ret' (XE.ret_blk (XE.ret_then (XE.ret_then (XE.ret_blk (XE.ret_then ?_)))))))
        refine XE.leave1 Try.results44 rfl ?_
        have sz2 := (lT (lT (lT (lT m1.size m2.size) m3.size) m4.size) m5.size)
        refine ⟨?_, ((((((((((Mod.refl [] w).nt m1).nt m2).nt m3).nt m4).nt m5).nt m6).then m7 ((aC (.inr (lT sz2 lR)) aN))).nt md2).nt m9)⟩
        all_goals rw [vPipe_eq hs.1 hs.2.1 hs.2.2.1 hs.2.2.2]
        all_goals first | (exfalso; omega) | (rw [vRings_out (D := GR) (i := i) (by omega) (by assumption)]; simp; done) | (rw [vRings_out (D := GL) (i := i) (by omega) (by assumption)]; simp; done) | (rw [vLens_out (i := i) (by omega) (beq_eq_false_iff_ne.2 (by assumption))]; simp; done) | (have e1 : i = nR := (by omega); rw [e1] at hu1 hu2 hu3; simp_all; done) | (simp_all; done)
      ·refine CE.draw (fun | 1 => some (fun _ wA uA wB => uA = .bool (vRingF ((GR.getD i RD.d).xs.length) ((GR.getD i RD.d).at_) ((GR.getD i RD.d).xs)) ∧ Mod [] wA wB) | _ => none) [0, 1, 2, 3, 4, 5, 6, 7, 8, 9, 10, 11, 12, 13, 14, 15, 16, 17, 18, 19, 20, 21, 22] [23, 24] [] (by kernel_rfl) (by kernel_rfl) ?_
       have md3 : Mod [] w7 w7.drew := (Mod.refl _ _).drew
       generalize w7.drew = w12 at md3 ⊢
       refine DD 0 rfl (by kernel_rfl) rfl (fun wD mD => op_loadA (i := 0) (cs := [vS ((PR.getD i BC.d).b) 0 ((GR.getD i RD.d).xs.length) ((PR.getD i BC.d).c), vI ((GR.getD i RD.d).at_)]) rfl Try.isAgg60 Try.sizeOf60 ((r7.ext md3).ext mD).rng rfl rfl rfl) ?_
       refine DR.call (i := 1) (fun uA => uA = .bool (vRingF ((GR.getD i RD.d).xs.length) ((GR.getD i RD.d).at_) ((GR.getD i RD.d).xs))) rfl rfl (by kernel_rfl) (.free rfl) rfl (ltb rfl) ⟨_, rfl⟩ (vs := [.func (.func 102) #[] #[], .agg #[vS ((PR.getD i BC.d).b) 0 ((GR.getD i RD.d).xs.length) ((PR.getD i BC.d).c), vI ((GR.getD i RD.d).at_)]]) rfl (fun wD mD => oc_call (vs := [.agg #[vS ((PR.getD i BC.d).b) 0 ((GR.getD i RD.d).xs.length) ((PR.getD i BC.d).c), vI ((GR.getD i RD.d).at_)]]) (cap := []) rfl rfl rfl Try.call102 (c_isRing ((GR.getD i RD.d).xs.length) ((PR.getD i BC.d).c) ((PR.getD i BC.d).b) ((GR.getD i RD.d).xs) ((GR.getD i RD.d).at_) rfl (by omega) wD ((((((((((OF.row FR i (lQ (show i < nR by omega) lDR.symm)).ext m1).ext m2).ext m3).ext m4).ext m5).ext m6).mod m7 (nC (lE (lL (OF.lt FR (lQ (show i < nR by omega) lDR.symm)) (lT (lT (lT (lT (lT m1.size m2.size) m3.size) m4.size) m5.size) lR))) nN)).ext md3).ext mD).rng)) ?_ ?_
       ·rintro w1 _ w2 m1 ⟨rfl, m2⟩; exact ⟨rfl, m2⟩
       rintro _ rfl
       refine DD 2 rfl (by kernel_rfl) rfl (fun wD mD => op_not rfl) ?_
       refine DD 3 rfl (by kernel_rfl) rfl (fun wD mD => op_move rfl) ?_
       refine DR.skip (i := 4) rfl (by kernel_rfl) (.no rfl rfl rfl (ltb rfl) rfl (bnot_f hb6)) rfl (ltb rfl) ?_
       refine DR.skip (i := 5) rfl (by kernel_rfl) (.no rfl rfl rfl (ltb rfl) rfl (bnot_f hb6)) rfl (ltb rfl) ?_
       refine DR.skip (i := 6) rfl (by kernel_rfl) (.no rfl rfl rfl (ltb rfl) rfl (bnot_f hb6)) rfl (ltb rfl) ?_
       refine DR.skip (i := 7) rfl (by kernel_rfl) (.no rfl rfl rfl (ltb rfl) rfl (bnot_f hb6)) rfl (ltb rfl) ?_
       refine DR.skip (i := 8) rfl (by kernel_rfl) (.no rfl rfl rfl (ltb rfl) rfl (bnot_f hb6)) rfl (ltb rfl) ?_
       refine DR.skip (i := 9) rfl (by kernel_rfl) (.no rfl rfl rfl (ltb rfl) rfl (bnot_f hb6)) rfl (ltb rfl) ?_
       refine DR.skip (i := 10) rfl (by kernel_rfl) (.no rfl rfl rfl (ltb rfl) rfl (bnot_f hb6)) rfl (ltb rfl) ?_
       refine DD 11 rfl (by kernel_rfl) rfl (fun wD mD => op_pick_t rfl (bnot_f hb6) rfl) ?_
       refine DD 12 rfl (by kernel_rfl) rfl (fun wD mD => op_move rfl) ?_
       refine DR.skip (i := 13) rfl (by kernel_rfl) (.no rfl rfl rfl (ltb rfl) rfl rfl) rfl (ltb rfl) ?_
       refine DR.skip (i := 14) rfl (by kernel_rfl) (.no rfl rfl rfl (ltb rfl) rfl rfl) rfl (ltb rfl) ?_
       refine DR.skip (i := 15) rfl (by kernel_rfl) (.no rfl rfl rfl (ltb rfl) rfl rfl) rfl (ltb rfl) ?_
       refine DR.skip (i := 16) rfl (by kernel_rfl) (.no rfl rfl rfl (ltb rfl) rfl rfl) rfl (ltb rfl) ?_
       refine DR.skip (i := 17) rfl (by kernel_rfl) (.no rfl rfl rfl (ltb rfl) rfl rfl) rfl (ltb rfl) ?_
       refine DR.skip (i := 18) rfl (by kernel_rfl) (.no rfl rfl rfl (ltb rfl) rfl rfl) rfl (ltb rfl) ?_
       refine DR.skip (i := 19) rfl (by kernel_rfl) (.no rfl rfl rfl (ltb rfl) rfl rfl) rfl (ltb rfl) ?_
       refine DR.skip (i := 20) rfl (by kernel_rfl) (.no rfl rfl rfl (ltb rfl) rfl rfl) rfl (ltb rfl) ?_
       refine DR.skip (i := 21) rfl (by kernel_rfl) (.no rfl rfl rfl (ltb rfl) rfl rfl) rfl (ltb rfl) ?_
       refine DR.skip (i := 22) rfl (by kernel_rfl) (.no rfl rfl rfl (ltb rfl) rfl rfl) rfl (ltb rfl) ?_
       refine DR.done rfl ?_
       intro w13 m10
       refine WO.skip rfl (.no rfl rfl rfl (ltb rfl) rfl rfl) rfl (ltb rfl) ?_
       refine WO.det (op_pick_t rfl rfl rfl) rfl (.free rfl) rfl rfl ?_
       refine WO.end (NE.code ?_)
       refine CE.cond_t rfl rfl ?_
       refine CE.seq (CE.region ?_)
       refine WD (op_assign rfl) rfl ?_
       refine WL.end (NE.code (CE.ret' (XE.ret_blk (XE.ret_then (XE.ret_then (XE.ret_blk (XE.ret_then ?_)))))))
       refine XE.leave1 Try.results44 rfl ?_
       have sz3 := (lT (lT (lT (lT m1.size m2.size) m3.size) m4.size) m5.size)
       refine ⟨?_, ((((((((((Mod.refl [] w).nt m1).nt m2).nt m3).nt m4).nt m5).nt m6).then m7 ((aC (.inr (lT sz3 lR)) aN))).nt md3).nt m10)⟩
       all_goals rw [vPipe_eq hs.1 hs.2.1 hs.2.2.1 hs.2.2.2]
       all_goals first | (exfalso; omega) | (rw [vRings_out (D := GR) (i := i) (by omega) (by assumption)]; simp; done) | (rw [vRings_out (D := GL) (i := i) (by omega) (by assumption)]; simp; done) | (rw [vLens_out (i := i) (by omega) (beq_eq_false_iff_ne.2 (by assumption))]; simp; done) | (have e1 : i = nR := (by omega); rw [e1] at hu1 hu2 hu3; simp_all; done) | (simp_all; done)
     ·have hp5 := of_decide_eq_false hb5
      refine CE.cond_f rfl hb5 ?_
      refine CE.exit' (XE.exit_then (XE.exit_then (XE.exit_here (NE.code (CE.seq (CE.region ?_))))))
      refine WD (op_fieldAddr (off' := 2) rfl Try.runUnderlying33 rfl rfl Try.sizeOf26 rfl) rfl ?_
      refine WD (op_load1 (i := 2) rfl Try.isAgg26 (r3.ext m5).rng rfl rfl) rfl ?_
      have r8 := (((((rS.ext m1).ext m2).ext m3).ext m4).ext m5)
      refine WL.call (oc_call (vs := [vS bS 0 nS cS, .func (.func 104) #[] #[]]) (cap := []) rfl rfl rfl Try.call103 (c_containsSc nS cS bS xS lnS (by omega) w5 r8)) rfl rfl (ltb rfl) ?_
      rintro _ w14 ⟨rfl, m11⟩
      refine WD (op_not rfl) rfl ?_
      refine WD (op_assign rfl) rfl ?_
      refine WL.end (NE.code (CE.ret' ?_))
      refine XE.leave1 Try.results44 rfl ?_
      refine ⟨?_, (((((((Mod.refl [] w).nt m1).nt m2).nt m3).nt m4).nt m5).nt m11)⟩
      all_goals rw [vPipe_eq hs.1 hs.2.1 hs.2.2.1 hs.2.2.2]
      all_goals first | (exfalso; omega) | (rw [vRings_out (D := GR) (i := i) (by omega) (by assumption)]; simp; done) | (rw [vRings_out (D := GL) (i := i) (by omega) (by assumption)]; simp; done) | (rw [vLens_out (i := i) (by omega) (beq_eq_false_iff_ne.2 (by assumption))]; simp; done) | (have e1 : i = nR := (by omega); rw [e1] at hu1 hu2 hu3; simp_all; done) | (simp_all; done)
    ·refine CE.cond_t rfl (bnot_f hb4) ?_
     refine CE.seq (CE.region ?_)
     refine WD (op_assign rfl) rfl ?_
     refine WL.end (NE.code (CE.ret' (XE.ret_then ?_)))
     refine XE.leave1 Try.results44 rfl ?_
     refine ⟨?_, (((((Mod.refl [] w).nt m1).nt m2).nt m3).nt m4)⟩
     all_goals rw [vPipe_eq hs.1 hs.2.1 hs.2.2.1 hs.2.2.2]
     all_goals first | (exfalso; omega) | (rw [vRings_out (D := GR) (i := i) (by omega) (by assumption)]; simp; done) | (rw [vRings_out (D := GL) (i := i) (by omega) (by assumption)]; simp; done) | (rw [vLens_out (i := i) (by omega) (beq_eq_false_iff_ne.2 (by assumption))]; simp; done) | (have e1 : i = nR := (by omega); rw [e1] at hu1 hu2 hu3; simp_all; done) | (simp_all; done)
   ·have hp3 := hb3; try simp only [Bool.and_eq_true, Bool.or_eq_true, Bool.not_eq_true', Bool.not_eq_false', Bool.and_eq_false_iff, Bool.or_eq_false_iff, decide_eq_true_eq, decide_eq_false_iff_not, beq_iff_eq, bne_iff_ne, beq_eq_false_iff_ne, bne_eq_false_iff_eq, ne_eq, Bool.false_eq_true, not_false_eq_true, not_true_eq_false, vIn_t, vIn_f] at hp3
    iterate 9 refine WL.no rfl rfl rfl (ltb rfl) rfl (bnot_f hb3) rfl (ltb rfl) ?_
    refine WD (op_pick_t rfl (bnot_f hb3) rfl) rfl ?_
    refine WL.end (NE.code ?_)
    refine CE.cond_t rfl rfl ?_
    refine CE.seq (CE.region ?_)
    refine WD (op_assign rfl) rfl ?_
    refine WL.end (NE.code (CE.ret' (XE.ret_then ?_)))
    refine XE.leave1 Try.results44 rfl ?_
    refine ⟨?_, (((Mod.refl [] w).nt m1).nt m2)⟩
    all_goals rw [vPipe_eq hs.1 hs.2.1 hs.2.2.1 hs.2.2.2]
    all_goals first | (exfalso; omega) | (rw [vRings_out (D := GR) (i := i) (by omega) (by assumption)]; simp; done) | (rw [vRings_out (D := GL) (i := i) (by omega) (by assumption)]; simp; done) | (rw [vLens_out (i := i) (by omega) (beq_eq_false_iff_ne.2 (by assumption))]; simp; done) | (have e1 : i = nR := (by omega); rw [e1] at hu1 hu2 hu3; simp_all; done) | (simp_all; done)

end Go.Proofs.Ytnahhdnkbbdceaa
