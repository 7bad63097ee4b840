/- When filters are still. -/
import Derived.Test.YtnpkhjafnjpnmaaD3
import Derived.Test.YtnpkhjafnjpnmaaB4
import Derived.Test.YtnpkhjafnjpnmaaF6
set_option linter.unusedVariables false
set_option linter.unusedSimpArgs false
set_option maxRecDepth 100000
set_option maxHeartbeats 8000000
namespace Go.Proofs.Ytnpkhjafnjpnmaa

theorem still_over {n1 n2 : Nat} (h : 3000 < n1 ∨ 3000 < n2) : (decide ((3000 : Int) < ((n1 : Nat) : Int)) || decide ((3000 : Int) < ((n2 : Nat) : Int))) = true := by
  simp; omega
theorem still_in {n1 n2 : Nat} (h : n1 ≤ 3000) (h2 : n2 ≤ 3000) : (decide ((3000 : Int) < ((n1 : Nat) : Int)) || decide ((3000 : Int) < ((n2 : Nat) : Int))) = false := by
  simp; omega
/-- a filter of one pole whose state's share is `d` 64ths -/
def StillC (c0 c1 : Nat) : Prop := ∃ d, d < 57 ∧ c0 = lossD d ∧ c1 = keepD d
def nxtS (c0 c1 s a : Nat) : Nat := keptF (fop .add .f32 (fop .mul .f32 c0 a) (fop .mul .f32 c1 s))
theorem not_nan_of {x : Nat} (h : x < 2139095040) : isNaN .f32 x = false := by
  rw [isNaN32, Nat.mod_eq_of_lt (by omega)]
  simp; omega
theorem stillC_of {d c0 c1 : Nat} (hd : d < 57) (h1 : cn .f32 c1 = cn .f32 (fop .quo .f32 (FloatKind.f32.nearest ((d : Nat) : Int)) 1115684864)) (h0 : cn .f32 c0 = cn .f32 (fop .sub .f32 1065353216 c1)) : StillC c0 c1 := by
  have ok := OkD.of hd
  have e1 : c1 = keepD d := eq_of_cn h1 (not_nan_of ok.k)
  rw [e1] at h0
  exact ⟨d, hd, eq_of_cn h0 (not_nan_of ok.l), e1⟩
section
variable {c0 c1 s a : Nat}
theorem nxt_good (c0 c1 s a : Nat) : GoodS (nxtS c0 c1 s a) := by
  have h := fop_lt .add .f32 (fop .mul .f32 c0 a) (fop .mul .f32 c1 s)
  rw [wid32] at h
  exact (GoodS.kept h).1
theorem nxt_still (h : StillC c0 c1) (hs : GoodS s) : nxtS c0 c1 s 0 % 2147483648 = 0 ∨ nxtS c0 c1 s 0 % 2147483648 + 524288 ≤ s % 2147483648 := by
  obtain ⟨d, hd, e0, e1⟩ := h
  unfold nxtS
  rw [e0, e1]
  exact (still_step hd hs).2
theorem nxt_zero (h : StillC c0 c1) (hs : GoodS s) (h0 : s % 2147483648 = 0) : nxtS c0 c1 s 0 % 2147483648 = 0 := by
  rcases nxt_still h hs with k | k
  · exact k
  · omega
theorem still_yes (h : s % 2147483648 = 0) : stillF s 0 = true := by
  unfold stillF
  rw [fEq32_zero h 0 rfl, fEq32_zero (a := 0) rfl 0 rfl]; rfl
theorem still_no (hs : GoodS s) (h : s % 2147483648 ≠ 0) : stillF s 0 = false := by
  unfold stillF
  cases hq : fEq .f32 s 0
  · rfl
  · rcases eq_of_fEq32 hs.1 (by omega) hq with k | k
    · subst k; exact absurd rfl h
    · exact absurd k.1 h
def stAfter (c0 c1 s : Nat) : Nat → Nat
  | 0 => s
  | j + 1 => nxtS c0 c1 (stAfter c0 c1 s j) 0
theorem stAfter_shift (c0 c1 s j : Nat) : stAfter c0 c1 (nxtS c0 c1 s 0) j = stAfter c0 c1 s (j + 1) := by
  induction j with
  | zero => rfl
  | succ j ih => show nxtS c0 c1 _ 0 = nxtS c0 c1 _ 0; rw [ih]
theorem stepS_one : stepS 1 c0 c1 0 s 0 a = nxtS c0 c1 s a := by simp [stepS, stepY, nxtS]
theorem stepT_one : stepT 1 c0 c1 0 s 0 a = 0 := by simp [stepT]
theorem still_v (h : StillC c0 c1) (hs : GoodS s) : vFil 1 c0 c1 0 s 0 = true := by
  obtain ⟨d, hd, e0, e1⟩ := h
  have ok := OkD.of hd
  have f0 : finF c0 = true := fin_of (by rw [e0]; have := ok.l; omega)
  have f1 : finF c1 = true := fin_of (by rw [e1]; have := ok.k; omega)
  have fs : finF s = true := fin_of hs.2.1
  have fz : finF 0 = true := fin_of (by omega)
  simp [vFil, usedF, usesC, usesS, List.range_succ, okF, f0, f1, fs, fz, cn_zero]
theorem still_run (h : StillC c0 c1) : ∀ (M k i s : Nat), GoodS s → s % 2147483648 ≤ M * 524288 → M < k → ∃ N, N ≤ M ∧ stepsF 1 c0 c1 0 k i s 0 = (((i + N : Nat) : Int), 0) ∧ (∀ j, j < N → stillF (stAfter c0 c1 s j) 0 = false) ∧ stAfter c0 c1 s N % 2147483648 = 0 := by
  intro M
  induction M with
  | zero =>
    intro k i s hs h1 h2
    have h0 : s % 2147483648 = 0 := by omega
    exact ⟨0, by omega, stepsF_yes (still_yes h0) (by omega), fun j hj => absurd hj (Nat.not_lt_zero _), h0⟩
  | succ M ih =>
    intro k i s hs h1 h2
    by_cases h0 : s % 2147483648 = 0
    · exact ⟨0, by omega, stepsF_yes (still_yes h0) (by omega), fun j hj => absurd hj (Nat.not_lt_zero _), h0⟩
    · have hn := nxt_still h hs
      obtain ⟨N, hN, hR, hJ, hZ⟩ := ih (k - 1) (i + 1) (nxtS c0 c1 s 0) (nxt_good c0 c1 s 0) (by omega) (by omega)
      refine ⟨N + 1, by omega, ?_, ?_, ?_⟩
      · rw [stepsF_on (still_no hs h0) (by omega), stepS_one, stepT_one, hR]
        congr 2; omega
      · intro j hj
        cases j with
        | zero => exact still_no hs h0
        | succ j => rw [← stAfter_shift]; exact hJ j (by omega)
      · rw [← stAfter_shift]; exact hZ
/-- behind how many samples 0 the filter is still -/
def nSt (c0 c1 s : Nat) : Nat := (stepsF 1 c0 c1 0 (20000 + 1) 0 s 0).1.toNat
theorem nSt_ok (h : StillC c0 c1) (hs : GoodS s) : stepsF 1 c0 c1 0 (20000 + 1) 0 s 0 = (((nSt c0 c1 s : Nat) : Int), 0) ∧ nSt c0 c1 s ≤ 20000 ∧ (∀ j, j < nSt c0 c1 s → stillF (stAfter c0 c1 s j) 0 = false) ∧ stAfter c0 c1 s (nSt c0 c1 s) % 2147483648 = 0 := by
  obtain ⟨N, hN, hR, hJ, hZ⟩ := still_run h 4100 (20000 + 1) 0 s hs (by have := hs.2.1; omega) (by omega)
  have e : nSt c0 c1 s = N := by unfold nSt; rw [hR]; simp
  rw [e]
  refine ⟨?_, by omega, hJ, hZ⟩
  rw [hR]; simp
theorem nSt_le (h : StillC c0 c1) (hs : GoodS s) : nSt c0 c1 s ≤ 20000 := (nSt_ok h hs).2.1
theorem nSt_not {t : Nat} {j : Nat} (h : StillC c0 c1) (hs : GoodS s) (ht : stAfter c0 c1 s j = t) (hj : j < nSt c0 c1 s) : stillF t 0 = false := by
  rw [← ht]; exact (nSt_ok h hs).2.2.1 j hj
theorem stAfter_good (hs : GoodS s) (j : Nat) : GoodS (stAfter c0 c1 s j) := by
  cases j with
  | zero => exact hs
  | succ j => exact nxt_good _ _ _ _
theorem nSt_end {t : Nat} {j : Nat} (h : StillC c0 c1) (hs : GoodS s) (ht : stAfter c0 c1 s j = t) (hj : ¬ j < nSt c0 c1 s) (hj2 : j ≤ nSt c0 c1 s) : stillF (nxtS c0 c1 t 0) 0 = true := by
  have e : j = nSt c0 c1 s := by omega
  have hz := (nSt_ok h hs).2.2.2
  rw [← e, ht] at hz
  exact still_yes (nxt_zero h (by rw [← ht]; exact stAfter_good hs j) hz)
/-- the same for a filter of one zero -/
def nZe (c0 c1 s : Nat) : Nat := (stepsF 2 c0 c1 0 (2 + 1) 0 s 0).1.toNat
theorem nZe_ok (hs : GoodS s) : stepsF 2 c0 c1 0 (2 + 1) 0 s 0 = (((nZe c0 c1 s : Nat) : Int), 0) ∧ nZe c0 c1 s ≤ 1 := by
  unfold nZe
  by_cases h0 : s % 2147483648 = 0
  · rw [stepsF_yes (still_yes h0) (by omega)]; simp
  · have e : keptF 0 = 0 := by decide +kernel
    rw [stepsF_on (still_no hs h0) (by omega), show stepS 2 c0 c1 0 s 0 0 = 0 by simp [stepS, e], show stepT 2 c0 c1 0 s 0 0 = 0 by simp [stepT], stepsF_yes (still_yes (by omega)) (by omega)]; simp
theorem ze_v (hs : GoodS s) (h : vFil 2 c0 c1 0 0 0 = true) : vFil 2 c0 c1 0 s 0 = true := by
  have fs : finF s = true := fin_of hs.2.1
  have fz : finF 0 = true := fin_of (by omega)
  simp [vFil, usedF, usesC, usesS, List.range_succ, okF, fz, cn_zero, fs] at h ⊢
  exact h
theorem half_v {c : Nat} (h : cn .f32 c = cn .f32 (fop .sub .f32 1065353216 1056964608)) : vFil 2 c 1056964608 0 0 0 = true := by
  have e : isNaN .f32 (fop .sub .f32 1065353216 1056964608) = false := by decide +kernel
  rw [eq_of_cn h e]; decide +kernel
theorem kept_good {a : Nat} (ha : a < wid .f32) : GoodS (keptF a) := (GoodS.kept (by rw [← wid32]; exact ha)).1
end

theorem c_OnePole (x : Nat) (lx : x < wid .f32) (w : World) : Cl Try.prog 8 #[vF x] w fun v w' => ∃ (r_ : Nat), v = .agg #[vI 1, vF r_, vF x, vF 0, vF 0, vF 0] ∧ (cn .f32 r_ = cn .f32 (fop .sub .f32 1065353216 x)) ∧ (r_ < wid .f32) ∧ Mod [] w w' := by
 refine Cl.of Try.func8 Try.ntmps8 rfl rfl (ρ := [(0, vF x)]) rfl ?_
 refine CE.seq (CE.region ?_)
 refine WL.op (op_alloc (cs := [vI 0, vF 0, vF 0, vF 0, vF 0, vF 0]) Try.zeroValue28 rfl) rfl rfl (ltb rfl) ?_
 rintro _ w1 ⟨rfl, r1, m1, z1⟩
 refine WL.end (NE.code (CE.seq (CE.region ?_)))
 refine WL.det (op_move rfl) rfl rfl rfl ?_
 refine WL.op (op_farith (e := (fop .sub .f32 1065353216 x)) (.inr (.inl rfl)) rfl rfl rfl rfl rfl) rfl rfl (ltb rfl) ?_
 rintro _ w2 ⟨⟨f1, rfl, hf1, lf1⟩, m2⟩
 refine WL.det (op_move rfl) rfl rfl rfl ?_
 refine WL.det (op_build (qs := [(0, vF f1), (1, vF x)]) (cells := #[vF f1, vF x, vF 0]) rfl (by kernel_rfl)) rfl rfl rfl ?_
 refine WL.det (op_build (qs := [(0, vI 1), (1, .agg #[vF f1, vF x, vF 0])]) (cells := #[vI 1, vF f1, vF x, vF 0, vF 0, vF 0]) rfl (by kernel_rfl)) rfl rfl rfl ?_
 refine WL.op0 (op_store (i := 0) (cs := [vI 1, vF f1, vF x, vF 0, vF 0, vF 0]) rfl rfl rfl Try.sizeOf28 rfl (r1.ext m2) rfl (lB rfl) rfl) rfl rfl ?_
 rintro _ w3 ⟨r2, m3, z2⟩
 have r3 : Row w3 w.heap.size 0 [vI 1, vF f1, vF x, vF 0, vF 0, vF 0] := Row.congr r2 rfl
 refine WL.end (NE.code (CE.ret' ?_))
 refine XE.leaveC Try.results8 (res_agg (cs := [vI 1, vF f1, vF x, vF 0, vF 0, vF 0]) rfl Try.isAgg28 Try.sizeOf28 r3.rng rfl res_nil) ?_
 refine ⟨f1, rfl, ?_, lf1, ((((Mod.refl [] w).nt m1).nt m2).then m3 ((aC (.inr lR) aN)))⟩
 all_goals simp_all

theorem c_OneZero (x : Nat) (lx : x < wid .f32) (w : World) : Cl Try.prog 15 #[vF x] w fun v w' => ∃ (r_ : Nat), v = .agg #[vI 2, vF r_, vF x, vF 0, vF 0, vF 0] ∧ (cn .f32 r_ = cn .f32 (fop .sub .f32 1065353216 x)) ∧ (r_ < wid .f32) ∧ Mod [] w w' := by
 refine Cl.of Try.func15 Try.ntmps15 rfl rfl (ρ := [(0, vF x)]) rfl ?_
 refine CE.seq (CE.region ?_)
 refine WL.op (op_alloc (cs := [vI 0, vF 0, vF 0, vF 0, vF 0, vF 0]) Try.zeroValue28 rfl) rfl rfl (ltb rfl) ?_
 rintro _ w1 ⟨rfl, r1, m1, z1⟩
 refine WL.end (NE.code (CE.seq (CE.region ?_)))
 refine WL.det (op_move rfl) rfl rfl rfl ?_
 refine WL.op (op_farith (e := (fop .sub .f32 1065353216 x)) (.inr (.inl rfl)) rfl rfl rfl rfl rfl) rfl rfl (ltb rfl) ?_
 rintro _ w2 ⟨⟨f1, rfl, hf1, lf1⟩, m2⟩
 refine WL.det (op_move rfl) rfl rfl rfl ?_
 refine WL.det (op_build (qs := [(0, vF f1), (1, vF x)]) (cells := #[vF f1, vF x, vF 0]) rfl (by kernel_rfl)) rfl rfl rfl ?_
 refine WL.det (op_build (qs := [(0, vI 2), (1, .agg #[vF f1, vF x, vF 0])]) (cells := #[vI 2, vF f1, vF x, vF 0, vF 0, vF 0]) rfl (by kernel_rfl)) rfl rfl rfl ?_
 refine WL.op0 (op_store (i := 0) (cs := [vI 2, vF f1, vF x, vF 0, vF 0, vF 0]) rfl rfl rfl Try.sizeOf28 rfl (r1.ext m2) rfl (lB rfl) rfl) rfl rfl ?_
 rintro _ w3 ⟨r2, m3, z2⟩
 have r3 : Row w3 w.heap.size 0 [vI 2, vF f1, vF x, vF 0, vF 0, vF 0] := Row.congr r2 rfl
 refine WL.end (NE.code (CE.ret' ?_))
 refine XE.leaveC Try.results15 (res_agg (cs := [vI 2, vF f1, vF x, vF 0, vF 0, vF 0]) rfl Try.isAgg28 Try.sizeOf28 r3.rng rfl res_nil) ?_
 refine ⟨f1, rfl, ?_, lf1, ((((Mod.refl [] w).nt m1).nt m2).then m3 ((aC (.inr lR) aN)))⟩
 all_goals simp_all

theorem c_IsStill1 (c0 : Nat) (c1 : Nat) (s : Nat) (ho : StillC c0 c1) (hs : GoodS s) (w : World) : Cl Try.prog 14 #[.agg #[vI 1, vF c0, vF c1, vF 0, vF s, vF 0]] w fun v w' => v = .tuple #[.bool (stillF s 0), vI 0] ∧ Mod [] w w' := by
 refine Cl.of Try.func14 Try.ntmps14 rfl rfl (ρ := [(0, .agg #[vI 1, vF c0, vF c1, vF 0, vF s, vF 0])]) rfl ?_
 refine CE.seq (CE.region ?_)
 refine WL.op (op_box (cs := [vI 1, vF c0, vF c1, vF 0, vF s, vF 0]) rfl rfl) rfl rfl (ltb rfl) ?_
 rintro _ w1 ⟨rfl, r1, m1, z1⟩
 iterate 2 refine WL.det (op_assign rfl) rfl rfl rfl ?_
 refine WL.end (NE.code (CE.seq (CE.seq (CE.region ?_))))
 refine WL.det (op_loadA (i := 0) (cs := [vI 1, vF c0, vF c1, vF 0, vF s, vF 0]) rfl Try.isAgg28 Try.sizeOf28 r1.rng rfl rfl rfl) rfl rfl rfl ?_
 refine WL.call (oc_call (vs := [.agg #[vI 1, vF c0, vF c1, vF 0, vF s, vF 0]]) (cap := []) rfl rfl rfl Try.call47 (c_ValidFilter (1 : Int) c0 c1 0 s 0 w1)) rfl rfl (ltb rfl) ?_
 rintro _ w2 ⟨rfl, m2⟩
 refine WL.det (op_not rfl) rfl rfl rfl ?_
 refine WL.end (NE.code ?_)
 refine CE.cond_f rfl (bnot_t (still_v ho hs)) ?_
 refine CE.skip' (NE.code (CE.seq (CE.region ?_)))
 refine WL.det (op_loadA (i := 0) (cs := [vI 1, vF c0, vF c1, vF 0, vF s, vF 0]) rfl Try.isAgg28 Try.sizeOf28 (r1.ext m2).rng rfl rfl rfl) rfl rfl rfl ?_
 refine WL.call (oc_call (vs := [.agg #[vI 1, vF c0, vF c1, vF 0, vF s, vF 0]]) (cap := []) rfl rfl rfl Try.call52 (c_isStill (1 : Int) c0 c1 0 s 0 w2)) rfl rfl (ltb rfl) ?_
 rintro _ w3 ⟨rfl, m3⟩
 iterate 2 refine WL.det (op_assign rfl) rfl rfl rfl ?_
 refine WL.end (NE.code (CE.ret' ?_))
 refine XE.leaveT Try.results14 (res_tmp rfl (res_tmp rfl res_nil)) ?_
 refine ⟨rfl, ((((Mod.refl [] w).nt m1).nt m2).nt m3)⟩

theorem c_stF1 (c0 : Nat) (c1 : Nat) (s : Nat) (a : Nat) (ho : StillC c0 c1) (hs : GoodS s) (la : a < wid .f32) (w : World) : Cl Try.prog 10 #[.agg #[vI 1, vF c0, vF c1, vF 0, vF s, vF 0], vF a] w fun v w' => ∃ (y : Nat), v = .tuple #[.agg #[vI 1, vF c0, vF c1, vF 0, vF (nxtS c0 c1 s a), vF 0], vF y, vI 0] ∧ (y < wid .f32) ∧ Mod [] w w' := by
  refine (c_iStepF 1 c0 c1 0 s 0 a (by rw [wid32]; exact hs.1) (by decide +kernel) la (still_v ho hs) w).mono ?_
  rintro v w' ⟨y, hv, _, h2, m⟩
  rw [stepS_one, stepT_one] at hv
  exact ⟨y, hv, h2, m⟩

theorem c_stF0 (c0 : Nat) (c1 : Nat) (s : Nat) (a : Nat) (ho : StillC c0 c1) (hs : GoodS s) (la : a < wid .f32) (w : World) : Cl Try.prog 10 #[.agg #[vI 1, vF c0, vF c1, vF 0, vF s, vF 0], vF a] w fun v w' => ∃ (t : Nat) (y : Nat), v = .tuple #[.agg #[vI 1, vF c0, vF c1, vF 0, vF t, vF 0], vF y, vI 0] ∧ (GoodS t) ∧ (y < wid .f32) ∧ Mod [] w w' := by
  refine (c_iStepF 1 c0 c1 0 s 0 a (by rw [wid32]; exact hs.1) (by decide +kernel) la (still_v ho hs) w).mono ?_
  rintro v w' ⟨y, hv, _, h2, m⟩
  rw [stepS_one, stepT_one] at hv
  exact ⟨_, y, hv, nxt_good _ _ _ _, h2, m⟩

theorem c_stF2 (c0 : Nat) (c1 : Nat) (a : Nat) (hv : vFil 2 c0 c1 0 0 0 = true) (la : a < wid .f32) (w : World) : Cl Try.prog 10 #[.agg #[vI 2, vF c0, vF c1, vF 0, vF 0, vF 0], vF a] w fun v w' => ∃ (y : Nat), v = .tuple #[.agg #[vI 2, vF c0, vF c1, vF 0, vF (keptF a), vF 0], vF y, vI 0] ∧ (y < wid .f32) ∧ Mod [] w w' := by
  refine (c_iStepF 2 c0 c1 0 0 0 a (by decide +kernel) (by decide +kernel) la hv w).mono ?_
  rintro v w' ⟨y, hv, _, h2, m⟩
  rw [show stepS 2 c0 c1 0 0 0 a = keptF a by simp [stepS], show stepT 2 c0 c1 0 0 0 a = 0 by simp [stepT]] at hv
  exact ⟨y, hv, h2, m⟩

theorem c_iSt1 (c0 : Nat) (c1 : Nat) (s : Nat) (ho : StillC c0 c1) (hs : GoodS s) (w : World) : Cl Try.prog 12 #[.agg #[vI 1, vF c0, vF c1, vF 0, vF s, vF 0], vI 20000] w fun v w' => v = .tuple #[vI (((nSt c0 c1 s) : Nat) : Int), vI 0] ∧ (nSt c0 c1 s ≤ 20000) ∧ Mod [] w w' := by
  refine (c_iSteps 1 c0 c1 0 s 0 20000 (by rw [wid32]; exact hs.1) (by decide +kernel) (still_v ho hs) (by omega) w).mono ?_
  rintro v w' ⟨hv, m⟩
  rw [(nSt_ok ho hs).1] at hv
  exact ⟨hv, nSt_le ho hs, m⟩

theorem c_sSt1 (c0 : Nat) (c1 : Nat) (s : Nat) (ho : StillC c0 c1) (hs : GoodS s) (w : World) : Cl Try.prog 13 #[.agg #[vI 1, vF c0, vF c1, vF 0, vF s, vF 0], vI 20000] w fun v w' => v = .tuple #[vI (((nSt c0 c1 s) : Nat) : Int), vI 0] ∧ (nSt c0 c1 s ≤ 20000) ∧ Mod [] w w' := by
  refine (c_sSteps 1 c0 c1 0 s 0 20000 (by rw [wid32]; exact hs.1) (by decide +kernel) (still_v ho hs) (by omega) w).mono ?_
  rintro v w' ⟨hv, m⟩
  rw [(nSt_ok ho hs).1] at hv
  exact ⟨hv, nSt_le ho hs, m⟩

theorem c_iSt2 (c0 : Nat) (c1 : Nat) (s : Nat) (hv : vFil 2 c0 c1 0 0 0 = true) (hs : GoodS s) (w : World) : Cl Try.prog 12 #[.agg #[vI 2, vF c0, vF c1, vF 0, vF s, vF 0], vI 2] w fun v w' => v = .tuple #[vI (((nZe c0 c1 s) : Nat) : Int), vI 0] ∧ (nZe c0 c1 s ≤ 1) ∧ Mod [] w w' := by
  refine (c_iSteps 2 c0 c1 0 s 0 2 (by rw [wid32]; exact hs.1) (by decide +kernel) (ze_v hs hv) (by omega) w).mono ?_
  rintro v w' ⟨hv, m⟩
  rw [(nZe_ok hs).1] at hv
  exact ⟨hv, (nZe_ok hs).2, m⟩

end Go.Proofs.Ytnpkhjafnjpnmaa
