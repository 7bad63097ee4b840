/- A pipe of one section, whose reed lets everything through: silence comes. -/
import Derived.Test.YtnahhdnkbbdceaaT8
import Derived.Test.YtnahhdnkbbdceaaF14
set_option linter.unusedVariables false
set_option linter.unusedSimpArgs false
set_option maxRecDepth 100000
namespace Go.Proofs.Ytnahhdnkbbdceaa
open Ieee

def eighthB (d : Nat) : Bool := (fop .quo .f32 (FloatKind.f32.nearest ((d : Nat) : Int)) 1090519040 == keepD (8 * d)) && decide (lossD (8 * d) ≤ 1065353216) && decide (keepD (8 * d) ≤ 1065353216) && (fGe .f32 (keepD (8 * d)) 0 && fLt .f32 (keepD (8 * d)) 1065353216)
theorem eighth_ok : ∀ d, d < 7 → eighthB d = true := by decide +kernel
theorem eighth_all {d : Nat} (h : d < 7) : fop .quo .f32 (FloatKind.f32.nearest ((d : Nat) : Int)) 1090519040 = keepD (8 * d) ∧ lossD (8 * d) ≤ 1065353216 ∧ keepD (8 * d) ≤ 1065353216 ∧ (fGe .f32 (keepD (8 * d)) 0 && fLt .f32 (keepD (8 * d)) 1065353216) = true := by
  have := eighth_ok d h
  simp only [eighthB, Bool.and_eq_true, beq_iff_eq, decide_eq_true_eq] at this
  exact ⟨this.1.1.1, this.1.1.2, this.1.2, by rw [Bool.and_eq_true]; exact this.2⟩
theorem not_nan9 {x : Nat} (h : x < 2139095040) : isNaN .f32 x = false := by
  rw [isNaN32, Nat.mod_eq_of_lt (by omega)]
  simp; omega
/-- the numbers of the law's pipe -/
structure LawP (n c0 c1 : Nat) : Prop where
  n1 : 1 ≤ n
  n2 : n ≤ 6
  c : ∃ d, d < 7 ∧ c0 = lossD (8 * d) ∧ c1 = keepD (8 * d)
section
variable {n c0 c1 : Nat}
theorem LawP.b0 (h : LawP n c0 c1) : Bd c0 0 := by
  obtain ⟨d, hd, e, _⟩ := h.c
  have := (eighth_all hd).2.1
  rw [e]; show lossD (8 * d) % 2147483648 ≤ (127 + 0) * 8388608
  rw [Nat.mod_eq_of_lt (by omega)]; omega
theorem LawP.b1 (h : LawP n c0 c1) : Bd c1 0 := by
  obtain ⟨d, hd, _, e⟩ := h.c
  have := (eighth_all hd).2.2.1
  rw [e]; show keepD (8 * d) % 2147483648 ≤ (127 + 0) * 8388608
  rw [Nat.mod_eq_of_lt (by omega)]; omega
theorem LawP.f0 (h : LawP n c0 c1) : finF c0 = true := fin_of (h.b0.fin (by omega))
theorem LawP.f1 (h : LawP n c0 c1) : finF c1 = true := fin_of (h.b1.fin (by omega))
theorem fz0 : finF 0 = true := fin_of (by omega)
theorem kept0 {a : Nat} (h : Z0 a) : keptF a = 0 := by
  have e : a % 2147483648 = 0 := h
  unfold keptF flushF
  rw [if_pos (fin_of h.fin), if_pos (small_of_lt (by omega))]
theorem kept_good (y : Nat) (h : y < wid .f32) : GoodS (keptF y) := by rw [wid32] at h; exact (GoodS.kept h).1
theorem GoodS.fin' {s : Nat} (h : GoodS s) : finF s = true := fin_of h.2.1
theorem GoodS.lt' {s : Nat} (h : GoodS s) : s < wid .f32 := by rw [wid32]; exact h.1
theorem clamp_0 : clampF 0 1065353216 % 2147483648 = 0 := by decide +kernel
theorem clamp_m : clampF 2147483648 1065353216 % 2147483648 = 0 := by decide +kernel
theorem Z0.o : Z0 0 := rfl
theorem negFloat_mod (b : Nat) : Op.negFloat .f32 b % 2147483648 = b % 2147483648 := by
  have : Op.negFloat .f32 b = b ^^^ 2 ^ 31 := rfl
  rw [this, show (2147483648 : Nat) = 2 ^ 31 from rfl, Nat.xor_mod_two_pow]
  simp
/-- a reed that lets everything through -/
theorem reed0 {d : Nat} (h : finF d = true) : Z0 (reedF 0 0 d) := by
  have e : Z0 (fop .add .f32 0 (fop .mul .f32 0 d)) := Z0.add Z0.o (Z0.mul_l h Z0.o)
  have this := fop_lt .add .f32 0 (fop .mul .f32 0 d)
  rw [wid32] at this
  unfold Z0 at e
  unfold reedF
  generalize fop .add .f32 0 (fop .mul .f32 0 d) = u at *
  have e1 : u = 0 ∨ u = 2147483648 := by omega
  rcases e1 with e1 | e1
  · rw [e1]; exact clamp_0
  · rw [e1]; exact clamp_m

def zNext (c0 c1 : Nat) (op : Bool) (z : PipeSt) (x : Nat) : PipeSt := pipeNext 1 0 [] 1 c0 c1 0 op 1061158912 0 0 z x
def zAt (c0 c1 : Nat) (op : Bool) (z : PipeSt) (f : Nat → Nat) (q : Nat) : PipeSt := pipeAt 1 0 [] 1 c0 c1 0 op 1061158912 0 0 z f q
def zOut (c0 c1 : Nat) (op : Bool) (z : PipeSt) (f : Nat → Nat) (q : Nat) : Nat := pipeOut 1 0 [] 1 c0 c1 0 op 1061158912 0 0 z f q
def zNew (n : Nat) : PipeSt := ⟨[⟨List.replicate n 0, 0⟩], [⟨List.replicate n 0, 0⟩], 0, 0⟩
/-- what the filter makes -/
def zY (c0 c1 : Nat) (z : PipeSt) : Nat := fop .add .f32 (fop .mul .f32 c0 (oldD z.R 0)) (fop .mul .f32 c1 z.s0)
variable {op : Bool} {z : PipeSt} {f : Nat → Nat} {q p x : Nat}
theorem stepY_one {s0 s1 : Nat} : stepY 1 c0 c1 0 s0 s1 x = fop .add .f32 (fop .mul .f32 c0 x) (fop .mul .f32 c1 s0) := by unfold stepY; rw [if_pos rfl]
theorem zNext_eq : zNext c0 c1 op z x = ⟨pushD z.R 0 (breathT z.L 0 0 x), pushD z.L 0 (keptF (backT op 1061158912 (zY c0 c1 z))), keptF (zY c0 c1 z), z.s1⟩ := by
  have e1 : stepY 1 c0 c1 0 z.s0 z.s1 (oldD z.R (1 - 1)) = zY c0 c1 z := stepY_one
  have e2 : stepS 1 c0 c1 0 z.s0 z.s1 (oldD z.R (1 - 1)) = keptF (zY c0 c1 z) := by unfold stepS; rw [if_pos rfl, e1]
  have e3 : stepT 1 c0 c1 0 z.s0 z.s1 (oldD z.R (1 - 1)) = z.s1 := by unfold stepT; rw [if_pos rfl]
  unfold zNext pipeNext
  rw [e1, e2, e3]
  unfold stR endL stL
  rfl
theorem zAt_zero : zAt c0 c1 op z f 0 = z := pipeAt_zero
theorem zAt_succ : zAt c0 c1 op z f (q + 1) = zNext c0 c1 op (zAt c0 c1 op z f q) (f q) := pipeAt_succ
theorem zY_lt : zY c0 c1 z < wid .f32 := fop_lt _ _ _ _
theorem back_lt {op : Bool} {lo y : Nat} : backT op lo y < wid .f32 := by
  unfold backT
  split
  · exact negFloat_lt (fop_lt _ _ _ _)
  · exact fop_lt _ _ _ _
theorem breath_good (L : List RD) (re sl x : Nat) : GoodS (breathT L re sl x) := kept_good _ (fop_lt _ _ _ _)

/-- the sample at `j` of the only ring -/
def at0 (D : List RD) (j : Nat) : Nat := (D.getD 0 RD.d).xs.getD j 0
theorem set_all {P : Nat → Prop} {ys : List Nat} {i x : Nat} (h : ∀ j, P (ys.getD j 0)) (hx : P x) (j : Nat) : P ((ys.set i x).getD j 0) := by
  rw [List.getD_eq_getElem?_getD, List.getElem?_set]
  split
  · split
    · exact hx
    · have := h j
      rw [List.getD_eq_getElem?_getD, List.getElem?_eq_none (by omega)] at this
      exact this
  · rw [← List.getD_eq_getElem?_getD]; exact h j
theorem push_all {P : Nat → Prop} {D : List RD} {a : Nat} (hl : D.length = 1) (h : ∀ j, P (at0 D j)) (ha : P a) (j : Nat) : P (at0 (pushD D 0 a) j) := by
  unfold at0
  rw [pushD_same (by omega)]
  exact set_all h ha j
/-- the law's pipe at any time -/
structure PW (n : Nat) (z : PipeSt) : Prop where
  lR : z.R.length = 1
  lL : z.L.length = 1
  nR : ∀ j, (z.R.getD j RD.d).xs.length = if j = 0 then n else 0
  nL : ∀ j, (z.L.getD j RD.d).xs.length = if j = 0 then n else 0
  gR : GoodD z.R 1
  gL : GoodD z.L 1
  fR : ∀ j, finF (at0 z.R j) = true
  fL : ∀ j, finF (at0 z.L j) = true
  s0 : GoodS z.s0
  s1 : z.s1 = 0
theorem PW.next (h : PW n z) : PW n (zNext c0 c1 op z x) := by
  have b := breath_good z.L 0 0 x
  have k := kept_good (backT op 1061158912 (zY c0 c1 z)) back_lt
  rw [zNext_eq]
  exact ⟨pushD_len h.lR, pushD_len h.lL, fun j => (pushD_lens j).trans (h.nR j), fun j => (pushD_lens j).trans (h.nL j), h.gR.push h.lR b.lt', h.gL.push h.lL k.lt', push_all (P := fun a => finF a = true) h.lR h.fR b.fin', push_all (P := fun a => finF a = true) h.lL h.fL k.fin', kept_good _ zY_lt, h.s1⟩
theorem PW.at (h : PW n z) : ∀ q, PW n (zAt c0 c1 op z f q)
  | 0 => by rw [zAt_zero]; exact h
  | q + 1 => by rw [zAt_succ]; exact (h.at q).next
theorem at0_new (n j : Nat) : at0 [⟨List.replicate n 0, 0⟩] j = 0 := by
  show (List.replicate n 0).getD j 0 = 0
  simp [List.getD_eq_getElem?_getD, List.getElem?_replicate]
  split <;> rfl
theorem PW.new (n1 : 1 ≤ n) : PW n (zNew n) := by
  have g : GoodD [⟨List.replicate n 0, 0⟩] 1 := ⟨fun i hi => by
      obtain rfl : i = 0 := by omega
      exact Int.le_refl _, fun i hi => by
      obtain rfl : i = 0 := by omega
      show (0 : Int) < (((List.replicate n 0).length : Nat) : Int)
      rw [List.length_replicate]; omega, fun i => by
      cases i with
      | zero => exact W32.zeros _
      | succ i => exact W32.nil⟩
  have l : ∀ j, (([⟨List.replicate n 0, 0⟩] : List RD).getD j RD.d).xs.length = if j = 0 then n else 0 := fun j => by
    cases j with
    | zero => exact List.length_replicate
    | succ j => rfl
  exact ⟨rfl, rfl, l, l, g, g, fun j => by show finF (at0 [⟨List.replicate n 0, 0⟩] j) = true; rw [at0_new]; exact fz0, fun j => by show finF (at0 [⟨List.replicate n 0, 0⟩] j) = true; rw [at0_new]; exact fz0, GoodS.zero, rfl⟩
theorem PW.small (h : PW n z) (n2 : n ≤ 6) : (∀ i, (z.R.getD i RD.d).xs.length ≤ 1048576) ∧ (∀ i, (z.L.getD i RD.d).xs.length ≤ 1048576) := by
  refine ⟨fun i => ?_, fun i => ?_⟩
  · rw [h.nR]; split <;> omega
  · rw [h.nL]; split <;> omega
theorem PW.pos (h : PW n z) (n1 : 1 ≤ n) : (∀ i, i < 1 → 0 < (z.R.getD i RD.d).xs.length) ∧ (∀ i, i < 1 → 0 < (z.L.getD i RD.d).xs.length) := by
  refine ⟨fun i hi => ?_, fun i hi => ?_⟩
  · rw [h.nR, if_pos (by omega)]; omega
  · rw [h.nL, if_pos (by omega)]; omega
theorem ring_v {D : List RD} (n1 : 1 ≤ n) (n2 : n ≤ 6) (l : ∀ j, (D.getD j RD.d).xs.length = if j = 0 then n else 0) (g : GoodD D 1) (f : ∀ j, finF (at0 D j) = true) : vRings D 1 = true := by
  have e : (D.getD 0 RD.d).xs.length = n := by rw [l]; rfl
  have h1 := g.ge 0 (by omega)
  have h2 := g.lt 0 (by omega)
  show (true && vRingF _ _ _) = true
  rw [Bool.true_and, vRingF, Bool.and_eq_true, e]
  rw [e] at h2
  refine ⟨?_, List.all_eq_true.2 fun j _ => f j⟩
  unfold vRing
  rw [Bool.and_eq_true, vIn_t, vIn_t]
  exact ⟨⟨by omega, by omega⟩, h1, Int.le_sub_one_of_lt h2⟩
theorem PW.valid (hw : PW n z) (h : LawP n c0 c1) {re sl : Nat} (hre : finF re = true) (hsl : finF sl = true) : vPipe 1 1 0 z.R z.L [] 1 c0 c1 0 z.s0 z.s1 1061158912 re sl = true := by
  rw [vPipe_eq (by omega) (by omega) rfl rfl, ring_v h.n1 h.n2 hw.nR hw.gR hw.fR, ring_v h.n1 h.n2 hw.nL hw.gL hw.fL]
  have e1 : vLens z.R z.L 1 = true := by
    show (true && _) = true
    rw [Bool.true_and, hw.nR, hw.nL]; exact beq_self_eq_true _
  have f0 := h.f0
  have f1 := h.f1
  have fs := hw.s0.fin'
  have e2 : vFil 1 c0 c1 0 z.s0 z.s1 = true := by
    rw [hw.s1]
    simp [vFil, usedF, usesC, usesS, List.range_succ, okF, f0, f1, fs, fz0, cn_zero]
  have f9 : finF 1061158912 = true := by decide +kernel
  rw [e1, e2]
  simp [vSc, allF, List.range_succ, f9, hre, hsl]

/-- the sizes -/
structure PB (z : PipeSt) (k : Nat) : Prop where
  r : ∀ j, Bd (at0 z.R j) 3
  l : ∀ j, Bd (at0 z.L j) k
  s : Bd z.s0 k
theorem Bd.neg {x k : Nat} (h : Bd x k) (hx : x < wid .f32) : Bd (Op.negFloat .f32 x) k := by
  unfold Bd
  rw [negFloat_mod]; exact h
theorem Bd.back {op : Bool} {y k : Nat} (h : Bd y k) (hk : k ≤ 40) : Bd (backT op 1061158912 y) k := by
  have h9 : Bd 1061158912 0 := by unfold Bd; omega
  have m := h9.mul h (by omega) hk
  rw [Nat.zero_add] at m
  unfold backT
  split
  · exact m.neg (fop_lt _ _ _ _)
  · exact m
/-- what the reed lets in -/
theorem breath_eq {L : List RD} {x k : Nat} (hL : ∀ j, Bd (at0 L j) k) (hx : Bd x k) (hk : k ≤ 40) : ∃ t, Z0 t ∧ breathT L 0 0 x = keptF (fop .add .f32 x t) := by
  have d : Bd (fop .sub .f32 (oldD L 0) x) (k + 1) := Bd.sub (hL _) hx (by omega)
  have fd := fin_of (d.fin (by omega))
  exact ⟨_, Z0.mul_r fd (reed0 fd), rfl⟩
theorem Z0.bd {t k : Nat} (h : Z0 t) : Bd t k := by unfold Bd; rw [show t % 2147483648 = 0 from h]; omega
theorem PB.next (hw : PW n z) (h : LawP n c0 c1) {k : Nat} (b : PB z k) (hx : Bd x 2) (h3 : 3 ≤ k) (hk : k ≤ 38) : PB (zNext c0 c1 op z x) (k + 1) := by
  obtain ⟨t, ht, e⟩ := breath_eq b.l (hx.mono (by omega)) (by omega)
  have y : Bd (zY c0 c1 z) (k + 1) := by
    have m1 := h.b0.mul (b.r (z.R.getD 0 RD.d).at_.toNat) (by omega) (by omega)
    have m2 := h.b1.mul b.s (by omega) (by omega)
    rw [Nat.zero_add] at m1 m2
    exact Bd.add (m1.mono h3) m2 (by omega)
  rw [zNext_eq]
  refine ⟨push_all (P := fun a => Bd a 3) hw.lR b.r ?_, push_all (P := fun a => Bd a (k + 1)) hw.lL (fun j => (b.l j).mono (by omega)) (Bd.kept (Bd.back y (by omega))), y.kept⟩
  rw [e]; exact (Bd.add hx ht.bd (by omega)).kept
theorem PB.new (n : Nat) : PB (zNew n) 3 := ⟨fun j => by show Bd (at0 [⟨List.replicate n 0, 0⟩] j) 3; rw [at0_new]; exact Bd.zero, fun j => by show Bd (at0 [⟨List.replicate n 0, 0⟩] j) 3; rw [at0_new]; exact Bd.zero, Bd.zero⟩
theorem PB.at (hw : PW n z) (h : LawP n c0 c1) {k : Nat} (b : PB z k) (hf : ∀ j, Bd (f j) 2) (h3 : 3 ≤ k) : ∀ q, k + q ≤ 38 → PB (zAt c0 c1 op z f q) (k + q)
  | 0, _ => by rw [zAt_zero]; exact b
  | q + 1, hq => by rw [zAt_succ]; exact (PB.at hw h b hf h3 q (by omega)).next (hw.at q) h (hf q) (by omega) (by omega)

/-- the newest `m` samples of the only ring are 0 -/
def NewZ (D : List RD) (m : Nat) : Prop := ∀ j, 1 ≤ j → j ≤ m → j ≤ (D.getD 0 RD.d).xs.length → at0 D (((D.getD 0 RD.d).at_.toNat + (D.getD 0 RD.d).xs.length - j) % (D.getD 0 RD.d).xs.length) = 0
theorem NewZ.mono {D : List RD} {m m' : Nat} (h : NewZ D m) (hm : m' ≤ m) : NewZ D m' := fun j h1 h2 h3 => h j h1 (by omega) h3
theorem NewZ.zero (D : List RD) : NewZ D 0 := fun j h1 h2 _ => absurd h1 (by omega)
theorem NewZ.push {D : List RD} {m : Nat} (h : NewZ D m) (hl : D.length = 1) (g : GoodD D 1) : NewZ (pushD D 0 0) (m + 1) := by
  have g1 := g.ge 0 (by omega)
  have g2 := g.lt 0 (by omega)
  intro j h1 h2 h3
  unfold at0
  rw [pushD_same (by omega)] at h3 ⊢
  simp only [List.length_set, Int.toNat_natCast] at h3 ⊢
  have h4 := h (j - 1)
  unfold at0 at h4
  generalize hn : (D.getD 0 RD.d).xs.length = N at *
  generalize hi : (D.getD 0 RD.d).at_.toNat = i at *
  generalize (D.getD 0 RD.d).xs = xs at *
  have hiN : i < N := by omega
  by_cases e : j = 1
  · subst e
    rw [back_one hiN, List.getD_eq_getElem?_getD, List.getElem?_set_self (by omega)]; rfl
  · obtain ⟨j, rfl⟩ : ∃ k, j = k + 1 := ⟨j - 1, by omega⟩
    rw [Nat.add_sub_cancel] at h4
    rcases back_next hiN (j := j) (by omega) (by omega) with e' | e'
    · rw [e', List.getD_eq_getElem?_getD, List.getElem?_set_ne (Ne.symm (back_ne hiN (by omega) (by omega))), ← List.getD_eq_getElem?_getD]
      exact h4 (by omega) (by omega) (by omega)
    · omega
theorem NewZ.all {D : List RD} {m : Nat} (h : NewZ D m) (g : GoodD D 1) (hm : (D.getD 0 RD.d).xs.length ≤ m) (j : Nat) : at0 D j = 0 := by
  have g1 := g.ge 0 (by omega)
  have g2 := g.lt 0 (by omega)
  by_cases hj : j < (D.getD 0 RD.d).xs.length
  · generalize hi : (D.getD 0 RD.d).at_.toNat = i at *
    unfold NewZ at h
    rw [hi] at h
    generalize (D.getD 0 RD.d).xs.length = N at *
    rcases Nat.lt_or_ge j i with d | d
    · have := h (i - j) (by omega) (by omega) (by omega)
      rwa [show i + N - (i - j) = j + N by omega, Nat.add_mod_right, Nat.mod_eq_of_lt hj] at this
    · have := h (i + N - j) (by omega) (by omega) (by omega)
      rwa [show i + N - (i + N - j) = j by omega, Nat.mod_eq_of_lt hj] at this
  · unfold at0
    rw [List.getD_eq_getElem?_getD, List.getElem?_eq_none (by omega)]; rfl
/-- nothing sounds any more -/
structure ZS (z : PipeSt) : Prop where
  r : ∀ j, Z0 (at0 z.R j)
  l : ∀ j, Z0 (at0 z.L j)
  s : Z0 z.s0
theorem zs_ring {D : List RD} (g : GoodD D 1) (h : zeroD D 1 = true) (j : Nat) : Z0 (at0 D j) := by
  have h' : (true && zeroF (D.getD 0 RD.d).xs (D.getD 0 RD.d).xs.length) = true := h
  rw [Bool.true_and] at h'
  by_cases hj : j < (D.getD 0 RD.d).xs.length
  · have w := (g.wd 0).get j
    rw [wid32] at w
    exact Z0.of w (zeroF_get h' hj)
  · unfold at0
    rw [List.getD_eq_getElem?_getD, List.getElem?_eq_none (by omega)]; rfl
theorem ZS.of (hw : PW n z) (h : pipeSil 1 1 z = true) : ZS z := by
  unfold pipeSil stillF at h
  rw [Bool.and_eq_true, Bool.and_eq_true, Bool.and_eq_true] at h
  exact ⟨zs_ring hw.gR h.1, zs_ring hw.gL h.2.1, Z0.of hw.s0.1 h.2.2.1⟩
theorem Z0.back {op : Bool} {y : Nat} (h : Z0 y) : Z0 (backT op 1061158912 y) := by
  have m : Z0 (fop .mul .f32 1061158912 y) := Z0.mul_r (by decide +kernel) h
  unfold backT
  split
  · show Op.negFloat .f32 (fop .mul .f32 1061158912 y) % 2147483648 = 0
    rw [negFloat_mod]; exact m
  · exact m
theorem ZS.y (h : ZS z) (hp : LawP n c0 c1) : Z0 (zY c0 c1 z) := Z0.add (Z0.mul_r hp.f0 (h.r _)) (Z0.mul_r hp.f1 h.s)
theorem ZS.next (hw : PW n z) (hp : LawP n c0 c1) (h : ZS z) : ZS (zNext c0 c1 op z 0) := by
  obtain ⟨t, ht, e⟩ := breath_eq (L := z.L) (x := 0) (k := 3) (fun j => (h.l j).bd) Bd.zero (by omega)
  rw [zNext_eq, e, kept0 (Z0.add Z0.o ht), kept0 (Z0.back (h.y hp)), kept0 (h.y hp)]
  exact ⟨push_all (P := Z0) hw.lR h.r rfl, push_all (P := Z0) hw.lL h.l rfl, rfl⟩
theorem ZS.at (hw : PW n z) (hp : LawP n c0 c1) (h : ZS z) : ∀ q, ZS (zAt c0 c1 op z (fun _ => 0) q)
  | 0 => by rw [zAt_zero]; exact h
  | q + 1 => by rw [zAt_succ]; exact (ZS.at hw hp h q).next (hw.at q) hp
/-- nothing comes in any more -/
structure PC (n : Nat) (z : PipeSt) (M : Nat) : Prop where
  r : NewZ z.R n
  l : ∀ j, Bd (at0 z.L j) 22
  s : Bd z.s0 21
  m : z.s0 % 2147483648 ≤ M * 2097152
theorem PC.step (hw : PW n z) (hp : LawP n c0 c1) {M : Nat} (h : PC n z M) : PC n (zNext c0 c1 op z 0) (M - 1) ∧ zNext c0 c1 op z 0 = ⟨pushD z.R 0 0, pushD z.L 0 (keptF (backT op 1061158912 (zY c0 c1 z))), keptF (zY c0 c1 z), z.s1⟩ := by
  obtain ⟨t, ht, e⟩ := breath_eq (L := z.L) (x := 0) h.l Bd.zero (by omega)
  have e1 : oldD z.R 0 = 0 := h.r.all hw.gR (by rw [hw.nR]; exact Nat.le_refl _) _
  have eN : zNext c0 c1 op z 0 = ⟨pushD z.R 0 0, pushD z.L 0 (keptF (backT op 1061158912 (zY c0 c1 z))), keptF (zY c0 c1 z), z.s1⟩ := by
    rw [zNext_eq, e, kept0 (Z0.add Z0.o ht)]
  have ey : keptF (zY c0 c1 z) % 2147483648 = 0 ∨ keptF (zY c0 c1 z) % 2147483648 + 2097152 ≤ z.s0 % 2147483648 := by
    obtain ⟨d, hd, k0, k1⟩ := hp.c
    unfold zY
    rw [e1, k0, k1]
    exact (still_step3 (by omega) hw.s0).2
  have y : Bd (zY c0 c1 z) 22 := by
    have m1 : Bd (fop .mul .f32 c0 (oldD z.R 0)) 21 := by rw [e1]; exact (Z0.mul_r hp.f0 Z0.o).bd
    have m2 := hp.b1.mul h.s (by omega) (by omega)
    rw [Nat.zero_add] at m2
    exact Bd.add m1 m2 (by omega)
  have hs : Bd (keptF (zY c0 c1 z)) 21 := by
    have := h.s
    unfold Bd at this ⊢
    omega
  refine ⟨?_, eN⟩
  rw [eN]
  exact ⟨(h.r.push hw.lR hw.gR).mono (by omega), push_all (P := fun a => Bd a 22) hw.lL h.l (Bd.kept (Bd.back y (by omega))), hs, by
    have := h.m
    show keptF (zY c0 c1 z) % 2147483648 ≤ (M - 1) * 2097152
    omega⟩
theorem PC.at (hw : PW n z) (hp : LawP n c0 c1) {M : Nat} (h : PC n z M) : ∀ q, PC n (zAt c0 c1 op z (fun _ => 0) q) (M - q)
  | 0 => by rw [zAt_zero]; exact h
  | q + 1 => by
    rw [zAt_succ]
    exact ((PC.at hw hp h q).step (hw.at q) hp).1
/-- behind how many steps there is silence -/
def silN (c0 c1 : Nat) (op : Bool) (z : PipeSt) : Nat := (silG (fun ii => pipeSil 1 1 (zAt c0 c1 op z (fun _ => 0) ii)) (2000 + 1) 0).1.toNat
end
end Go.Proofs.Ytnahhdnkbbdceaa
