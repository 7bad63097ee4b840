/- Floating point, twentieth part: a pulse of two halves adds what the pulse is, within a thousandth. -/
import Derived.Test.YtnahhdnkbbdceaaF19
import Derived.Test.YtnahhdnkbbdceaaF13
import Derived.Test.YtnahhdnkbbdceaaN16
set_option linter.unusedVariables false
set_option linter.unusedSimpArgs false
set_option maxHeartbeats 8000000
set_option maxRecDepth 100000
namespace Go.Proofs.Ytnahhdnkbbdceaa
open Ieee

theorem sum_err {x y J e : Nat} {S : Int} (t2 : Bool) (hx : x % 2147483648 < 2139095040) (hy : y % 2147483648 < 2139095040) (hS : S = sV x + (if t2 then -sV y else sV y)) (he : e = 2 ^ (J - 25)) (hJ : J ≤ 250) (h25 : 25 ≤ J) (h : S.natAbs ≤ 2 ^ J) :
    ∃ z, ((FloatKind.f32.format.read x).sum (if t2 then (FloatKind.f32.format.read y).opposite else FloatKind.f32.format.read y)).map FloatKind.f32.format.write = some z ∧ z % 2147483648 < 2139095040 ∧ (sV z - S).natAbs ≤ e := by
  obtain ⟨K, hK⟩ : ∃ K : Nat, K = 925 := ⟨_, rfl⟩
  have e9 := sum_sV hK t2 hx hy hS
  have er := rung_err (T := S.natAbs) (J := J) hK he hJ h25 h
  have hlt : rungOf (S.natAbs * 2 ^ K) < 2139095040 := er.2.2
  refine ⟨_, e9, by rw [word_mod32 _ hlt]; exact hlt, ?_⟩
  rw [word_val hlt]
  by_cases h0 : S = 0
  · rw [if_pos h0]
    have : rungVal (rungOf (S.natAbs * 2 ^ K)) ≤ e := by have := er.1; omega
    split <;> omega
  · rw [if_neg h0]
    by_cases hs : S < 0
    · rw [if_pos (decide_eq_true hs)]; omega
    · rw [if_neg (by simpa using hs)]; omega
theorem add_err {x y J e : Nat} (hx : x % 2147483648 < 2139095040) (hy : y % 2147483648 < 2139095040) (he : e = 2 ^ (J - 25)) (hJ : J ≤ 250) (h25 : 25 ≤ J) (h : (sV x + sV y).natAbs ≤ 2 ^ J) : (fop .add .f32 x y) % 2147483648 < 2139095040 ∧ (sV (fop .add .f32 x y) - (sV x + sV y)).natAbs ≤ e := by
  obtain ⟨z, hz, a, b⟩ := sum_err (S := sV x + sV y) false hx hy (by simp) he hJ h25 h
  have e2 : floatBits .add .f32 x y = some z := hz
  unfold fop; rw [e2]
  exact ⟨a, b⟩
/-- a difference that is at most a rung's number -/
theorem sub_rung {x y r : Nat} (hx : x % 2147483648 < 2139095040) (hy : y % 2147483648 < 2139095040) (hr : r < 2139095040) (h : (sV x - sV y).natAbs ≤ rungVal r) : (fop .sub .f32 x y) % 2147483648 ≤ r := by
  obtain ⟨K, hK⟩ : ∃ K : Nat, K = 925 := ⟨_, rfl⟩
  have e := sum_sV (S := sV x - sV y) hK true hx hy (by simp; omega)
  have hle : rungOf ((sV x - sV y).natAbs * 2 ^ K) ≤ r := by
    rw [← rungOf_rung hr hK]
    exact rungOf_mono (Nat.mul_le_mul_right _ h)
  have e2 : floatBits .sub .f32 x y = some _ := e
  unfold fop; rw [e2]
  show FloatKind.f32.format.word _ _ % 2147483648 ≤ r
  rw [word_mod32 _ (by omega)]; exact hle
theorem kept_err {x : Nat} (hx : x % 2147483648 < 2139095040) : (keptF x) % 2147483648 < 2139095040 ∧ (sV (keptF x) - sV x).natAbs ≤ 8388608 := by
  have s0 : sV 0 = 0 := by decide +kernel
  unfold keptF flushF
  rw [fin_of hx, if_pos rfl]
  split
  · rename_i h
    unfold smallF at h
    have ha : absF x % 2147483648 = x % 2147483648 ∧ absF x < 2147483648 := by unfold absF; omega
    rw [fLt_sV (by omega) (by omega)] at h
    have h1 : sV (absF x) = ((rungVal (x % 2147483648) : Nat) : Int) := by
      unfold sV
      rw [ha.1, Nat.div_eq_of_lt ha.2]; rfl
    have h2 : sV 8388608 = 8388608 := by decide +kernel
    rw [h1, h2] at h
    have h3 := of_decide_eq_true h
    have h4 := sV_abs x
    refine ⟨by omega, ?_⟩
    rw [s0]; omega
  · exact ⟨hx, by omega⟩
theorem mono2 {c M u g : Nat} (h : M ≤ u) : rungOf (c * M * g) ≤ rungOf (c * u * g) := rungOf_mono (Nat.mul_le_mul_right _ (Nat.mul_le_mul_left _ h))
/-- the tolerance is at least a thousandth -/
theorem tol_ge {s : Nat} (hs : s < 2139095040) (hb : rungVal s ≤ 8192 * 713623846352979940529142984724747568191373312) : ∃ t, t < 2139095040 ∧ 981668463 ≤ t ∧ fop .mul .f32 981668463 (fop .add .f32 1065353216 s) = t := by
  obtain ⟨K, hK⟩ : ∃ K : Nat, K = 925 := ⟨_, rfl⟩
  obtain ⟨L, hL⟩ : ∃ L : Nat, L = 776 := ⟨_, rfl⟩
  have one : rungVal 1065353216 = 713623846352979940529142984724747568191373312 := by decide +kernel
  obtain ⟨r, hr, hrv⟩ : ∃ r, r < 2139095040 ∧ rungVal r = 16384 * 713623846352979940529142984724747568191373312 := ⟨1182793728, by omega, by decide +kernel⟩
  have a1 : rungOf ((rungVal 1065353216 + rungVal s) * 2 ^ K) ≤ r := by
    rw [← rungOf_rung hr hK]
    exact rungOf_mono (Nat.mul_le_mul_right _ (by omega))
  have a2 : 1065353216 ≤ rungOf ((rungVal 1065353216 + rungVal s) * 2 ^ K) := by
    have := rungOf_mono (Nat.mul_le_mul_right (2 ^ K) (Nat.le_add_right (rungVal 1065353216) (rungVal s)))
    rwa [rungOf_rung (by omega) hK] at this
  rw [add_pos hK (by omega) hs (by omega)]
  generalize rungOf ((rungVal 1065353216 + rungVal s) * 2 ^ K) = u at *
  have hu := rungVal_le a1
  have hl := rungVal_le a2
  have c9 : rungVal 981668463 ≤ rungVal 1065353216 := rungVal_le (by omega)
  have p149 : (2 : Nat) ^ 149 = 713623846352979940529142984724747568191373312 := by decide +kernel
  have kl : K = 149 + L := by omega
  have b1 : rungOf (rungVal 981668463 * rungVal u * 2 ^ L) ≤ r := by
    rw [← rungOf_rung hr hK, kl, Nat.pow_add, ← Nat.mul_assoc, p149]
    refine rungOf_mono (Nat.mul_le_mul_right _ ?_)
    rw [Nat.mul_comm]
    refine Nat.mul_le_mul hu ?_
    omega
  have b2 : 981668463 ≤ rungOf (rungVal 981668463 * rungVal u * 2 ^ L) := by
    have e := rungOf_rung (r := 981668463) (by omega) hK
    rw [kl, Nat.pow_add, ← Nat.mul_assoc, p149] at e
    have k8 : 713623846352979940529142984724747568191373312 ≤ rungVal u := by rw [← one]; exact hl
    have k9 := mono2 (c := rungVal 981668463) (g := 2 ^ L) k8
    rw [e] at k9
    exact k9
  exact ⟨_, by omega, b2, mul_pos hL (by omega) (by omega) (by omega)⟩
/-- what a pulse adds -/
theorem near_pulse {r l a h : Nat} (hr : IB r 3100) (hl : IB l 3100) (ha : IB a 2) (hh : h % 2147483648 < 2139095040) (h2 : 2 * sV h = sV a) :
    fLe .f32 (absF (fop .sub .f32 (fop .add .f32 (keptF (fop .add .f32 r h)) (keptF (fop .add .f32 l h))) (fop .add .f32 (fop .add .f32 r l) a))) (fop .mul .f32 981668463 (fop .add .f32 1065353216 (absF (fop .add .f32 r l)))) = true := by
  have r1 := hr.2
  have l1 := hl.2
  have a1 := ha.2
  have p161 : (2 : Nat) ^ 161 = 4096 * 713623846352979940529142984724747568191373312 := by decide +kernel
  have p162 : (2 : Nat) ^ 162 = 8192 * 713623846352979940529142984724747568191373312 := by decide +kernel
  have q136 : (87112285931760246646623899502532662132736 : Nat) = 2 ^ (161 - 25) := by decide +kernel
  have q137 : (174224571863520493293247799005065324265472 : Nat) = 2 ^ (162 - 25) := by decide +kernel
  obtain ⟨x1, x2⟩ := add_err (J := 161) hr.1 hh q136 (by omega) (by omega) (by rw [p161]; omega)
  obtain ⟨y1, y2⟩ := add_err (J := 161) hl.1 hh q136 (by omega) (by omega) (by rw [p161]; omega)
  obtain ⟨x3, x4⟩ := kept_err x1
  obtain ⟨y3, y4⟩ := kept_err y1
  obtain ⟨s1, s2⟩ := add_err (J := 162) hr.1 hl.1 q137 (by omega) (by omega) (by rw [p162]; omega)
  generalize fop .add .f32 r h = x at *
  generalize fop .add .f32 l h = y at *
  generalize keptF x = x' at *
  generalize keptF y = y' at *
  generalize fop .add .f32 r l = s at *
  obtain ⟨b1, b2⟩ := add_err (J := 162) x3 y3 q137 (by omega) (by omega) (by rw [p162]; omega)
  obtain ⟨c1, c2⟩ := add_err (J := 162) s1 ha.1 q137 (by omega) (by omega) (by rw [p162]; omega)
  generalize fop .add .f32 x' y' = b at *
  generalize fop .add .f32 s a = c at *
  have tv : 698000000000000000000000000000000000000000 ≤ rungVal 981668463 := by decide +kernel
  have d := sub_rung (r := 981668463) b1 c1 (by omega) (by omega)
  have hs9 : absF s = s % 2147483648 := rfl
  have hsv := sV_abs s
  obtain ⟨t, t1, t2, t3⟩ := tol_ge (s := absF s) (by rw [hs9]; exact s1) (by rw [hs9]; omega)
  rw [t3]
  have hd9 : absF (fop .sub .f32 b c) = fop .sub .f32 b c % 2147483648 := rfl
  rw [hd9]
  generalize fop .sub .f32 b c % 2147483648 = u at *
  have := fLe_pos (a := u) (b := t) (by omega) t1
  rw [this]
  exact decide_eq_true (by omega)
end Go.Proofs.Ytnahhdnkbbdceaa

/- Pulses of drawn pipes: other places keep their pressure, and the place has nearly the force more; what is scattered. -/
set_option linter.unusedVariables false
set_option linter.unusedSimpArgs false
set_option maxRecDepth 100000
namespace Go.Proofs.Ytnahhdnkbbdceaa
open Ieee

theorem fLe_sV {a b : Nat} (ha : a % 2147483648 < 2139095040) (hb : b % 2147483648 < 2139095040) : fLe .f32 a b = decide (sV a ≤ sV b) := by
  unfold fLe
  rw [show FloatKind.f32.format.order a b = some (compare (sV a) (sV b)) from order_sV ha hb]
  by_cases h : sV a ≤ sV b
  · rw [decide_eq_true h]
    cases hc : compare (sV a) (sV b)
    · rfl
    · rfl
    · exact absurd (Std.compare_eq_gt.1 hc) (by omega)
  · rw [decide_eq_false h, Std.compare_eq_gt.2 (by omega : sV b < sV a)]; rfl
theorem fGe_sV {a b : Nat} (ha : a % 2147483648 < 2139095040) (hb : b % 2147483648 < 2139095040) : fGe .f32 a b = decide (sV b ≤ sV a) := by
  unfold fGe
  rw [show FloatKind.f32.format.order a b = some (compare (sV a) (sV b)) from order_sV ha hb]
  by_cases h : sV b ≤ sV a
  · rw [decide_eq_true h]
    cases hc : compare (sV a) (sV b)
    · exact absurd (Std.compare_eq_lt.1 hc) (by omega)
    · rfl
    · rfl
  · rw [decide_eq_false h, Std.compare_eq_lt.2 (by omega : sV a < sV b)]; rfl
theorem bd0_in {r : Nat} (h : Bd r 0) : fGe .f32 r 3212836864 = true ∧ fLe .f32 r 1065353216 = true := by
  have f := h.fin (by omega)
  have v := h.val
  rw [fGe_sV f (by omega), fLe_sV f (by omega)]
  have s1 : sV 1065353216 = 713623846352979940529142984724747568191373312 := by decide +kernel
  have s2 : sV 3212836864 = -713623846352979940529142984724747568191373312 := by decide +kernel
  have e : (2 : Nat) ^ (0 + 149) = 713623846352979940529142984724747568191373312 := by decide +kernel
  have hs := sV_abs r
  rw [e] at v
  rw [s1, s2]
  exact ⟨decide_eq_true (by omega), decide_eq_true (by omega)⟩

def plW (u : Nat) : Nat := fop .quo .f32 (FloatKind.f32.nearest (((u : Nat) : Int) - (128 : Int))) 1115684864
/-- a small multiple of a sixty-fourth -/
def PlW (r : Nat) : Prop := ∃ u, u < 257 ∧ r = plW u
def plOk (u : Nat) : Bool := decide (plW u % 2147483648 < 2139095040) && (decide ((sV (plW u)).natAbs ≤ 2 * 713623846352979940529142984724747568191373312) && (decide (fop .mul .f32 1056964608 (plW u) % 2147483648 < 2139095040) && (decide (2 * sV (fop .mul .f32 1056964608 (plW u)) = sV (plW u)) && decide (plW u % 2147483648 ≤ (127 + 1) * 8388608))))
theorem pl_t : (List.range 257).all plOk = true := by decide +kernel
theorem pl_ok {u : Nat} (hu : u < 257) : plOk u = true := List.all_eq_true.1 pl_t u (List.mem_range.2 hu)
theorem plw_of {u r : Nat} (hu : u < 257) (h : cn .f32 r = cn .f32 (fop .quo .f32 (FloatKind.f32.nearest (((u : Nat) : Int) - (128 : Int))) 1115684864)) : PlW r := by
  have k := pl_ok hu
  unfold plOk at k
  simp only [Bool.and_eq_true, decide_eq_true_eq] at k
  have hn : isNaN .f32 (plW u) = false := by rw [isNaN32]; simp; omega
  exact ⟨u, hu, eq_of_cn h hn⟩
theorem PlW.bd {r : Nat} (h : PlW r) : Bd r 1 := by
  obtain ⟨u, hu, rfl⟩ := h
  have k := pl_ok hu
  unfold plOk at k
  simp only [Bool.and_eq_true, decide_eq_true_eq] at k
  exact k.2.2.2.2
theorem PlW.ib {r : Nat} (h : PlW r) : IB r 2 := by
  obtain ⟨u, hu, rfl⟩ := h
  have k := pl_ok hu
  unfold plOk at k
  simp only [Bool.and_eq_true, decide_eq_true_eq] at k
  exact ⟨k.1, k.2.1⟩
theorem PlW.half {r : Nat} (h : PlW r) : fop .mul .f32 1056964608 r % 2147483648 < 2139095040 ∧ 2 * sV (fop .mul .f32 1056964608 r) = sV r := by
  obtain ⟨u, hu, rfl⟩ := h
  have k := pl_ok hu
  unfold plOk at k
  simp only [Bool.and_eq_true, decide_eq_true_eq] at k
  exact ⟨k.2.2.1, k.2.2.2.1⟩

theorem mod_inj {x y n : Nat} (h : x % n = y % n) (h1 : x < y + n) (h2 : y < x + n) : x = y := by
  have a := Nat.div_add_mod x n
  have b := Nat.div_add_mod y n
  rcases Nat.lt_trichotomy (x / n) (y / n) with c | c | c
  · have := Nat.mul_le_mul_left n (show x / n + 1 ≤ y / n by omega)
    rw [Nat.mul_add, Nat.mul_one] at this
    omega
  · rw [c] at a; omega
  · have := Nat.mul_le_mul_left n (show y / n + 1 ≤ x / n by omega)
    rw [Nat.mul_add, Nat.mul_one] at this
    omega
theorem getD_set_no {xs : List Nat} {i j a : Nat} (h : i ≠ j) : (xs.set i a).getD j 0 = xs.getD j 0 := by
  simp only [List.getD_eq_getElem?_getD, List.getElem?_set_ne h]
theorem getD_set_at {xs : List Nat} {i a : Nat} (h : i < xs.length) : (xs.set i a).getD i 0 = a := by
  simp [List.getD_eq_getElem?_getD, h]
section
variable {nR nS c0 c1 lo re sl t m pl a i k : Nat} {xS : List Nat} {z : PipeSt}
theorem iR_pul : iR (pulZ z m pl a) i k = iR z i k := by
  unfold iR pulZ
  dsimp only
  rw [(set1_lens (D := z.R)).1, (set1_lens (D := z.R)).2]
theorem iL_pul : iL (pulZ z m pl a) i k = iL z i k := by
  unfold iL pulZ
  dsimp only
  rw [(set1_lens (D := z.R)).1, (set1_lens (D := z.L)).2]
theorem pr_other (h : DPz nR nS xS c0 c1 lo re sl z t) (hm : m < nR) (hpl : pl < (z.R.getD m RD.d).xs.length) (hi : i < nR) (hk : k < (z.R.getD i RD.d).xs.length) (hne : ¬ (i = m ∧ k = pl)) : prD (pulZ z m pl a) i k = prD z i k := by
  unfold prD
  rw [iR_pul, iL_pul]
  unfold pulZ
  dsimp only
  by_cases e : m = i
  · subst e
    have hkp : k ≠ pl := fun e => hne ⟨rfl, e⟩
    have n1 : iR z m pl ≠ iR z m k := fun e => by
      unfold iR at e
      have := mod_inj e (by omega) (by omega)
      omega
    have n2 : iL z m pl ≠ iL z m k := fun e => by
      unfold iL at e
      have := mod_inj e (by omega) (by omega)
      omega
    rw [set1_same (by rw [h.lR]; exact hm), set1_same (by rw [h.lL]; exact hm)]
    dsimp only
    rw [getD_set_no n1, getD_set_no n2]
  · rw [set1_other e, set1_other e]
theorem pr_there (h : DPz nR nS xS c0 c1 lo re sl z t) (hm : m < nR) (hpl : pl < (z.R.getD m RD.d).xs.length) : prD (pulZ z m pl a) m pl = fop .add .f32 (keptF (fop .add .f32 ((z.R.getD m RD.d).xs.getD (iR z m pl) 0) (fop .mul .f32 1056964608 a))) (keptF (fop .add .f32 ((z.L.getD m RD.d).xs.getD (iL z m pl) 0) (fop .mul .f32 1056964608 a))) := by
  unfold prD
  rw [iR_pul, iL_pul]
  unfold pulZ
  dsimp only
  have hl := h.ln m hm
  have i1 : iR z m pl < (z.R.getD m RD.d).xs.length := Nat.mod_lt _ (by omega)
  have i2 : iL z m pl < (z.L.getD m RD.d).xs.length := by rw [hl.2.2]; exact Nat.mod_lt _ (by omega)
  rw [set1_same (by rw [h.lR]; exact hm), set1_same (by rw [h.lL]; exact hm)]
  dsimp only
  rw [getD_set_at i1, getD_set_at i2]
theorem pr_bd (h : DPz nR nS xS c0 c1 lo re sl z t) (ht : t ≤ 90) (i k : Nat) : Bd (prD z i k) (t + 1) := (h.zb.r i _).add2 (h.zb.l i _) (by omega)
theorem not_nan {x k : Nat} (h : Bd x k) (hk : k ≤ 100) : isNaN .f32 x = false := by
  have := h.fin hk
  rw [isNaN32]; simp; omega
theorem eq_bd {x y k : Nat} (e : cn .f32 x = cn .f32 y) (h : Bd y k) (hk : k ≤ 100) : x = y := eq_of_cn e (not_nan h hk)
/-- the place of the pulse -/
theorem near_k {zz : PipeSt} {y1 y2 b c : Nat} (h : DPz nR nS xS c0 c1 lo re sl z 25) (hz : zz = pulZ z m pl a) (hi : ZI z) (ha : PlW a) (hm : m < nR) (hpl : pl < (z.R.getD m RD.d).xs.length) (h1 : cn .f32 y1 = cn .f32 (prD z m pl)) (h2 : cn .f32 y2 = cn .f32 (prD zz m pl)) (hb : cn .f32 b = cn .f32 (fop .add .f32 y1 a)) (hc : cn .f32 c = cn .f32 (fop .mul .f32 981668463 (fop .add .f32 1065353216 (absF y1)))) : fLe .f32 (absF (fop .sub .f32 y2 b)) c = true := by
  have e1 : y1 = prD z m pl := eq_bd h1 (pr_bd h (by omega) m pl) (by omega)
  have ab : Bd a 1 := ha.bd
  have e2 : y2 = prD zz m pl := eq_bd h2 (by rw [hz]; exact pr_bd (h.pul (ab.mono (by omega)) (by omega)) (by omega) m pl) (by omega)
  have near := near_pulse (hi.1 m (iR z m pl)) (hi.2 m (iL z m pl)) ha.ib ha.half.1 ha.half.2
  rw [← pr_there h hm hpl, ← hz, ← e2] at near
  have e3 : fop .add .f32 ((z.R.getD m RD.d).xs.getD (iR z m pl) 0) ((z.L.getD m RD.d).xs.getD (iL z m pl) 0) = y1 := e1.symm
  rw [e3] at near
  have y1b : Bd y1 26 := by rw [e1]; exact pr_bd h (by omega) m pl
  have e4 : b = fop .add .f32 y1 a := eq_bd hb (y1b.add2 (ab.mono (by omega)) (by omega)) (by omega)
  have e5 : fLe .f32 (absF (fop .sub .f32 y2 b)) c = fLe .f32 (absF (fop .sub .f32 y2 b)) (fop .mul .f32 981668463 (fop .add .f32 1065353216 (absF y1))) := by rw [← fLe_cn_r, hc, fLe_cn_r]
  rw [e5, e4]; exact near
/-- another place -/
theorem same_k {zz : PipeSt} {y1 y2 : Nat} (h : DPz nR nS xS c0 c1 lo re sl z 25) (hz : zz = pulZ z m pl a) (hm : m < nR) (hpl : pl < (z.R.getD m RD.d).xs.length) (hi : i < nR) (hk : k < (z.R.getD i RD.d).xs.length) (hne : ¬ (i = m ∧ k = pl)) (h1 : cn .f32 y1 = cn .f32 (prD z i k)) (h2 : cn .f32 y2 = cn .f32 (prD zz i k)) : fEq .f32 y2 y1 = true := by
  rw [hz, pr_other h hm hpl hi hk hne] at h2
  rw [eq_bd h1 (pr_bd h (by omega) i k) (by omega), eq_bd h2 (pr_bd h (by omega) i k) (by omega), fEq_self, not_nan (pr_bd h (by omega) i k) (by omega)]; rfl
end
/-- what is scattered -/
def arW (p : Nat) : Nat := fop .quo .f32 (FloatKind.f32.nearest (((1 + p : Nat) : Int))) 1090519040
def scW (s t : Nat) : Nat := fop .quo .f32 (fop .sub .f32 s t) (fop .add .f32 s t)
def scOk (s t : Nat) : Bool := !isNaN .f32 s && !isNaN .f32 t && (finF s && finF t && (fGt .f32 s 0 && fGt .f32 t 0)) && (finF (scW s t) && finF (scW t s)) && (fEq .f32 (scW s t) (Op.negFloat .f32 (scW t s)) && (fGt .f32 (scW s t) 0 == fGt .f32 s t) && (fGt .f32 (scW s t) 3212836864 && fLt .f32 (scW s t) 1065353216))
theorem sc_t0 : (List.range 10).all (fun p => (List.range 40).all fun q => scOk (arW p) (arW q)) = true := by decide +kernel
theorem sc_t1 : (List.range 10).all (fun p => (List.range 40).all fun q => scOk (arW (10 + p)) (arW q)) = true := by decide +kernel
theorem sc_t2 : (List.range 10).all (fun p => (List.range 40).all fun q => scOk (arW (20 + p)) (arW q)) = true := by decide +kernel
theorem sc_t3 : (List.range 10).all (fun p => (List.range 40).all fun q => scOk (arW (30 + p)) (arW q)) = true := by decide +kernel
theorem sc_ok {p q : Nat} (hp : p < 40) (hq : q < 40) : scOk (arW p) (arW q) = true := by
  have g : ∀ {f : Nat → Nat} (_ : (List.range 10).all (fun p => (List.range 40).all fun q => scOk (arW (f p)) (arW q)) = true) {r : Nat}, r < 10 → scOk (arW (f r)) (arW q) = true := fun h r hr => List.all_eq_true.1 (List.all_eq_true.1 h r (List.mem_range.2 hr)) q (List.mem_range.2 hq)
  rcases (show p < 10 ∨ (10 ≤ p ∧ p < 20) ∨ (20 ≤ p ∧ p < 30) ∨ 30 ≤ p by omega) with c | c | c | c
  · exact g (f := fun p => p) sc_t0 c
  · have := g (f := fun p => 10 + p) sc_t1 (r := p - 10) (by omega)
    rwa [show 10 + (p - 10) = p by omega] at this
  · have := g (f := fun p => 20 + p) sc_t2 (r := p - 20) (by omega)
    rwa [show 20 + (p - 20) = p by omega] at this
  · have := g (f := fun p => 30 + p) sc_t3 (r := p - 30) (by omega)
    rwa [show 30 + (p - 30) = p by omega] at this
end Go.Proofs.Ytnahhdnkbbdceaa
