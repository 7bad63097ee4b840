/- Floating point, ninth part: zeros; states of which at most three quarters are kept. -/
import Derived.Test.YtnahhdnkbbdceaaF13
set_option linter.unusedVariables false
set_option linter.unusedSimpArgs false
set_option maxRecDepth 10000
namespace Go.Proofs.Ytnahhdnkbbdceaa
open Ieee

/-- 0 or -0 -/
def Z0 (z : Nat) : Prop := z % 2147483648 = 0
theorem Z0.fin {z : Nat} (h : Z0 z) : z % 2147483648 < 2139095040 := by unfold Z0 at h; omega
theorem Z0.mul_r {c z : Nat} (hc : finF c = true) (hz : Z0 z) : Z0 (fop .mul .f32 c z) := by
  have e : z % 2147483648 = 0 := hz
  obtain ⟨s, b, hb, e'⟩ := mul_le (r := 0) (of_fin hc) hz.fin (by omega) (by rw [e]; simp [rungVal])
  rw [e']
  unfold Z0
  rw [word_mod32 s (by omega)]; omega
theorem Z0.mul_l {c z : Nat} (hc : finF c = true) (hz : Z0 z) : Z0 (fop .mul .f32 z c) := by
  have e : z % 2147483648 = 0 := hz
  obtain ⟨s, b, hb, e'⟩ := mul_le (r := 0) hz.fin (of_fin hc) (by omega) (by rw [e]; simp [rungVal])
  rw [e']
  unfold Z0
  rw [word_mod32 s (by omega)]; omega
theorem Z0.read {z : Nat} (h : Z0 z) : FloatKind.f32.format.read z = .number (z / 2147483648 % 2 == 1) 0 (-149) := by
  have e : z % 2147483648 = 0 := h
  unfold Format.read
  simp only [bin32, least32, inf32, sign32, e]
  simp
theorem Z0.add {a b : Nat} (ha : Z0 a) (hb : Z0 b) : Z0 (fop .add .f32 a b) := by
  have k : ∃ s, floatBits .add .f32 a b = some (FloatKind.f32.format.word s 0) := by
    refine ⟨(a / 2147483648 % 2 == 1) && (b / 2147483648 % 2 == 1), ?_⟩
    show FloatKind.f32.format.add a b = _
    unfold Format.add
    rw [ha.read, hb.read]
    simp [Datum.sum, signed, Format.write, Format.nearest]
  obtain ⟨s, k⟩ := k
  unfold Z0 fop
  rw [k]
  exact word_mod32 s (by omega)
theorem Z0.sub {a b : Nat} (ha : Z0 a) (hb : Z0 b) : Z0 (fop .sub .f32 a b) := by
  have k : ∃ s, floatBits .sub .f32 a b = some (FloatKind.f32.format.word s 0) := by
    refine ⟨(a / 2147483648 % 2 == 1) && !(b / 2147483648 % 2 == 1), ?_⟩
    show FloatKind.f32.format.sub a b = _
    unfold Format.sub
    rw [ha.read, hb.read]
    simp [Datum.opposite, Datum.sum, signed, Format.write, Format.nearest]
  obtain ⟨s, k⟩ := k
  unfold Z0 fop
  rw [k]
  exact word_mod32 s (by omega)
theorem Z0.kept {a : Nat} (h : Z0 a) : Z0 (keptF a) := by
  have e : a % 2147483648 = 0 := h
  unfold keptF flushF
  rw [if_pos (fin_of h.fin), if_pos (small_of_lt (by omega))]
  rfl
theorem Z0.of {a : Nat} (ha : a < 4294967296) (h : fEq .f32 a 0 = true) : Z0 a := by
  rcases eq_of_fEq32 ha (by omega) h with k | k
  · subst k; rfl
  · exact k.1
theorem Z0.eq {a : Nat} (h : Z0 a) : fEq .f32 a 0 = true := fEq32_zero h 0 rfl

theorem rung_less3 {b : Nat} (h1 : 8388608 ≤ b) (h2 : b < 2139095040) : 3 * rungVal b ≤ 4 * rungVal (b - 2097152) := by
  obtain ⟨c, e, hc1, hc2, hc3, hc4⟩ := rung_parts h2
  obtain ⟨c', e', k1, k2, k3, k4⟩ := rung_parts (b := b - 2097152) (by omega)
  rw [hc1, k1]
  have hc : 8388608 ≤ c := by omega
  have hee : e' = e ∨ e' + 1 = e := by omega
  rcases hee with rfl | rfl
  · rw [← Nat.mul_assoc, ← Nat.mul_assoc]
    exact Nat.mul_le_mul_right _ (by omega)
  · have h14 : 6 * c ≤ 4 * c' := by omega
    rw [Nat.pow_succ]
    generalize 2 ^ e' = P
    have h15 := Nat.mul_le_mul_right P h14
    rw [Nat.mul_assoc, Nat.mul_assoc] at h15
    rw [← Nat.mul_assoc c]
    omega
/-- a step without a sample, of which at most three quarters are kept -/
theorem still_step3 {d s : Nat} (hd : d < 49) (hs : GoodS s) : GoodS (keptF (fop .add .f32 (fop .mul .f32 (lossD d) 0) (fop .mul .f32 (keepD d) s))) ∧
    ((keptF (fop .add .f32 (fop .mul .f32 (lossD d) 0) (fop .mul .f32 (keepD d) s))) % 2147483648 = 0 ∨ (keptF (fop .add .f32 (fop .mul .f32 (lossD d) 0) (fop .mul .f32 (keepD d) s))) % 2147483648 + 2097152 ≤ s % 2147483648) := by
  have ok := OkD.of (d := d) (by omega)
  have hs1 := hs.2.1
  rw [ok.z]
  have hkm : keepD d % 2147483648 = keepD d := Nat.mod_eq_of_lt (by have := ok.k; omega)
  obtain ⟨r, hr1, hr2, hr3⟩ : ∃ r, r < 2139095040 ∧ rungVal (keepD d % 2147483648) * rungVal (s % 2147483648) ≤ rungVal r * 2 ^ 149 ∧ (r = 0 ∨ r + 2097152 ≤ s % 2147483648) := by
    rcases hs.2.2 with h0 | h0
    · refine ⟨0, by omega, ?_, .inl rfl⟩
      rw [h0]; simp [rungVal]
    · refine ⟨s % 2147483648 - 2097152, by omega, ?_, .inr (by omega)⟩
      have h7 := rung_less3 h0 hs.2.1
      rw [hkm]
      have hv := ok.v
      refine Nat.le_of_mul_le_mul_left (c := 64) ?_ (by omega)
      generalize rungVal (s % 2147483648) = S at *
      generalize rungVal (s % 2147483648 - 2097152) = R at *
      have h8 : 48 * S ≤ 64 * R := by omega
      have h9 : d * S ≤ 48 * S := Nat.mul_le_mul_right S (by omega)
      calc 64 * (rungVal (keepD d) * S) = (rungVal (keepD d) * 64) * S := by ac_rfl
        _ = d * S * 2 ^ 149 := by rw [hv]; ac_rfl
        _ ≤ 48 * S * 2 ^ 149 := Nat.mul_le_mul_right (2 ^ 149) h9
        _ ≤ 64 * R * 2 ^ 149 := Nat.mul_le_mul_right (2 ^ 149) h8
        _ = 64 * (R * 2 ^ 149) := by rw [Nat.mul_assoc]
  obtain ⟨z, b, hb, e⟩ := mul_le (by rw [hkm]; exact ok.k) hs.2.1 hr1 hr2
  have hbl : b < 2139095040 := by omega
  have hwm := word_mod32 z hbl
  rw [← e] at hwm
  obtain ⟨z', e'⟩ := add_zero_l (x := fop .mul .f32 (keepD d) s) (by rw [hwm]; exact hbl)
  rw [hwm] at e'
  have hlt := fop_lt .add .f32 0 (fop .mul .f32 (keepD d) s)
  rw [wid32] at hlt
  obtain ⟨g, hk⟩ := GoodS.kept hlt
  refine ⟨g, ?_⟩
  rcases hk with k0 | k0
  · left; rw [k0]
  · rw [k0, e', word_mod32 z' hbl]; omega
end Go.Proofs.Ytnahhdnkbbdceaa

/- Floating point, fourteenth part: comparisons by exact values; adding a zero; sizes of greater numbers; what is clamped. -/
set_option linter.unusedVariables false
set_option linter.unusedSimpArgs false
set_option maxRecDepth 10000
namespace Go.Proofs.Ytnahhdnkbbdceaa
open Ieee

/-- the exact value, in smallest steps -/
def sV (x : Nat) : Int := if (x / 2147483648 % 2 == 1) = true then -((rungVal (x % 2147483648) : Nat) : Int) else ((rungVal (x % 2147483648) : Nat) : Int)
theorem order_sV {a b : Nat} (ha : a % 2147483648 < 2139095040) (hb : b % 2147483648 < 2139095040) : FloatKind.f32.format.order a b = some (compare (sV a) (sV b)) := by
  obtain ⟨m, i, h1, h2, h3⟩ := read_fin ha
  obtain ⟨n, j, g1, g2, g3⟩ := read_fin hb
  unfold Format.order
  rw [h1, g1, order_number (-149) h2 g2]
  have e1 : signed (a / 2147483648 % 2 == 1) m (i - -149).toNat = sV a := by
    unfold signed sV
    rw [Nat.shiftLeft_eq, show (i - -149).toNat = (i + 149).toNat by omega, h3]
  have e2 : signed (b / 2147483648 % 2 == 1) n (j - -149).toNat = sV b := by
    unfold signed sV
    rw [Nat.shiftLeft_eq, show (j - -149).toNat = (j + 149).toNat by omega, g3]
  rw [e1, e2]
theorem fGt_sV {a b : Nat} (ha : a % 2147483648 < 2139095040) (hb : b % 2147483648 < 2139095040) : fGt .f32 a b = decide (sV b < sV a) := by
  unfold fGt
  rw [show FloatKind.f32.format.order a b = some (compare (sV a) (sV b)) from order_sV ha hb]
  by_cases h : sV b < sV a
  · rw [Std.compare_eq_gt.2 h, decide_eq_true h]; rfl
  · rw [decide_eq_false h]
    have : compare (sV a) (sV b) ≠ .gt := fun e => h (Std.compare_eq_gt.1 e)
    cases hc : compare (sV a) (sV b)
    · rfl
    · rfl
    · exact absurd hc this
theorem fLt_sV {a b : Nat} (ha : a % 2147483648 < 2139095040) (hb : b % 2147483648 < 2139095040) : fLt .f32 a b = decide (sV a < sV b) := by
  unfold fLt
  rw [show FloatKind.f32.format.order a b = some (compare (sV a) (sV b)) from order_sV ha hb]
  by_cases h : sV a < sV b
  · rw [Std.compare_eq_lt.2 h, decide_eq_true h]; rfl
  · rw [decide_eq_false h]
    have : compare (sV a) (sV b) ≠ .lt := fun e => h (Std.compare_eq_lt.1 e)
    cases hc : compare (sV a) (sV b)
    · exact absurd hc this
    · rfl
    · rfl
theorem add_zero_r {x t K : Nat} (hK : K = 925) (hx : x < 4294967296) (hf : x % 2147483648 < 2139095040) (h0 : x % 2147483648 ≠ 0) (ht : Z0 t) : fop .add .f32 x t = x := by
  obtain ⟨n, j, g1, g2, g3⟩ := read_fin hf
  have r2 := ht.read
  generalize (t / 2147483648 % 2 == 1) = u at r2
  have hmin : min j (-149 : Int) = -149 := by omega
  have hp : 0 < rungVal (x % 2147483648) := by
    have := rungVal_lt (show 0 < x % 2147483648 by omega)
    omega
  have hs : signed (x / 2147483648 % 2 == 1) n (j - -149).toNat + signed u 0 ((-149 : Int) - -149).toNat = sV x := by
    unfold signed sV
    rw [Nat.shiftLeft_eq, Nat.shiftLeft_eq, show (j - -149).toNat = (j + 149).toNat by omega, g3]
    cases u <;> simp
  have hv : (sV x).natAbs = rungVal (x % 2147483648) := by unfold sV; split <;> omega
  have hz : (if sV x = 0 then (x / 2147483648 % 2 == 1) && u else decide (sV x < 0)) = (x / 2147483648 % 2 == 1) := by
    rw [if_neg (by omega)]
    unfold sV
    cases hb : (x / 2147483648 % 2 == 1)
    · rw [if_neg (by decide)]; simp
    · rw [if_pos rfl]; simp; omega
  have e2 : floatBits .add .f32 x t = some (FloatKind.f32.format.word (x / 2147483648 % 2 == 1) (x % 2147483648)) := by
    show FloatKind.f32.format.add x t = _
    unfold Format.add
    rw [g1, r2]
    simp only [Datum.sum, hmin, Option.map, Format.write]
    rw [hs, hz, hv, nearest_spec _ _ (by omega), show ((-149 : Int) + 1074).toNat = K by omega, rungOf_rung hf hK]
  unfold fop
  rw [e2]
  show FloatKind.f32.format.word (x / 2147483648 % 2 == 1) (x % 2147483648) = x
  have e3 := word_mod32 (x / 2147483648 % 2 == 1) hf
  cases hb : (x / 2147483648 % 2 == 1)
  · have : ¬ x / 2147483648 % 2 = 1 := by simpa using hb
    rw [word_pos _ hf]; omega
  · have : x / 2147483648 % 2 = 1 := by simpa using hb
    show 2 ^ 31 + x % 2147483648 = x
    omega
section
variable {x y k l : Nat}
theorem Bd.add2 (hx : Bd x k) (hy : Bd y k) (hk : k ≤ 100) : Bd (fop .add .f32 x y) (k + 1) := by
  obtain ⟨z, b, hb, e⟩ := add_leS (r := (127 + (k + 1)) * 8388608) (hx.fin (by omega)) (hy.fin (by omega)) (by omega) false (by
    rw [rung_two, show k + 1 + 149 = (k + 149) + 1 by omega, Nat.pow_succ]; have := hx.val; have := hy.val; omega)
  have e2 : floatBits .add .f32 x y = some (FloatKind.f32.format.word z b) := e
  unfold fop; rw [e2]
  unfold Bd
  show FloatKind.f32.format.word z b % 2147483648 ≤ _
  rw [word_mod32 z (by omega)]; exact hb
theorem Bd.sub2 (hx : Bd x k) (hy : Bd y k) (hk : k ≤ 100) : Bd (fop .sub .f32 x y) (k + 1) := by
  obtain ⟨z, b, hb, e⟩ := add_leS (r := (127 + (k + 1)) * 8388608) (hx.fin (by omega)) (hy.fin (by omega)) (by omega) true (by
    rw [rung_two, show k + 1 + 149 = (k + 149) + 1 by omega, Nat.pow_succ]; have := hx.val; have := hy.val; omega)
  have e2 : floatBits .sub .f32 x y = some (FloatKind.f32.format.word z b) := e
  unfold fop; rw [e2]
  unfold Bd
  show FloatKind.f32.format.word z b % 2147483648 ≤ _
  rw [word_mod32 z (by omega)]; exact hb
theorem Bd.mul2 (hx : Bd x k) (hy : Bd y l) (hk : k + l ≤ 100) : Bd (fop .mul .f32 x y) (k + l) := by
  obtain ⟨z, b, hb, e⟩ := mul_le (r := (127 + (k + l)) * 8388608) (hx.fin (by omega)) (hy.fin (by omega)) (by omega) (by
    rw [rung_two, ← Nat.pow_add, show k + l + 149 + 149 = (k + 149) + (l + 149) by omega, Nat.pow_add]
    exact Nat.mul_le_mul hx.val hy.val)
  rw [e]
  unfold Bd
  rw [word_mod32 z (by omega)]; exact hb
theorem sV_le {r : Nat} (h1 : sV x ≤ ((rungVal r : Nat) : Int)) (h2 : -((rungVal r : Nat) : Int) ≤ sV x) : x % 2147483648 ≤ r := by
  rcases Nat.lt_or_ge r (x % 2147483648) with c | c
  · have := rungVal_lt c
    unfold sV at h1 h2
    split at h1 <;> split at h2 <;> omega
  · exact c
end
end Go.Proofs.Ytnahhdnkbbdceaa
