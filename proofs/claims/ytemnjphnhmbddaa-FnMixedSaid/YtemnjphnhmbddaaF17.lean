/- Floating point, seventeenth part: sums, differences, squares, halves and quotients of positive numbers of binary64. -/
import Derived.Test.YtemnjphnhmbddaaF16
set_option linter.unusedVariables false
set_option linter.unusedSimpArgs false
namespace Go.Proofs.Ytemnjphnhmbddaa
open Ieee

theorem word_f (r : Nat) : FloatKind.f64.format.word false r = r := by simp [Format.word]
theorem signed_diff {m a n b : Nat} (h : n * 2 ^ b ≤ m * 2 ^ a) : (if signed false m a + signed true n b = 0 then false && true else decide (signed false m a + signed true n b < 0)) = false ∧ (signed false m a + signed true n b).natAbs = m * 2 ^ a - n * 2 ^ b := by
  unfold signed
  rw [Nat.shiftLeft_eq, Nat.shiftLeft_eq]
  generalize m * 2 ^ a = u at *
  generalize n * 2 ^ b = v at *
  simp only [if_true, Bool.false_eq_true, if_false]
  constructor
  · by_cases h0 : (u : Int) + -(v : Int) = 0
    · rw [if_pos h0]; rfl
    · rw [if_neg h0]
      exact decide_eq_false (by omega)
  · omega
theorem gt_d {a b : Nat} (ha : a < 9218868437227405312) (hb : b < 9218868437227405312) : fGt .f64 a b = decide (b < a) := by
  obtain ⟨m, e, h1, h2, _⟩ := dread ha
  obtain ⟨n, f, g1, g2, _⟩ := dread hb
  unfold fGt
  have ho : FloatKind.f64.format.order a b = some (compare a b) := by
    unfold Format.order
    rw [h1, g1, order_number (-1074) (by omega) (by omega)]
    have e1 : signed false m ((e : Int) - 1074 - -1074).toNat = ((dV a : Nat) : Int) := by
      unfold signed
      rw [Nat.shiftLeft_eq, show ((e : Int) - 1074 - -1074).toNat = e by omega, h2]; rfl
    have e2 : signed false n ((f : Int) - 1074 - -1074).toNat = ((dV b : Nat) : Int) := by
      unfold signed
      rw [Nat.shiftLeft_eq, show ((f : Int) - 1074 - -1074).toNat = f by omega, g2]; rfl
    rw [e1, e2]
    congr 1
    rcases Nat.lt_trichotomy a b with c | c | c
    · have := dV_lt c
      rw [Std.compare_eq_lt.2 c, Std.compare_eq_lt.2 (by omega)]
    · rw [c, Std.compare_self, Std.compare_self]
    · have := dV_lt c
      rw [Std.compare_eq_gt.2 c, Std.compare_eq_gt.2 (by omega)]
  rw [show FloatKind.f64.format.order a b = some (compare a b) from ho]
  by_cases h : b < a
  · rw [Std.compare_eq_gt.2 h, decide_eq_true h]; rfl
  · rw [decide_eq_false h]
    have : compare a b ≠ .gt := fun e => h (Std.compare_eq_gt.1 e)
    cases hc : compare a b
    · rfl
    · rfl
    · exact absurd hc this
theorem add_d {a b : Nat} (ha : a < 9218868437227405312) (hb : b < 9218868437227405312) : fop .add .f64 a b = dR (dV a + dV b) := by
  obtain ⟨m, e, h1, h2, _⟩ := dread ha
  obtain ⟨n, f, g1, g2, _⟩ := dread hb
  unfold fop
  rw [show floatBits .add .f64 a b = ((FloatKind.f64.format.read a).sum (FloatKind.f64.format.read b)).map FloatKind.f64.format.write from rfl, h1, g1]
  obtain ⟨p, hp⟩ : ∃ p : Nat, p = min e f := ⟨_, rfl⟩
  have hmin : min ((e : Int) - 1074) ((f : Int) - 1074) = (p : Int) - 1074 := by omega
  simp only [Datum.sum, Format.write, hmin, Option.map, Option.getD]
  rw [signed_sign, dnear _ _ (by omega), signed_same]
  rw [word_f]
  congr 1
  rw [show ((p : Int) - 1074 + 1074).toNat = p by omega, Nat.add_mul, Nat.mul_assoc, Nat.mul_assoc, ← Nat.pow_add, ← Nat.pow_add, show ((e : Int) - 1074 - ((p : Int) - 1074)).toNat + p = e by omega, show ((f : Int) - 1074 - ((p : Int) - 1074)).toNat + p = f by omega, h2, g2]
theorem sub_d {a b : Nat} (ha : a < 9218868437227405312) (hb : b < 9218868437227405312) (hle : b ≤ a) : fop .sub .f64 a b = dR (dV a - dV b) := by
  have hv := dV_le hle
  obtain ⟨m, e, h1, h2, _⟩ := dread ha
  obtain ⟨n, f, g1, g2, _⟩ := dread hb
  unfold fop
  rw [show floatBits .sub .f64 a b = ((FloatKind.f64.format.read a).sum (FloatKind.f64.format.read b).opposite).map FloatKind.f64.format.write from rfl, h1, g1]
  obtain ⟨p, hp⟩ : ∃ p : Nat, p = min e f := ⟨_, rfl⟩
  have hmin : min ((e : Int) - 1074) ((f : Int) - 1074) = (p : Int) - 1074 := by omega
  simp only [Datum.opposite, Datum.sum, Format.write, hmin, Option.map, Option.getD, Bool.not_false]
  have he : ((e : Int) - 1074 - ((p : Int) - 1074)).toNat = e - p := by omega
  have hf : ((f : Int) - 1074 - ((p : Int) - 1074)).toNat = f - p := by omega
  rw [he, hf]
  have k1 : m * 2 ^ (e - p) * 2 ^ p = dV a := by rw [h2, Nat.mul_assoc, ← Nat.pow_add, show e - p + p = e by omega]
  have k2 : n * 2 ^ (f - p) * 2 ^ p = dV b := by rw [g2, Nat.mul_assoc, ← Nat.pow_add, show f - p + p = f by omega]
  have k3 : n * 2 ^ (f - p) ≤ m * 2 ^ (e - p) := by
    rw [← k1, ← k2] at hv
    exact Nat.le_of_mul_le_mul_right hv (Nat.two_pow_pos p)
  obtain ⟨hs, hn⟩ := signed_diff k3
  rw [hs, dnear _ _ (by omega), hn]
  rw [word_f]
  congr 1
  rw [show ((p : Int) - 1074 + 1074).toNat = p by omega, Nat.sub_mul, k1, k2]
/-- exponents of what is not small -/
theorem exp_low {c e K : Nat} (hc : c < 9007199254740992) (h : 2 ^ K ≤ c * 2 ^ e) : K < e + 53 := by
  have h1 : c * 2 ^ e < 2 ^ 53 * 2 ^ e := Nat.mul_lt_mul_of_pos_right (by rw [show (2 : Nat) ^ 53 = 9007199254740992 from rfl]; exact hc) (Nat.two_pow_pos _)
  rw [← Nat.pow_add] at h1
  rcases Nat.lt_or_ge K (53 + e) with c | c
  · omega
  · have := Nat.pow_le_pow_right (show 0 < 2 by omega) c
    omega
theorem sq_d {x K J : Nat} (hx : x < 9218868437227405312) (hK : 600 ≤ K) (hJ : J = 1074) (h : 2 ^ K ≤ dV x) : ∃ Q, fop .mul .f64 x x = dR Q ∧ Q * 2 ^ J = dV x * dV x := by
  obtain ⟨m, e, h1, h2, _, h4, _⟩ := dread hx
  have he := exp_low h4 (h2 ▸ h)
  refine ⟨m * m * 2 ^ (e + e - J), ?_, ?_⟩
  · unfold fop
    rw [show floatBits .mul .f64 x x = ((FloatKind.f64.format.read x).product (FloatKind.f64.format.read x)).map FloatKind.f64.format.write from rfl, h1]
    simp only [Datum.product, Format.write, Option.map, Option.getD]
    rw [dnear _ _ (by omega), show (false ^^ false) = false from rfl, word_f]
    congr 2
    congr 1
    omega
  · rw [h2, Nat.mul_assoc, ← Nat.pow_add, show e + e - J + J = e + e by omega, Nat.pow_add]
    ac_rfl
theorem half_d {x K : Nat} (hx : x < 9218868437227405312) (hK : 600 ≤ K) (h : 2 ^ K ≤ dV x) : ∃ H, fop .quo .f64 x 4611686018427387904 = dR H ∧ 2 * H = dV x := by
  obtain ⟨m, e, h1, h2, _, h4, _⟩ := dread hx
  have he := exp_low h4 (h2 ▸ h)
  have hm : m ≠ 0 := fun h0 => by
    rw [h2, h0, Nat.zero_mul] at h
    have := Nat.two_pow_pos K
    omega
  have hl : m.log2 ≤ 52 := by
    rcases Nat.lt_or_ge 52 m.log2 with c | c
    · have h5 := (log2_bounds hm).1
      have h6 : 2 ^ 53 ≤ 2 ^ m.log2 := Nat.pow_le_pow_right (by omega) c
      have h7 : (2 : Nat) ^ 53 = 9007199254740992 := rfl
      omega
    · exact c
  have r2 : FloatKind.f64.format.read 4611686018427387904 = .number false 4503599627370496 (-51) := by decide +kernel
  have l2 : (4503599627370496 : Nat).log2 = 52 := by decide +kernel
  have hfb : FloatKind.f64.format.fractionBits = 52 := rfl
  refine ⟨m * 2 ^ (e - 1), ?_, ?_⟩
  · unfold fop
    rw [show floatBits .quo .f64 x 4611686018427387904 = ((FloatKind.f64.format.read x).quotient (FloatKind.f64.format.fractionBits + 2) (FloatKind.f64.format.read 4611686018427387904)).map FloatKind.f64.format.write from rfl, h1, r2]
    simp only [Datum.quotient, Format.write, Option.map, Option.getD, l2, hfb]
    rw [if_neg (by omega)]
    simp only []
    have hmore : 52 + 2 + 52 - m.log2 = (54 - m.log2) + 52 := by omega
    rw [Nat.shiftLeft_eq, hmore, Nat.pow_add, ← Nat.mul_assoc, show (2 : Nat) ^ 52 = 4503599627370496 from rfl, Nat.mul_div_cancel _ (by omega), Nat.mul_mod_left]
    rw [dnear _ _ (by omega), show (false ^^ false) = false from rfl, word_f]
    congr 1
    have e0 : ((0 : Nat) != 0).toNat = 0 := rfl
    rw [e0, Nat.add_zero, Nat.mul_comm 2, Nat.mul_assoc, Nat.mul_assoc, ← Nat.pow_succ', ← Nat.pow_add]
    congr 2
    omega
  · rw [h2, Nat.mul_comm 2, Nat.mul_assoc, ← Nat.pow_succ, show (e - 1).succ = e by omega]
end Go.Proofs.Ytemnjphnhmbddaa
