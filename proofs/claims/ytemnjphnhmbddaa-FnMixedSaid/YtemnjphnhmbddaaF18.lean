/- Floating point, eighteenth part: the gain of a loop (1 - e + e * e / 2 in binary64, then binary32): bounds; it grows with the tail. -/
import Derived.Test.YtemnjphnhmbddaaF17
set_option linter.unusedVariables false
set_option linter.unusedSimpArgs false
namespace Go.Proofs.Ytemnjphnhmbddaa
open Ieee

def gE (n t : Nat) : Nat := fop .quo .f64 (fop .mul .f64 4619463459138379574 (FloatKind.f64.nearest ((n : Nat) : Int))) (wide t)
def gS (e : Nat) : Nat := fop .add .f64 (fop .sub .f64 4607182418800017408 e) (fop .quo .f64 (fop .mul .f64 e e) 4611686018427387904)
def gN (e : Nat) : Nat := rungOf (dV (gS e))
def gF (n t : Nat) : Nat := if fGt .f64 (gE n t) 4607182418800017408 then 0 else gN (gE n t)

theorem one_dR {K : Nat} (hK : K = 1074) : dR (2 ^ K) = 4607182418800017408 := by subst hK; decide +kernel
theorem one_dV {K : Nat} (hK : K = 1074) : dV 4607182418800017408 = 2 ^ K := by subst hK; decide +kernel
theorem low_dV {K : Nat} (hK : K = 1061) : dV (dR (2 ^ K)) = 2 ^ K := by subst hK; decide +kernel
theorem low_dV2 {K : Nat} (hK : K = 1048) : dV (dR (2 ^ K)) = 2 ^ K := by subst hK; decide +kernel
theorem one_rung {K : Nat} (hK : K = 1074) : rungOf (2 ^ K) = 1065353216 := by subst hK; decide +kernel

/-- the parts of the gain -/
theorem gain_parts {x K L : Nat} (hK : K = 1074) (hL : L = 1061) (h1 : x ≤ 4607182418800017408) (h2 : 2 ^ L ≤ dV x) : ∃ A B H Q e, e = 2 ^ (K - 54) ∧ gS x = dR (A + B) ∧ A ≤ 2 ^ K - dV x + e ∧ 2 ^ K - dV x ≤ A + e ∧ B ≤ H + e ∧ H ≤ B + e ∧ 2 * H ≤ Q + e ∧ Q ≤ 2 * H + e ∧ Q * 2 ^ K = dV x * dV x ∧ dV x ≤ 2 ^ K := by
  have hv : dV x ≤ 2 ^ K := one_dV hK ▸ dV_le h1
  obtain ⟨e, he⟩ : ∃ e, e = 2 ^ (K - 54) := ⟨_, rfl⟩
  obtain ⟨Q, q1, q2⟩ := sq_d (x := x) (K := L) (J := K) (by omega) (by omega) hK h2
  have hQ : Q ≤ dV x := by
    have : Q * 2 ^ K ≤ dV x * 2 ^ K := by rw [q2]; exact Nat.mul_le_mul_left _ hv
    exact Nat.le_of_mul_le_mul_right this (Nat.two_pow_pos _)
  have hQK : Q ≤ 2 ^ K := Nat.le_trans hQ hv
  obtain ⟨J, hJ⟩ : ∃ J : Nat, J = 1048 := ⟨_, rfl⟩
  have hQl : 2 ^ J ≤ Q := by
    have h3 : 2 ^ J * 2 ^ K ≤ Q * 2 ^ K := by
      rw [q2, ← Nat.pow_add, show J + K = L + L by omega, Nat.pow_add]
      exact Nat.mul_le_mul h2 h2
    exact Nat.le_of_mul_le_mul_right h3 (Nat.two_pow_pos _)
  have b2 : dR Q ≤ 4607182418800017408 := one_dR hK ▸ dR_mono hQK
  have b3 : 2 ^ J ≤ dV (dR Q) := by
    rw [← low_dV2 hJ]; exact dV_le (dR_mono hQl)
  obtain ⟨H, g1, g2⟩ := half_d (x := dR Q) (K := J) (by omega) (by omega) b3
  have eQ := dR_err hK he hQK
  have hHK : H ≤ 2 ^ K := by
    have : dV (dR Q) ≤ 2 ^ K := by rw [← one_dV hK]; exact dV_le b2
    omega
  have eH := dR_err hK he hHK
  have b4 : dR H ≤ 4607182418800017408 := one_dR hK ▸ dR_mono hHK
  have hA : 2 ^ K - dV x ≤ 2 ^ K := Nat.sub_le _ _
  have eA := dR_err hK he hA
  have b5 : dR (2 ^ K - dV x) ≤ 4607182418800017408 := one_dR hK ▸ dR_mono hA
  refine ⟨dV (dR (2 ^ K - dV x)), dV (dR H), H, Q, e, he, ?_, eA.1, eA.2, eH.1, eH.2, by omega, by omega, q2, hv⟩
  unfold gS
  rw [q1, g1, sub_d (by omega) (by omega) h1, one_dV hK, add_d (by omega) (by omega)]
theorem sq_le {Q V M : Nat} (h : Q * M = V * V) (hV : V ≤ M) (hM : 0 < M) : Q ≤ V := by
  have : Q * M ≤ V * M := by rw [h]; exact Nat.mul_le_mul_left _ hV
  exact Nat.le_of_mul_le_mul_right this hM
theorem gS_le {x K L : Nat} (hK : K = 1074) (hL : L = 1061) (h1 : x ≤ 4607182418800017408) (h2 : 2 ^ L ≤ dV x) : gS x ≤ 4607182418800017408 := by
  obtain ⟨A, B, H, Q, e, he, hs, a1, a2, b1, b2, c1, c2, q, hv⟩ := gain_parts hK hL h1 h2
  have hQ := sq_le q hv (Nat.two_pow_pos _)
  have h3 : 32 * e ≤ 2 ^ L := by
    rw [he, show (32 : Nat) = 2 ^ 5 from rfl, ← Nat.pow_add]
    exact Nat.pow_le_pow_right (by omega) (by omega)
  rw [hs, ← one_dR hK]
  refine dR_mono ?_
  generalize 2 ^ K = M at *
  generalize 2 ^ L = N at *
  omega
theorem gS_mono {x y K L : Nat} (hK : K = 1074) (hL : L = 1061) (h1 : x ≤ 4607182418800017408) (hy : y ≤ 4607182418800017408) (h2 : 2 ^ L ≤ dV y) (hxy : dV x = 2 * dV y) : gS x ≤ gS y := by
  obtain ⟨A, B, H, Q, e, he, hs, a1, a2, b1, b2, c1, c2, q, hv⟩ := gain_parts hK hL h1 (by omega)
  obtain ⟨A', B', H', Q', e', he', hs', a1', a2', b1', b2', c1', c2', q', hv'⟩ := gain_parts hK hL hy h2
  have ee : e' = e := by rw [he, he']
  subst ee
  have h3 : 32 * e' ≤ 2 ^ L := by
    rw [he, show (32 : Nat) = 2 ^ 5 from rfl, ← Nat.pow_add]
    exact Nat.pow_le_pow_right (by omega) (by omega)
  have hM : 0 < 2 ^ K := Nat.two_pow_pos _
  clear he he'
  have hQ : Q = 4 * Q' := by
    have : Q * 2 ^ K = 4 * Q' * 2 ^ K := by
      rw [q, hxy, Nat.mul_assoc 4, q', Nat.mul_mul_mul_comm]
    exact Nat.eq_of_mul_eq_mul_right hM this
  have hQ' : 2 * Q' ≤ dV y := by
    have : 2 * Q' * 2 ^ K ≤ dV y * 2 ^ K := by
      rw [Nat.mul_assoc, q', ← Nat.mul_assoc, ← hxy, Nat.mul_comm]
      exact Nat.mul_le_mul_left _ hv
    exact Nat.le_of_mul_le_mul_right this hM
  rw [hs, hs']
  refine dR_mono ?_
  clear q q' hs hs'
  generalize 2 ^ K = M at *
  generalize 2 ^ L = N at *
  omega
theorem gN_le {x K L : Nat} (hK : K = 1074) (hL : L = 1061) (h1 : x ≤ 4607182418800017408) (h2 : 2 ^ L ≤ dV x) : gN x ≤ 1065353216 := by
  unfold gN
  rw [← one_rung hK, ← one_dV hK]
  exact rungOf_mono (dV_le (gS_le hK hL h1 h2))
theorem gN_narrow {x K L : Nat} (hK : K = 1074) (hL : L = 1061) (h1 : x ≤ 4607182418800017408) (h2 : 2 ^ L ≤ dV x) : Narrows (gS x) (gN x) := by
  have hs := gS_le hK hL h1 h2
  have hn := gN_le hK hL h1 h2
  obtain ⟨c, e, r1, r2, _⟩ := dread (b := gS x) (by omega)
  refine .inr (narrow_of_read r1 ?_ (not_inf (by omega)))
  rw [nearest_spec _ _ (by omega), show ((e : Int) - 1074 + 1074).toNat = e by omega, ← r2]
  exact word_pos _ (by unfold gN at hn; omega)
/-- a quotient, and the same by twice the divisor -/
theorem quo_d {X T T2 L : Nat} (hL : L = 1061) (hX : 4616189618054758400 ≤ X ∧ X ≤ 4656722014701092864) (hT : 4607182418800017408 ≤ T ∧ T ≤ 4665729213955833856) (h2 : T2 = T + 4503599627370496) : ∃ W, fop .quo .f64 X T = dR (2 * W) ∧ fop .quo .f64 X T2 = dR W ∧ 2 ^ L ≤ W ∧ W < 2 ^ (L + 50) := by
  obtain ⟨m, e, h1, _, h3, h4, h5⟩ := dread (b := X) (by omega)
  obtain ⟨n, f, g1, _, g3, g4, g5⟩ := dread (b := T) (by omega)
  obtain ⟨n2, f2, k1, _, k3, k4, k5⟩ := dread (b := T2) (by omega)
  have hm : 4503599627370496 ≤ m := by omega
  have hn : 4503599627370496 ≤ n := by omega
  have e1 : n2 = n ∧ f2 = f + 1 := by omega
  obtain ⟨rfl, rfl⟩ := e1
  have p52 : (2 : Nat) ^ 52 = 4503599627370496 := rfl
  have p53 : (2 : Nat) ^ (52 + 1) = 9007199254740992 := rfl
  have lm : m.log2 = 52 := log2_of (by omega) (by omega)
  have ln : n2.log2 = 52 := log2_of (by omega) (by omega)
  have hfb : FloatKind.f64.format.fractionBits = 52 := rfl
  obtain ⟨q, hq⟩ : ∃ q, q = 2 * (m * 2 ^ 54 / n2) + (m * 2 ^ 54 % n2 != 0).toNat := ⟨_, rfl⟩
  have q1 : 2 ^ 53 ≤ m * 2 ^ 54 / n2 := by
    rw [Nat.le_div_iff_mul_le (by omega)]
    have a := Nat.mul_le_mul_left (2 ^ 53) (Nat.le_of_lt g4)
    have b := Nat.mul_le_mul_right (2 ^ 54) hm
    exact Nat.le_trans a (Nat.le_trans (by decide +kernel : 2 ^ 53 * 9007199254740992 ≤ 4503599627370496 * 2 ^ 54) b)
  have q2 : m * 2 ^ 54 / n2 < 2 ^ 56 := by
    rw [Nat.div_lt_iff_lt_mul (by omega)]
    have a := Nat.mul_le_mul_left (2 ^ 56) hn
    have b := Nat.mul_lt_mul_of_pos_right h4 (show 0 < 2 ^ 54 by decide +kernel)
    exact Nat.lt_of_lt_of_le b (Nat.le_trans (by decide +kernel : 9007199254740992 * 2 ^ 54 ≤ 2 ^ 56 * 4503599627370496) a)
  have qb : (m * 2 ^ 54 % n2 != 0).toNat ≤ 1 := by cases (m * 2 ^ 54 % n2 != 0) <;> simp
  have w1 : 2 ^ 54 ≤ q := by rw [hq]; omega
  have w2 : q < 2 ^ 58 := by rw [hq]; omega
  refine ⟨q * 2 ^ (e + 1018 - f), ?_, ?_, ?_, ?_⟩
  · unfold fop
    rw [show floatBits .quo .f64 X T = ((FloatKind.f64.format.read X).quotient (FloatKind.f64.format.fractionBits + 2) (FloatKind.f64.format.read T)).map FloatKind.f64.format.write from rfl, h1, g1]
    simp only [Datum.quotient, Format.write, Option.map, Option.getD, lm, ln, hfb]
    rw [if_neg (by omega)]
    simp only []
    rw [show 52 + 2 + 52 - 52 = 54 from rfl, Nat.shiftLeft_eq, ← hq, dnear _ _ (by omega), show (false ^^ false) = false from rfl, word_f]
    congr 1
    rw [Nat.mul_comm 2, Nat.mul_assoc, ← Nat.pow_succ]
    congr 2
    omega
  · unfold fop
    rw [show floatBits .quo .f64 X T2 = ((FloatKind.f64.format.read X).quotient (FloatKind.f64.format.fractionBits + 2) (FloatKind.f64.format.read T2)).map FloatKind.f64.format.write from rfl, h1, k1]
    simp only [Datum.quotient, Format.write, Option.map, Option.getD, lm, ln, hfb]
    rw [if_neg (by omega)]
    simp only []
    rw [show 52 + 2 + 52 - 52 = 54 from rfl, Nat.shiftLeft_eq, ← hq, dnear _ _ (by omega), show (false ^^ false) = false from rfl, word_f]
    congr 2
    congr 1
    omega
  · refine Nat.le_trans ?_ (Nat.mul_le_mul_right _ w1)
    rw [← Nat.pow_add]
    exact Nat.pow_le_pow_right (by omega) (by omega)
  · refine Nat.lt_of_lt_of_le (Nat.mul_lt_mul_of_pos_right w2 (Nat.two_pow_pos _)) ?_
    rw [← Nat.pow_add]
    exact Nat.pow_le_pow_right (by omega) (by omega)
end Go.Proofs.Ytemnjphnhmbddaa
