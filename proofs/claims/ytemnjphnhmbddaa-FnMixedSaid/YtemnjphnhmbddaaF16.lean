/- Floating point, sixteenth part: positive numbers of binary64; what is rounded, told by one monotone function of the exact value. -/
import Derived.Test.YtemnjphnhmbddaaF13
set_option linter.unusedVariables false
set_option linter.unusedSimpArgs false
namespace Go.Proofs.Ytemnjphnhmbddaa
open Ieee

theorem bin64 : FloatKind.f64.format.binade = 4503599627370496 := by decide +kernel
theorem least64 : FloatKind.f64.format.leastPlace = -1074 := by decide +kernel

/-- the rung of the number of binary64 that is nearest to `V` times `2 ^ -1074` -/
def dR (V : Nat) : Nat := if V = 0 then 0 else min ((V.log2 - 52) * 4503599627370496 + rnd V (V.log2 - 52)) 9218868437227405312
theorem dnear (s : Bool) (m : Nat) {i : Int} (hi : -1074 ≤ i) : FloatKind.f64.format.nearest s m i = FloatKind.f64.format.word s (dR (m * 2 ^ (i + 1074).toNat)) := by
  unfold dR
  rcases Nat.eq_zero_or_pos m with h0 | h0
  · subst h0
    rw [Nat.zero_mul, if_pos rfl]
    unfold Format.nearest; rw [if_pos rfl]
  obtain ⟨a, ha⟩ : ∃ a : Nat, i = (a : Int) - 1074 := ⟨(i + 1074).toNat, by omega⟩
  have ha' : (i + 1074).toNat = a := by omega
  rw [ha']
  have hpa := Nat.two_pow_pos a
  have hV : 0 < m * 2 ^ a := Nat.mul_pos h0 hpa
  have hlog : (m * 2 ^ a).log2 = m.log2 + a := log2_shift (Nat.pos_iff_ne_zero.1 h0)
  rw [if_neg (by omega), hlog]
  have hfb : (FloatKind.f64.format.fractionBits : Int) = 52 := rfl
  unfold Format.nearest
  rw [if_neg (Nat.pos_iff_ne_zero.1 h0)]
  simp only [least64, bin64, inf64, hfb]
  obtain ⟨E, hE⟩ : ∃ E : Nat, E = m.log2 + a - 52 := ⟨_, rfl⟩
  have hE' : max (i + (m.log2 : Int) - 52) (-1074) = (E : Int) - 1074 := by omega
  rw [hE', ← hE]
  have hEn : ((E : Int) - 1074 - -1074).toNat = E := by omega
  have hup : (i - ((E : Int) - 1074)).toNat = a - E := by omega
  have hdn : ((E : Int) - 1074 - i).toNat = E - a := by omega
  rw [hEn, hup, hdn, Nat.shiftLeft_eq, cut_rnd]
  have hk : rnd (m * 2 ^ (a - E)) (E - a) = rnd (m * 2 ^ a) E := by
    rcases Nat.le_total a E with h1 | h1
    · rw [show a - E = 0 by omega, Nat.pow_zero, Nat.mul_one]
      have := rnd_scale m (E - a) a
      rw [show E - a + a = E by omega] at this
      exact this.symm
    · rw [show E - a = 0 by omega, rnd_zero]
      have e : m * 2 ^ a = (m * 2 ^ (a - E)) * 2 ^ E := by
        rw [Nat.mul_assoc, ← Nat.pow_add, show a - E + E = a by omega]
      rw [e, rnd_exact]
  rw [hk]
theorem dk_lt {V W E F : Nat} (h1 : V < 2 ^ (E + 53)) (h2 : 2 ^ (F + 52) ≤ W) (c : E < F) : E * 4503599627370496 + rnd V E ≤ F * 4503599627370496 + rnd W F := by
  have k1 : rnd V E ≤ 9007199254740992 := by
    refine rnd_le ?_
    rw [Nat.pow_add, Nat.mul_comm] at h1
    exact Nat.le_of_lt h1
  have k2 : 4503599627370496 ≤ rnd W F := by
    refine rnd_ge ?_
    rw [Nat.pow_add, Nat.mul_comm] at h2
    exact h2
  omega
theorem dR_mono {V W : Nat} (h : V ≤ W) : dR V ≤ dR W := by
  unfold dR
  rcases Nat.eq_zero_or_pos V with h0 | h0
  · rw [if_pos h0]; exact Nat.zero_le _
  have h1 : 0 < W := by omega
  rw [if_neg (Nat.pos_iff_ne_zero.1 h0), if_neg (Nat.pos_iff_ne_zero.1 h1)]
  obtain ⟨a1, a2⟩ := log2_bounds (Nat.pos_iff_ne_zero.1 h0)
  obtain ⟨b1, b2⟩ := log2_bounds (Nat.pos_iff_ne_zero.1 h1)
  have hl : V.log2 ≤ W.log2 := by
    rcases Nat.lt_or_ge W.log2 V.log2 with c | c
    · have : 2 ^ (W.log2 + 1) ≤ 2 ^ V.log2 := Nat.pow_le_pow_right (by omega) c
      omega
    · exact c
  obtain ⟨E, hE⟩ : ∃ E : Nat, E = V.log2 - 52 := ⟨_, rfl⟩
  obtain ⟨F, hF⟩ : ∃ F : Nat, F = W.log2 - 52 := ⟨_, rfl⟩
  rw [← hE, ← hF]
  have key : E * 4503599627370496 + rnd V E ≤ F * 4503599627370496 + rnd W F := by
    rcases Nat.lt_or_ge E F with c | c
    · exact dk_lt (Nat.lt_of_lt_of_le a2 (Nat.pow_le_pow_right (by omega) (by omega))) (Nat.le_trans (Nat.pow_le_pow_right (by omega) (by omega)) b1) c
    · have e : E = F := by omega
      rw [e]
      exact Nat.add_le_add_left (rnd_mono _ h) _
  exact Nat.le_min.2 ⟨Nat.le_trans (Nat.min_le_left _ _) key, Nat.min_le_right _ _⟩

/-- the number of a rung of binary64, in units of 2^-1074 -/
def dV (r : Nat) : Nat := if r < 4503599627370496 then r else (4503599627370496 + r % 4503599627370496) * 2 ^ (r / 4503599627370496 - 1)
theorem dV_lt {r r' : Nat} (h : r < r') : dV r < dV r' := by
  unfold dV
  have m1 := Nat.mod_lt r (show 0 < 4503599627370496 by omega)
  have m2 := Nat.mod_lt r' (show 0 < 4503599627370496 by omega)
  have d1 := Nat.div_add_mod r 4503599627370496
  have d2 := Nat.div_add_mod r' 4503599627370496
  have hp' : 0 < 2 ^ (r' / 4503599627370496 - 1) := Nat.two_pow_pos _
  by_cases h1 : r < 4503599627370496
  · rw [if_pos h1]
    by_cases h2 : r' < 4503599627370496
    · rw [if_pos h2]; exact h
    · rw [if_neg h2]
      have : 4503599627370496 + r' % 4503599627370496 ≤ (4503599627370496 + r' % 4503599627370496) * 2 ^ (r' / 4503599627370496 - 1) := Nat.le_mul_of_pos_right _ hp'
      omega
  · rw [if_neg h1, if_neg (by omega)]
    by_cases he : r / 4503599627370496 = r' / 4503599627370496
    · rw [he]
      exact Nat.mul_lt_mul_of_pos_right (by omega) hp'
    · have hlt : r / 4503599627370496 < r' / 4503599627370496 := by omega
      have e1 : 2 ^ (r / 4503599627370496 - 1) * 2 = 2 ^ (r / 4503599627370496) := by
        rw [← Nat.pow_succ]; congr 1; omega
      calc (4503599627370496 + r % 4503599627370496) * 2 ^ (r / 4503599627370496 - 1) < (4503599627370496 * 2) * 2 ^ (r / 4503599627370496 - 1) := Nat.mul_lt_mul_of_pos_right (by omega) (Nat.two_pow_pos _)
        _ = 4503599627370496 * 2 ^ (r / 4503599627370496) := by rw [Nat.mul_assoc, Nat.mul_comm 2, e1]
        _ ≤ 4503599627370496 * 2 ^ (r' / 4503599627370496 - 1) := Nat.mul_le_mul_left _ (Nat.pow_le_pow_right (by omega) (by omega))
        _ ≤ (4503599627370496 + r' % 4503599627370496) * 2 ^ (r' / 4503599627370496 - 1) := Nat.mul_le_mul_right _ (by omega)
theorem dV_le {r r' : Nat} (h : r ≤ r') : dV r ≤ dV r' := by
  rcases Nat.lt_or_eq_of_le h with c | c
  · exact Nat.le_of_lt (dV_lt c)
  · rw [c]; exact Nat.le_refl _
/-- a rung that is a binade and a significand -/
theorem dV_mk {d k : Nat} (h1 : d = 0 ∨ 4503599627370496 ≤ k) (h2 : k ≤ 9007199254740992) : dV (d * 4503599627370496 + k) = k * 2 ^ d := by
  unfold dV
  rcases Nat.lt_or_ge k 4503599627370496 with c | c
  · have hd : d = 0 := by omega
    subst hd
    rw [Nat.zero_mul, Nat.zero_add, if_pos c, Nat.pow_zero, Nat.mul_one]
  · rw [if_neg (by omega)]
    rcases Nat.lt_or_eq_of_le h2 with c2 | c2
    · have e1 : (d * 4503599627370496 + k) % 4503599627370496 = k - 4503599627370496 := by omega
      have e2 : (d * 4503599627370496 + k) / 4503599627370496 - 1 = d := by omega
      rw [e1, e2, show 4503599627370496 + (k - 4503599627370496) = k by omega]
    · have e1 : (d * 4503599627370496 + k) % 4503599627370496 = 0 := by omega
      have e2 : (d * 4503599627370496 + k) / 4503599627370496 - 1 = d + 1 := by omega
      rw [e1, e2, c2, Nat.pow_succ, Nat.add_zero, show (9007199254740992 : Nat) = 4503599627370496 * 2 from rfl, Nat.mul_assoc, Nat.mul_comm 2]
/-- what a positive word is read as -/
theorem dread {b : Nat} (hb : b < 9218868437227405312) : ∃ (c e : Nat), FloatKind.f64.format.read b = .number false c ((e : Int) - 1074) ∧ dV b = c * 2 ^ e ∧ e * 4503599627370496 + c = b ∧ c < 9007199254740992 ∧ (e = 0 ∨ 4503599627370496 ≤ c) := by
  unfold Format.read dV
  simp only [bin64, least64, inf64, sign64]
  have hs : (b / 9223372036854775808 % 2 == 1) = false := by
    rw [Nat.div_eq_of_lt (by omega)]; rfl
  have hm : b % 9223372036854775808 = b := Nat.mod_eq_of_lt (by omega)
  rw [hs, hm]
  by_cases h : b < 4503599627370496
  · rw [if_pos h, if_pos h]; exact ⟨b, 0, rfl, by simp, by omega, by omega, .inl rfl⟩
  · rw [if_neg h, if_neg h, if_pos hb]
    refine ⟨4503599627370496 + b % 4503599627370496, b / 4503599627370496 - 1, ?_, rfl, ?_, ?_, .inr (Nat.le_add_right _ _)⟩
    · congr 1
    · omega
    · have := Nat.mod_lt b (show 0 < 4503599627370496 by omega); omega
/-- rounding's error, below 1 -/
theorem rnd_err (n d : Nat) : 2 * (rnd n d * 2 ^ d) ≤ 2 * n + 2 ^ d ∧ 2 * n ≤ 2 * (rnd n d * 2 ^ d) + 2 ^ d := by
  unfold rnd
  have h := Nat.div_add_mod n (2 ^ d)
  have h2 := Nat.mod_lt n (Nat.two_pow_pos d)
  rw [Nat.mul_comm] at h
  generalize 2 ^ d = g at *
  rw [Nat.add_mul]
  split <;> omega
theorem dV_dR {V : Nat} (h0 : V ≠ 0) (h : V.log2 ≤ 2000) : dR V = (V.log2 - 52) * 4503599627370496 + rnd V (V.log2 - 52) ∧ dV (dR V) = rnd V (V.log2 - 52) * 2 ^ (V.log2 - 52) := by
  obtain ⟨a1, a2⟩ := log2_bounds h0
  have k1 : rnd V (V.log2 - 52) ≤ 9007199254740992 := by
    refine rnd_le ?_
    have : 2 ^ (V.log2 + 1) ≤ 9007199254740992 * 2 ^ (V.log2 - 52) := by
      rw [show (9007199254740992 : Nat) = 2 ^ 53 from rfl, ← Nat.pow_add]
      exact Nat.pow_le_pow_right (by omega) (by omega)
    omega
  have k2 : V.log2 - 52 = 0 ∨ 4503599627370496 ≤ rnd V (V.log2 - 52) := by
    rcases Nat.lt_or_ge V.log2 53 with c | c
    · left; omega
    · right
      refine rnd_ge ?_
      refine Nat.le_trans ?_ a1
      rw [show (4503599627370496 : Nat) = 2 ^ 52 from rfl, ← Nat.pow_add]
      exact Nat.pow_le_pow_right (by omega) (by omega)
  have e : dR V = (V.log2 - 52) * 4503599627370496 + rnd V (V.log2 - 52) := by
    unfold dR
    rw [if_neg h0, Nat.min_eq_left (by omega)]
  exact ⟨e, by rw [e]; exact dV_mk k2 k1⟩
/-- numbers up to 1 are rounded by at most 2^-54 -/
theorem dR_err {V K e : Nat} (hK : K = 1074) (he : e = 2 ^ (K - 54)) (h : V ≤ 2 ^ K) : dV (dR V) ≤ V + e ∧ V ≤ dV (dR V) + e := by
  by_cases h0 : V = 0
  · subst h0
    have : dV (dR 0) = 0 := by decide +kernel
    omega
  obtain ⟨a1, a2⟩ := log2_bounds h0
  have hl : V.log2 ≤ K := by
    rcases Nat.lt_or_ge K V.log2 with c | c
    · have : 2 ^ (K + 1) ≤ 2 ^ V.log2 := Nat.pow_le_pow_right (by omega) c
      have := Nat.pow_lt_pow_right (show 1 < 2 by omega) (show K < K + 1 by omega)
      omega
    · exact c
  rw [(dV_dR h0 (by omega)).2]
  rcases Nat.lt_or_eq_of_le hl with c | c
  · have h1 := rnd_err V (V.log2 - 52)
    have h2 : 2 ^ (V.log2 - 52) ≤ 2 ^ (K - 54 + 1) := Nat.pow_le_pow_right (by omega) (by omega)
    rw [Nat.pow_succ, ← he] at h2
    omega
  · have e1 : V = 2 ^ K := by rw [c] at a1; omega
    have e2 : V = 2 ^ 52 * 2 ^ (V.log2 - 52) := by
      rw [c, ← Nat.pow_add, e1]; congr 1; omega
    have e3 : rnd V (V.log2 - 52) = 2 ^ 52 := by
      have := rnd_exact (2 ^ 52) (V.log2 - 52)
      rw [← e2] at this; exact this
    rw [e3, ← e2]; omega
/-- halves -/
theorem dR_half {W : Nat} (h1 : 4503599627370496 ≤ W) (h2 : W.log2 ≤ 1900) : dV (dR (2 * W)) = 2 * dV (dR W) := by
  have hW : W ≠ 0 := by omega
  have hl : (2 * W).log2 = W.log2 + 1 := by
    have := log2_shift (c := W) (n := 1) hW
    rwa [Nat.pow_one, Nat.mul_comm] at this
  have h52 : 52 ≤ W.log2 := by
    rcases Nat.lt_or_ge W.log2 52 with c | c
    · have := (log2_bounds hW).2
      have h3 : 2 ^ (W.log2 + 1) ≤ 2 ^ 52 := Nat.pow_le_pow_right (by omega) (by omega)
      have h4 : (2 : Nat) ^ 52 = 4503599627370496 := rfl
      omega
    · exact c
  rw [(dV_dR hW (by omega)).2, (dV_dR (V := 2 * W) (by omega) (by omega)).2, hl]
  have e : rnd (2 * W) (W.log2 + 1 - 52) = rnd W (W.log2 - 52) := by
    have := rnd_scale W (W.log2 - 52) 1
    rwa [Nat.pow_one, Nat.mul_comm W, show W.log2 - 52 + 1 = W.log2 + 1 - 52 by omega] at this
  rw [e, show W.log2 + 1 - 52 = (W.log2 - 52) + 1 by omega, Nat.pow_succ]
  generalize rnd W (W.log2 - 52) = u
  generalize 2 ^ (W.log2 - 52) = v
  rw [← Nat.mul_assoc]; omega
end Go.Proofs.Ytemnjphnhmbddaa
