/- Floating point, third part: which words are equal; what 'sameFloat' tells of two narrow words. -/
import Derived.Test.YtnahhdnkbbdceaaF2
namespace Go.Proofs.Ytnahhdnkbbdceaa
open Ieee

theorem bin32 : FloatKind.f32.format.binade = 8388608 := by decide +kernel
theorem least32 : FloatKind.f32.format.leastPlace = -149 := by decide +kernel

/-- the size of a narrow word's number, in units of 2^-149 -/
def rungVal (r : Nat) : Nat := if r < 8388608 then r else (8388608 + r % 8388608) * 2 ^ (r / 8388608 - 1)

theorem rungVal_lt {r r' : Nat} (h : r < r') : rungVal r < rungVal r' := by
  unfold rungVal
  have m1 := Nat.mod_lt r (show 0 < 8388608 by omega)
  have m2 := Nat.mod_lt r' (show 0 < 8388608 by omega)
  have d1 := Nat.div_add_mod r 8388608
  have d2 := Nat.div_add_mod r' 8388608
  have hp' : 0 < 2 ^ (r' / 8388608 - 1) := Nat.two_pow_pos _
  by_cases h1 : r < 8388608
  · rw [if_pos h1]
    by_cases h2 : r' < 8388608
    · rw [if_pos h2]; exact h
    · rw [if_neg h2]
      have : 8388608 + r' % 8388608 ≤ (8388608 + r' % 8388608) * 2 ^ (r' / 8388608 - 1) := Nat.le_mul_of_pos_right _ hp'
      omega
  · rw [if_neg h1, if_neg (by omega)]
    by_cases he : r / 8388608 = r' / 8388608
    · rw [he]
      exact Nat.mul_lt_mul_of_pos_right (by omega) hp'
    · have hlt : r / 8388608 < r' / 8388608 := by omega
      have e1 : 2 ^ (r / 8388608 - 1) * 2 = 2 ^ (r / 8388608) := by
        rw [← Nat.pow_succ]; congr 1; omega
      calc (8388608 + r % 8388608) * 2 ^ (r / 8388608 - 1) < (8388608 * 2) * 2 ^ (r / 8388608 - 1) := Nat.mul_lt_mul_of_pos_right (by omega) (Nat.two_pow_pos _)
        _ = 8388608 * 2 ^ (r / 8388608) := by rw [Nat.mul_assoc, Nat.mul_comm 2, e1]
        _ ≤ 8388608 * 2 ^ (r' / 8388608 - 1) := Nat.mul_le_mul_left _ (Nat.pow_le_pow_right (by omega) (by omega))
        _ ≤ (8388608 + r' % 8388608) * 2 ^ (r' / 8388608 - 1) := Nat.mul_le_mul_right _ (by omega)

theorem rungVal_inj {r r' : Nat} (h : rungVal r = rungVal r') : r = r' := by
  rcases Nat.lt_trichotomy r r' with c | c | c
  · have := rungVal_lt c; omega
  · exact c
  · have := rungVal_lt c; omega

/-- what a narrow word is read as -/
theorem read32 (b : Nat) : FloatKind.f32.format.read b = .infinity (b / 2147483648 % 2 == 1) ∧ b % 2147483648 = 2139095040 ∨ (∃ t, FloatKind.f32.format.read b = .nan (b / 2147483648 % 2 == 1) t) ∨
    ∃ m i, FloatKind.f32.format.read b = .number (b / 2147483648 % 2 == 1) m i ∧ -149 ≤ i ∧ m * 2 ^ (i + 149).toNat = rungVal (b % 2147483648) ∧ b % 2147483648 < 2139095040 := by
  unfold Format.read
  simp only [bin32, least32, inf32, sign32]
  by_cases h1 : b % 2147483648 < 8388608
  · rw [if_pos h1]
    exact .inr (.inr ⟨_, _, rfl, by omega, by simp [rungVal, h1], by omega⟩)
  · rw [if_neg h1]
    by_cases h2 : b % 2147483648 < 2139095040
    · rw [if_pos h2]
      refine .inr (.inr ⟨_, _, rfl, by omega, ?_, h2⟩)
      unfold rungVal
      rw [if_neg h1]
      congr 2
      omega
    · rw [if_neg h2]
      by_cases h3 : b % 2147483648 = 2139095040
      · rw [if_pos h3]; exact .inl ⟨rfl, h3⟩
      · rw [if_neg h3]; exact .inr (.inl ⟨_, rfl⟩)

/-- Two narrow words that are equal as numbers are the same word, or both are zeros. -/
theorem eq_of_fEq32 {a b : Nat} (ha : a < 4294967296) (hb : b < 4294967296) (h : fEq .f32 a b = true) : a = b ∨ (a % 2147483648 = 0 ∧ b % 2147483648 = 0) := by
  unfold fEq Format.order at h
  have sgn : ∀ x, x < 4294967296 → ∀ y, y < 4294967296 → (x / 2147483648 % 2 == 1) = (y / 2147483648 % 2 == 1) → x % 2147483648 = y % 2147483648 → x = y := by
    intro x hx y hy h1 h2
    have : x / 2147483648 % 2 = y / 2147483648 % 2 := by
      by_cases c : x / 2147483648 % 2 = 1
      · have c' : (y / 2147483648 % 2 == 1) = true := by rw [← h1]; simpa using c
        have : y / 2147483648 % 2 = 1 := by simpa using c'
        omega
      · have c' : (y / 2147483648 % 2 == 1) = false := by rw [← h1]; simpa using c
        have : ¬ (y / 2147483648 % 2 = 1) := by simpa using c'
        omega
    omega
  rcases read32 a with ⟨hr, hi⟩ | ⟨t, hr⟩ | ⟨m, i, hr, h1, h2, h3⟩ <;> rcases read32 b with ⟨hr', hi'⟩ | ⟨t', hr'⟩ | ⟨m', i', hr', h1', h2', h3'⟩ <;> rw [hr, hr'] at h
  · left
    refine sgn a ha b hb ?_ (by omega)
    generalize (a / 2147483648 % 2 == 1) = s at h ⊢
    generalize (b / 2147483648 % 2 == 1) = s' at h ⊢
    cases s <;> cases s' <;> first | rfl | (simp [Datum.order] at h; done) | (revert h; decide)
  · simp [Datum.order] at h
  · generalize (a / 2147483648 % 2 == 1) = s at h
    cases s <;> simp [Datum.order] at h
  · simp [Datum.order] at h
  · simp [Datum.order] at h
  · simp [Datum.order] at h
  · generalize (b / 2147483648 % 2 == 1) = s at h
    cases s <;> simp [Datum.order] at h
  · simp [Datum.order] at h
  · rw [order_number (-149) h1 h1'] at h
    rw [show i - -149 = i + 149 by omega, show i' - -149 = i' + 149 by omega] at h
    have h4 : signed (a / 2147483648 % 2 == 1) m (i + 149).toNat = signed (b / 2147483648 % 2 == 1) m' (i' + 149).toNat := by
      have : compare (signed (a / 2147483648 % 2 == 1) m (i + 149).toNat) (signed (b / 2147483648 % 2 == 1) m' (i' + 149).toNat) = .eq := by simpa using h
      exact Std.compare_eq_iff_eq.1 this
    have e1 : m <<< (i + 149).toNat = rungVal (a % 2147483648) := by rw [Nat.shiftLeft_eq]; exact h2
    have e2 : m' <<< (i' + 149).toNat = rungVal (b % 2147483648) := by rw [Nat.shiftLeft_eq]; exact h2'
    unfold signed at h4
    rw [e1, e2] at h4
    by_cases hs : (a / 2147483648 % 2 == 1) = (b / 2147483648 % 2 == 1)
    · left
      refine sgn a ha b hb hs (rungVal_inj ?_)
      rw [hs] at h4
      split at h4 <;> omega
    · right
      have z : rungVal (a % 2147483648) = 0 ∧ rungVal (b % 2147483648) = 0 := by
        generalize (a / 2147483648 % 2 == 1) = s at h4 hs
        generalize (b / 2147483648 % 2 == 1) = s' at h4 hs
        cases s <;> cases s' <;> simp at hs h4 <;> omega
      have r0 : rungVal 0 = 0 := by decide
      exact ⟨rungVal_inj (by rw [r0]; exact z.1), rungVal_inj (by rw [r0]; exact z.2)⟩

theorem fEq32_zero {a : Nat} (h : a % 2147483648 = 0) (b : Nat) (hb : b % 2147483648 = 0) : fEq .f32 a b = true := by
  unfold fEq Format.order Format.read
  simp only [bin32, least32, inf32, sign32, h, hb]
  simp [Datum.order, signed]

/-- The test of 'sameFloat', over wide words. -/
def sameF (a b : Nat) : Bool :=
  if !(fEq .f64 a a) || !(fEq .f64 b b) then !(fEq .f64 a a) && !(fEq .f64 b b)
  else if fEq .f64 a 0 && fEq .f64 b 0 then fGt .f64 (fop .quo .f64 4607182418800017408 a) 0 == fGt .f64 (fop .quo .f64 4607182418800017408 b) 0
  else fEq .f64 a b

theorem sameF_wide {a b : Nat} (ha : a < 4294967296) (hb : b < 4294967296) : sameF (wide a) (wide b) = (cn .f32 a == cn .f32 b) := by
  unfold sameF
  have w0 : (0 : Nat) = wide 0 := by decide +kernel
  rw [fEq_self, fEq_self, isNaN_wide, isNaN_wide]
  cases na : isNaN .f32 a <;> cases nb : isNaN .f32 b
  · simp only [Bool.not_not, Bool.or_self, Bool.false_eq_true, if_false]
    rw [cn_of_not na, cn_of_not nb, fEq_wide]
    have hz : ∀ x, x < 4294967296 → isNaN .f32 x = false → (fEq .f64 (wide x) 0 = true ↔ x = 0 ∨ x = 2147483648) := by
      intro x hx hn
      conv => lhs; rw [w0]
      rw [fEq_wide]
      constructor
      · intro h
        rcases eq_of_fEq32 hx (by omega) h with h | h <;> omega
      · intro h
        exact fEq32_zero (by omega) 0 (by omega)
    by_cases hza : fEq .f64 (wide a) 0 = true
    · by_cases hzb : fEq .f64 (wide b) 0 = true
      · simp only [hza, hzb, Bool.and_self, if_true]
        rcases (hz a ha na).1 hza with rfl | rfl <;> rcases (hz b hb nb).1 hzb with rfl | rfl <;> decide +kernel
      · have hzb' : fEq .f64 (wide b) 0 = false := by simpa using hzb
        simp only [hza, hzb', Bool.and_false, Bool.false_eq_true, if_false]
        have hne : ¬ (a = b) := fun e => hzb (e ▸ hza)
        have : fEq .f32 a b = false := by
          cases h : fEq .f32 a b
          · rfl
          · exfalso
            rcases eq_of_fEq32 ha hb h with h | h
            · exact hne h
            · exact hzb ((hz b hb nb).2 (by omega))
        rw [this]; simp [hne]
    · have hza' : fEq .f64 (wide a) 0 = false := by simpa using hza
      simp only [hza', Bool.false_and, Bool.false_eq_true, if_false]
      cases h : fEq .f32 a b
      · have hne : ¬ (a = b) := fun e => by subst e; rw [fEq_self, na] at h; cases h
        simp [hne]
      · rcases eq_of_fEq32 ha hb h with h | h
        · simp [h]
        · exact absurd ((hz a ha na).2 (by omega)) hza
  · have : ¬ (cn .f32 a = cn .f32 b) := fun e => by
      have h1 := isNaN_cn .f32 a
      have h2 := isNaN_cn .f32 b
      rw [e] at h1; rw [h1] at h2; rw [na, nb] at h2; cases h2
    simp [this]
  · have : ¬ (cn .f32 a = cn .f32 b) := fun e => by
      have h1 := isNaN_cn .f32 a
      have h2 := isNaN_cn .f32 b
      rw [e] at h1; rw [h1] at h2; rw [na, nb] at h2; cases h2
    simp [this]
  · simp [cn, na, nb]

end Go.Proofs.Ytnahhdnkbbdceaa
