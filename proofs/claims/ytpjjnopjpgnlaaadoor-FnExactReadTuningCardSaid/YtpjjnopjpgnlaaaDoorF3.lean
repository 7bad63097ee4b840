/- Floating point, third part: which words are equal; what 'sameFloat' tells of two narrow words. -/
import Derived.Test.YtpjjnopjpgnlaaaDoorF2
namespace Go.Proofs.YtpjjnopjpgnlaaaDoor
open Ieee

theorem bin32 : FloatKind.f32.format.binade = 8388608 := by decide +kernel
theorem least32 : FloatKind.f32.format.leastPlace = -149 := by decide +kernel

/-- the size of a narrow word's number, in units of 2^-149 -/
def rungVal (r : Nat) : Nat := if r < 8388608 then r else (8388608 + r % 8388608) * 2 ^ (r / 8388608 - 1)

theorem rungVal_lt {r r' : Nat} (h : r < r') : rungVal r < rungVal r' := by
  unfold rungVal
  have m1 := Nat.mod_lt r (show 0 < 8388608 by omega)
  have m2 := Nat.mod_lt r' (show 0 < 8388608 by omega)
  have d1 := Nat.div_add_mod r 8388608
  have d2 := Nat.div_add_mod r' 8388608
  have hp' : 0 < 2 ^ (r' / 8388608 - 1) := Nat.two_pow_pos _
  by_cases h1 : r < 8388608
  · rw [if_pos h1]
    by_cases h2 : r' < 8388608
    · rw [if_pos h2]; exact h
    · rw [if_neg h2]
      have : 8388608 + r' % 8388608 ≤ (8388608 + r' % 8388608) * 2 ^ (r' / 8388608 - 1) := Nat.le_mul_of_pos_right _ hp'
      omega
  · rw [if_neg h1, if_neg (by omega)]
    by_cases he : r / 8388608 = r' / 8388608
    · rw [he]
      exact Nat.mul_lt_mul_of_pos_right (by omega) hp'
    · have hlt : r / 8388608 < r' / 8388608 := by omega
      have e1 : 2 ^ (r / 8388608 - 1) * 2 = 2 ^ (r / 8388608) := by
        rw [← Nat.pow_succ]; congr 1; omega
      calc (8388608 + r % 8388608) * 2 ^ (r / 8388608 - 1) < (8388608 * 2) * 2 ^ (r / 8388608 - 1) := Nat.mul_lt_mul_of_pos_right (by omega) (Nat.two_pow_pos _)
        _ = 8388608 * 2 ^ (r / 8388608) := by rw [Nat.mul_assoc, Nat.mul_comm 2, e1]
        _ ≤ 8388608 * 2 ^ (r' / 8388608 - 1) := Nat.mul_le_mul_left _ (Nat.pow_le_pow_right (by omega) (by omega))
        _ ≤ (8388608 + r' % 8388608) * 2 ^ (r' / 8388608 - 1) := Nat.mul_le_mul_right _ (by omega)

theorem rungVal_inj {r r' : Nat} (h : rungVal r = rungVal r') : r = r' := by
  rcases Nat.lt_trichotomy r r' with c | c | c
  · have := rungVal_lt c; omega
  · exact c
  · have := rungVal_lt c; omega

/-- what a narrow word is read as -/
theorem read32 (b : Nat) : FloatKind.f32.format.read b = .infinity (b / 2147483648 % 2 == 1) ∧ b % 2147483648 = 2139095040 ∨ (∃ t, FloatKind.f32.format.read b = .nan (b / 2147483648 % 2 == 1) t) ∨
    ∃ m i, FloatKind.f32.format.read b = .number (b / 2147483648 % 2 == 1) m i ∧ -149 ≤ i ∧ m * 2 ^ (i + 149).toNat = rungVal (b % 2147483648) ∧ b % 2147483648 < 2139095040 := by
  unfold Format.read
  simp only [bin32, least32, inf32, sign32]
  by_cases h1 : b % 2147483648 < 8388608
  · rw [if_pos h1]
    exact .inr (.inr ⟨_, _, rfl, by omega, by simp [rungVal, h1], by omega⟩)
  · rw [if_neg h1]
    by_cases h2 : b % 2147483648 < 2139095040
    · rw [if_pos h2]
      refine .inr (.inr ⟨_, _, rfl, by omega, ?_, h2⟩)
      unfold rungVal
      rw [if_neg h1]
      congr 2
      omega
    · rw [if_neg h2]
      by_cases h3 : b % 2147483648 = 2139095040
      · rw [if_pos h3]; exact .inl ⟨rfl, h3⟩
      · rw [if_neg h3]; exact .inr (.inl ⟨_, rfl⟩)

/-- The test of 'sameFloat', over wide words. -/
def sameF (a b : Nat) : Bool :=
  if !(fEq .f64 a a) || !(fEq .f64 b b) then !(fEq .f64 a a) && !(fEq .f64 b b)
  else if fEq .f64 a 0 && fEq .f64 b 0 then fGt .f64 (fop .quo .f64 4607182418800017408 a) 0 == fGt .f64 (fop .quo .f64 4607182418800017408 b) 0
  else fEq .f64 a b

end Go.Proofs.YtpjjnopjpgnlaaaDoor
