/- Floating point, sixth part: products that are at most a number of the format; sums with 0; what is kept. -/
import Derived.Test.YtemnjphnhmbddaaF5
set_option linter.unusedVariables false
set_option linter.unusedSimpArgs false
set_option maxRecDepth 10000
namespace Go.Proofs.Ytemnjphnhmbddaa
open Ieee

theorem read_fin {s : Nat} (h : s % 2147483648 < 2139095040) : ∃ m i, FloatKind.f32.format.read s = .number (s / 2147483648 % 2 == 1) m i ∧ -149 ≤ i ∧ m * 2 ^ (i + 149).toNat = rungVal (s % 2147483648) := by
  rcases read32 s with ⟨_, hi⟩ | ⟨t, hr⟩ | ⟨m, i, hr, h1, h2, _⟩
  · omega
  · have := isNaN32 s
    rw [isNaN_iff.2 ⟨_, _, hr⟩] at this
    simp at this; omega
  · exact ⟨m, i, hr, h1, h2⟩

theorem word_mod32 (z : Bool) {b : Nat} (h : b < 2139095040) : FloatKind.f32.format.word z b % 2147483648 = b := by
  unfold Format.word; rw [sign32]; cases z <;> simp <;> omega

theorem mul_leS {c s r : Nat} (hc : c % 2147483648 < 2139095040) (hs : s % 2147483648 < 2139095040) (hr : r < 2139095040) (h : rungVal (c % 2147483648) * rungVal (s % 2147483648) ≤ rungVal r * 2 ^ 149) : ∃ b, b ≤ r ∧ fop .mul .f32 c s = FloatKind.f32.format.word ((c / 2147483648 % 2 == 1) ^^ (s / 2147483648 % 2 == 1)) b := by
  obtain ⟨m, i, h1, h2, h3⟩ := read_fin hc
  obtain ⟨n, j, g1, g2, g3⟩ := read_fin hs
  obtain ⟨J, hJ⟩ : ∃ J : Nat, J = 776 := ⟨_, rfl⟩
  obtain ⟨b, hb, e⟩ := nearest_le ((c / 2147483648 % 2 == 1) ^^ (s / 2147483648 % 2 == 1)) hr (K := 149 + J) (by omega) (m := m * n) (i := i + j) (by omega) (by
    have e1 : (i + j + 1074).toNat = (i + 149).toNat + (j + 149).toNat + J := by omega
    rw [e1, Nat.pow_add, Nat.pow_add, Nat.pow_add 2 149 J]
    rw [← h3, ← g3] at h
    generalize (2 : Nat) ^ J = K
    generalize (2 : Nat) ^ 149 = L at h ⊢
    generalize 2 ^ (i + 149).toNat = X at h ⊢
    generalize 2 ^ (j + 149).toNat = Y at h ⊢
    have e2 : m * n * (X * Y * K) = (m * X * (n * Y)) * K := by ac_rfl
    rw [e2, ← Nat.mul_assoc (rungVal r)]
    exact Nat.mul_le_mul_right _ h)
  refine ⟨b, hb, ?_⟩
  have k : floatBits .mul .f32 c s = some (FloatKind.f32.format.nearest ((c / 2147483648 % 2 == 1) ^^ (s / 2147483648 % 2 == 1)) (m * n) (i + j)) := by
    show FloatKind.f32.format.mul c s = _
    unfold Format.mul
    rw [h1, g1]; rfl
  unfold fop
  rw [k, e]; rfl

theorem mul_le {c s r : Nat} (hc : c % 2147483648 < 2139095040) (hs : s % 2147483648 < 2139095040) (hr : r < 2139095040) (h : rungVal (c % 2147483648) * rungVal (s % 2147483648) ≤ rungVal r * 2 ^ 149) : ∃ z b, b ≤ r ∧ fop .mul .f32 c s = FloatKind.f32.format.word z b := by
  obtain ⟨b, h1, h2⟩ := mul_leS hc hs hr h
  exact ⟨_, b, h1, h2⟩

theorem fin_of {s : Nat} (h : s % 2147483648 < 2139095040) : finF s = true := by
  obtain ⟨n, j, g1, g2, g3⟩ := read_fin h
  generalize (s / 2147483648 % 2 == 1) = t at g1
  have k : floatBits .sub .f32 s s = some 0 := by
    show FloatKind.f32.format.sub s s = _
    unfold Format.sub
    rw [g1]
    have e : signed t n (j - min j j).toNat + signed (!t) n (j - min j j).toNat = 0 := by
      unfold signed; cases t <;> simp <;> omega
    simp only [Datum.opposite, Datum.sum, e, Option.map, Format.write]
    cases t <;> rfl
  unfold finF fop
  rw [k]; decide +kernel

theorem of_fin {s : Nat} (h : finF s = true) : s % 2147483648 < 2139095040 := by
  rcases read32 s with ⟨hr, _⟩ | ⟨t, hr⟩ | ⟨m, i, hr, h1, h2, h3⟩
  · exfalso
    generalize (s / 2147483648 % 2 == 1) = t at hr
    have k : floatBits .sub .f32 s s = none := by
      show FloatKind.f32.format.sub s s = _
      unfold Format.sub
      rw [hr]
      cases t <;> rfl
    unfold finF fop at h
    rw [k] at h
    revert h; decide +kernel
  · rw [finF_nan (isNaN_iff.2 ⟨_, _, hr⟩)] at h; cases h
  · exact h3

theorem small_of_lt {s : Nat} (h : s % 2147483648 < 8388608) : smallF s = true := by
  have r : FloatKind.f32.format.read (absF s) = .number false (s % 2147483648) (-149) := by
    unfold Format.read absF
    simp only [bin32, least32, inf32, sign32]
    rw [Nat.mod_mod, if_pos h]
    congr 1
    simp
  have r2 : FloatKind.f32.format.read 8388608 = .number false 8388608 (-149) := by decide +kernel
  unfold smallF fLt Format.order
  rw [r, r2]
  have : compare (signed false (s % 2147483648) ((-149 : Int) - min (-149) (-149)).toNat) (signed false 8388608 ((-149 : Int) - min (-149) (-149)).toNat) = .lt := by
    rw [Std.compare_eq_lt]
    unfold signed; simp; omega
  simp only [Datum.order, this]; rfl

/-- a state: 0, or a number of normal size -/
def GoodS (s : Nat) : Prop := s < 4294967296 ∧ s % 2147483648 < 2139095040 ∧ (s % 2147483648 = 0 ∨ 8388608 ≤ s % 2147483648)
theorem GoodS.zero : GoodS 0 := ⟨by omega, by omega, .inl rfl⟩
theorem GoodS.kept {y : Nat} (h : y < 4294967296) : GoodS (keptF y) ∧ (keptF y = 0 ∨ keptF y = y) := by
  unfold keptF flushF
  by_cases h1 : finF y = true
  · rw [if_pos h1]
    by_cases h2 : smallF y = true
    · rw [if_pos h2]; exact ⟨.zero, .inl rfl⟩
    · rw [if_neg h2]
      refine ⟨⟨h, of_fin h1, .inr ?_⟩, .inr rfl⟩
      rcases Nat.lt_or_ge (y % 2147483648) 8388608 with c | c
      · exact absurd (small_of_lt c) h2
      · exact c
  · rw [if_neg h1]; exact ⟨.zero, .inl rfl⟩

/-- the share of a state that is kept: `d` 64ths of it, `d` less than 57 -/
def keepD (d : Nat) : Nat := fop .quo .f32 (FloatKind.f32.nearest (d : Int)) 1115684864
def lossD (d : Nat) : Nat := fop .sub .f32 1065353216 (keepD d)
def okD (d : Nat) : Bool := decide (keepD d < 2139095040) && decide (rungVal (keepD d) * 64 = d * 2 ^ 149) && (fop .mul .f32 (lossD d) 0 == 0) && decide (lossD d < 2139095040)
theorem okD_all : ∀ d, d < 57 → okD d = true := by decide +kernel
structure OkD (d : Nat) : Prop where
  k : keepD d < 2139095040
  v : rungVal (keepD d) * 64 = d * 2 ^ 149
  z : fop .mul .f32 (lossD d) 0 = 0
  l : lossD d < 2139095040
theorem OkD.of {d : Nat} (h : d < 57) : OkD d := by
  have := okD_all d h
  simp only [okD, Bool.and_eq_true, decide_eq_true_eq, beq_iff_eq] at this
  exact ⟨this.1.1.1, this.1.1.2, this.1.2, this.2⟩

end Go.Proofs.Ytemnjphnhmbddaa
