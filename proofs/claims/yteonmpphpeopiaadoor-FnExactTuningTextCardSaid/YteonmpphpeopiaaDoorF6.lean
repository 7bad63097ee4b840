/- Floating point, sixth part: products that are at most a number of the format; sums with 0; what is kept. -/
import Derived.Test.YteonmpphpeopiaaDoorF5
set_option linter.unusedVariables false
set_option linter.unusedSimpArgs false
set_option maxRecDepth 10000
namespace Go.Proofs.YteonmpphpeopiaaDoor
open Ieee

theorem read_fin {s : Nat} (h : s % 2147483648 < 2139095040) : ∃ m i, FloatKind.f32.format.read s = .number (s / 2147483648 % 2 == 1) m i ∧ -149 ≤ i ∧ m * 2 ^ (i + 149).toNat = rungVal (s % 2147483648) := by
  rcases read32 s with ⟨_, hi⟩ | ⟨t, hr⟩ | ⟨m, i, hr, h1, h2, _⟩
  · omega
  · have := isNaN32 s
    rw [isNaN_iff.2 ⟨_, _, hr⟩] at this
    simp at this; omega
  · exact ⟨m, i, hr, h1, h2⟩

theorem word_mod32 (z : Bool) {b : Nat} (h : b < 2139095040) : FloatKind.f32.format.word z b % 2147483648 = b := by
  unfold Format.word; rw [sign32]; cases z <;> simp <;> omega

theorem mul_leS {c s r : Nat} (hc : c % 2147483648 < 2139095040) (hs : s % 2147483648 < 2139095040) (hr : r < 2139095040) (h : rungVal (c % 2147483648) * rungVal (s % 2147483648) ≤ rungVal r * 2 ^ 149) : ∃ b, b ≤ r ∧ fop .mul .f32 c s = FloatKind.f32.format.word ((c / 2147483648 % 2 == 1) ^^ (s / 2147483648 % 2 == 1)) b := by
  obtain ⟨m, i, h1, h2, h3⟩ := read_fin hc
  obtain ⟨n, j, g1, g2, g3⟩ := read_fin hs
  obtain ⟨J, hJ⟩ : ∃ J : Nat, J = 776 := ⟨_, rfl⟩
  obtain ⟨b, hb, e⟩ := nearest_le ((c / 2147483648 % 2 == 1) ^^ (s / 2147483648 % 2 == 1)) hr (K := 149 + J) (by omega) (m := m * n) (i := i + j) (by omega) (by
    have e1 : (i + j + 1074).toNat = (i + 149).toNat + (j + 149).toNat + J := by omega
    rw [e1, Nat.pow_add, Nat.pow_add, Nat.pow_add 2 149 J]
    rw [← h3, ← g3] at h
    generalize (2 : Nat) ^ J = K
    generalize (2 : Nat) ^ 149 = L at h ⊢
    generalize 2 ^ (i + 149).toNat = X at h ⊢
    generalize 2 ^ (j + 149).toNat = Y at h ⊢
    have e2 : m * n * (X * Y * K) = (m * X * (n * Y)) * K := by ac_rfl
    rw [e2, ← Nat.mul_assoc (rungVal r)]
    exact Nat.mul_le_mul_right _ h)
  refine ⟨b, hb, ?_⟩
  have k : floatBits .mul .f32 c s = some (FloatKind.f32.format.nearest ((c / 2147483648 % 2 == 1) ^^ (s / 2147483648 % 2 == 1)) (m * n) (i + j)) := by
    show FloatKind.f32.format.mul c s = _
    unfold Format.mul
    rw [h1, g1]; rfl
  unfold fop
  rw [k, e]; rfl

theorem mul_le {c s r : Nat} (hc : c % 2147483648 < 2139095040) (hs : s % 2147483648 < 2139095040) (hr : r < 2139095040) (h : rungVal (c % 2147483648) * rungVal (s % 2147483648) ≤ rungVal r * 2 ^ 149) : ∃ z b, b ≤ r ∧ fop .mul .f32 c s = FloatKind.f32.format.word z b := by
  obtain ⟨b, h1, h2⟩ := mul_leS hc hs hr h
  exact ⟨_, b, h1, h2⟩

theorem add_zero_l {x : Nat} (hx : x % 2147483648 < 2139095040) : ∃ z, fop .add .f32 0 x = FloatKind.f32.format.word z (x % 2147483648) := by
  obtain ⟨n, j, g1, g2, g3⟩ := read_fin hx
  have z0 : FloatKind.f32.format.read 0 = .number false 0 (-149) := by decide +kernel
  generalize (x / 2147483648 % 2 == 1) = t at g1
  have hmin : min (-149 : Int) j = -149 := by omega
  have e0 : (j - -149).toNat = (j + 149).toNat := by omega
  have hn : (signed false 0 ((-149 : Int) - -149).toNat + signed t n (j - -149).toNat).natAbs = rungVal (x % 2147483648) := by
    rw [e0]; unfold signed
    rw [Nat.shiftLeft_eq, Nat.shiftLeft_eq, g3]
    cases t <;> simp
  obtain ⟨z, hz⟩ : ∃ z, floatBits .add .f32 0 x = some (FloatKind.f32.format.nearest z (rungVal (x % 2147483648)) (-149)) := by
    refine ⟨if signed false 0 ((-149 : Int) - -149).toNat + signed t n (j - -149).toNat = 0 then false && t else signed false 0 ((-149 : Int) - -149).toNat + signed t n (j - -149).toNat < 0, ?_⟩
    show FloatKind.f32.format.add 0 x = _
    unfold Format.add
    rw [z0, g1, ← hn]
    simp only [Datum.sum, hmin, Option.map, Format.write]
  refine ⟨z, ?_⟩
  unfold fop
  rw [hz, near32 z hx rfl (by omega) (by rw [show ((-149 : Int) + 1074).toNat = 925 by omega])]; rfl

theorem fin_of {s : Nat} (h : s % 2147483648 < 2139095040) : finF s = true := by
  obtain ⟨n, j, g1, g2, g3⟩ := read_fin h
  generalize (s / 2147483648 % 2 == 1) = t at g1
  have k : floatBits .sub .f32 s s = some 0 := by
    show FloatKind.f32.format.sub s s = _
    unfold Format.sub
    rw [g1]
    have e : signed t n (j - min j j).toNat + signed (!t) n (j - min j j).toNat = 0 := by
      unfold signed; cases t <;> simp <;> omega
    simp only [Datum.opposite, Datum.sum, e, Option.map, Format.write]
    cases t <;> rfl
  unfold finF fop
  rw [k]; decide +kernel

theorem of_fin {s : Nat} (h : finF s = true) : s % 2147483648 < 2139095040 := by
  rcases read32 s with ⟨hr, _⟩ | ⟨t, hr⟩ | ⟨m, i, hr, h1, h2, h3⟩
  · exfalso
    generalize (s / 2147483648 % 2 == 1) = t at hr
    have k : floatBits .sub .f32 s s = none := by
      show FloatKind.f32.format.sub s s = _
      unfold Format.sub
      rw [hr]
      cases t <;> rfl
    unfold finF fop at h
    rw [k] at h
    revert h; decide +kernel
  · rw [finF_nan (isNaN_iff.2 ⟨_, _, hr⟩)] at h; cases h
  · exact h3

theorem small_of_lt {s : Nat} (h : s % 2147483648 < 8388608) : smallF s = true := by
  have r : FloatKind.f32.format.read (absF s) = .number false (s % 2147483648) (-149) := by
    unfold Format.read absF
    simp only [bin32, least32, inf32, sign32]
    rw [Nat.mod_mod, if_pos h]
    congr 1
    simp
  have r2 : FloatKind.f32.format.read 8388608 = .number false 8388608 (-149) := by decide +kernel
  unfold smallF fLt Format.order
  rw [r, r2]
  have : compare (signed false (s % 2147483648) ((-149 : Int) - min (-149) (-149)).toNat) (signed false 8388608 ((-149 : Int) - min (-149) (-149)).toNat) = .lt := by
    rw [Std.compare_eq_lt]
    unfold signed; simp; omega
  simp only [Datum.order, this]; rfl

/-- a state: 0, or a number of normal size -/
def GoodS (s : Nat) : Prop := s < 4294967296 ∧ s % 2147483648 < 2139095040 ∧ (s % 2147483648 = 0 ∨ 8388608 ≤ s % 2147483648)
theorem GoodS.zero : GoodS 0 := ⟨by omega, by omega, .inl rfl⟩
theorem GoodS.kept {y : Nat} (h : y < 4294967296) : GoodS (keptF y) ∧ (keptF y = 0 ∨ keptF y = y) := by
  unfold keptF flushF
  by_cases h1 : finF y = true
  · rw [if_pos h1]
    by_cases h2 : smallF y = true
    · rw [if_pos h2]; exact ⟨.zero, .inl rfl⟩
    · rw [if_neg h2]
      refine ⟨⟨h, of_fin h1, .inr ?_⟩, .inr rfl⟩
      rcases Nat.lt_or_ge (y % 2147483648) 8388608 with c | c
      · exact absurd (small_of_lt c) h2
      · exact c
  · rw [if_neg h1]; exact ⟨.zero, .inl rfl⟩

/-- the share of a state that is kept: `d` 64ths of it, `d` less than 57 -/
def keepD (d : Nat) : Nat := fop .quo .f32 (FloatKind.f32.nearest (d : Int)) 1115684864
def lossD (d : Nat) : Nat := fop .sub .f32 1065353216 (keepD d)
def okD (d : Nat) : Bool := decide (keepD d < 2139095040) && decide (rungVal (keepD d) * 64 = d * 2 ^ 149) && (fop .mul .f32 (lossD d) 0 == 0) && decide (lossD d < 2139095040)
theorem okD_all : ∀ d, d < 57 → okD d = true := by decide +kernel
structure OkD (d : Nat) : Prop where
  k : keepD d < 2139095040
  v : rungVal (keepD d) * 64 = d * 2 ^ 149
  z : fop .mul .f32 (lossD d) 0 = 0
  l : lossD d < 2139095040
theorem OkD.of {d : Nat} (h : d < 57) : OkD d := by
  have := okD_all d h
  simp only [okD, Bool.and_eq_true, decide_eq_true_eq, beq_iff_eq] at this
  exact ⟨this.1.1.1, this.1.1.2, this.1.2, this.2⟩

/-- the number of a rung and that of a rung 2^19 below -/
theorem rung_less {b : Nat} (h1 : 8388608 ≤ b) (h2 : b < 2139095040) : 7 * rungVal b ≤ 8 * rungVal (b - 524288) := by
  obtain ⟨c, e, hc1, hc2, hc3, hc4⟩ := rung_parts h2
  obtain ⟨c', e', k1, k2, k3, k4⟩ := rung_parts (b := b - 524288) (by omega)
  rw [hc1, k1]
  have hc : 8388608 ≤ c := by omega
  have hee : e' = e ∨ e' + 1 = e := by omega
  rcases hee with rfl | rfl
  · rw [← Nat.mul_assoc, ← Nat.mul_assoc]
    exact Nat.mul_le_mul_right _ (by omega)
  · have h14 : 14 * c ≤ 8 * c' := by omega
    rw [Nat.pow_succ]
    generalize 2 ^ e' = P
    have h15 := Nat.mul_le_mul_right P h14
    rw [Nat.mul_assoc, Nat.mul_assoc] at h15
    rw [← Nat.mul_assoc c]
    omega

/-- A step without a sample: the state becomes 0, or its word is less by 2^19 at least. -/
theorem still_step {d s : Nat} (hd : d < 57) (hs : GoodS s) : GoodS (keptF (fop .add .f32 (fop .mul .f32 (lossD d) 0) (fop .mul .f32 (keepD d) s))) ∧
    ((keptF (fop .add .f32 (fop .mul .f32 (lossD d) 0) (fop .mul .f32 (keepD d) s))) % 2147483648 = 0 ∨ (keptF (fop .add .f32 (fop .mul .f32 (lossD d) 0) (fop .mul .f32 (keepD d) s))) % 2147483648 + 524288 ≤ s % 2147483648) := by
  have ok := OkD.of hd
  have hs1 := hs.2.1
  rw [ok.z]
  have hkm : keepD d % 2147483648 = keepD d := Nat.mod_eq_of_lt (by have := ok.k; omega)
  obtain ⟨r, hr1, hr2, hr3⟩ : ∃ r, r < 2139095040 ∧ rungVal (keepD d % 2147483648) * rungVal (s % 2147483648) ≤ rungVal r * 2 ^ 149 ∧ (r = 0 ∨ r + 524288 ≤ s % 2147483648) := by
    rcases hs.2.2 with h0 | h0
    · refine ⟨0, by omega, ?_, .inl rfl⟩
      rw [h0]; simp [rungVal]
    · refine ⟨s % 2147483648 - 524288, by omega, ?_, .inr (by omega)⟩
      have h7 := rung_less h0 hs.2.1
      rw [hkm]
      have hv := ok.v
      refine Nat.le_of_mul_le_mul_left (c := 64) ?_ (by omega)
      generalize rungVal (s % 2147483648) = S at *
      generalize rungVal (s % 2147483648 - 524288) = R at *
      have h8 : 56 * S ≤ 64 * R := by omega
      have h9 : d * S ≤ 56 * S := Nat.mul_le_mul_right S (by omega)
      calc 64 * (rungVal (keepD d) * S) = (rungVal (keepD d) * 64) * S := by ac_rfl
        _ = d * S * 2 ^ 149 := by rw [hv]; ac_rfl
        _ ≤ 56 * S * 2 ^ 149 := Nat.mul_le_mul_right (2 ^ 149) h9
        _ ≤ 64 * R * 2 ^ 149 := Nat.mul_le_mul_right (2 ^ 149) h8
        _ = 64 * (R * 2 ^ 149) := by rw [Nat.mul_assoc]
  obtain ⟨z, b, hb, e⟩ := mul_le (by rw [hkm]; exact ok.k) hs.2.1 hr1 hr2
  have hbl : b < 2139095040 := by omega
  have hwm := word_mod32 z hbl
  rw [← e] at hwm
  obtain ⟨z', e'⟩ := add_zero_l (x := fop .mul .f32 (keepD d) s) (by rw [hwm]; exact hbl)
  rw [hwm] at e'
  have hlt := fop_lt .add .f32 0 (fop .mul .f32 (keepD d) s)
  rw [wid32] at hlt
  obtain ⟨g, hk⟩ := GoodS.kept hlt
  refine ⟨g, ?_⟩
  rcases hk with k0 | k0
  · left; rw [k0]
  · rw [k0, e', word_mod32 z' hbl]; omega
end Go.Proofs.YteonmpphpeopiaaDoor
