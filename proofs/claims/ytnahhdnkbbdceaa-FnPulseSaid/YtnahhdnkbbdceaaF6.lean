/- Floating point, fifth part: what is rounded never goes beyond a number that the format has. -/
import Derived.Test.YtnahhdnkbbdceaaF4
set_option linter.unusedVariables false
namespace Go.Proofs.Ytnahhdnkbbdceaa
open Ieee

theorem cut_even_le {n d c : Nat} (neg : Bool) (h : n ≤ c * 2 ^ d) : Toward.even.cut neg n d ≤ c := by
  unfold Toward.cut
  simp only [Nat.one_shiftLeft]
  rcases Nat.eq_zero_or_pos n with h0 | h0
  · subst h0
    have hp := Nat.two_pow_pos (min d (Nat.log2 0 + 2))
    have e1 : (2 ^ min d (Nat.log2 0 + 2) == 2 * 0) = false := by simp
    simp
  · obtain ⟨hl1, hl2⟩ := log2_bounds (Nat.pos_iff_ne_zero.1 h0)
    rcases Nat.lt_or_ge (n.log2 + 2) d with c1 | c1
    · rw [Nat.min_eq_right (Nat.le_of_lt c1)]
      have hg : 2 ^ (n.log2 + 2) = 2 * 2 ^ (n.log2 + 1) := by rw [Nat.pow_succ, Nat.mul_comm]
      have hlt : n < 2 ^ (n.log2 + 2) := by omega
      rw [Nat.div_eq_of_lt hlt, Nat.mod_eq_of_lt hlt]
      have e1 : decide (2 ^ (n.log2 + 2) < 2 * n) = false := by simp; omega
      have e2 : (2 ^ (n.log2 + 2) == 2 * n) = false := by simp; omega
      rw [e1, e2]
      simp
    · rw [Nat.min_eq_left c1]
      have hp := Nat.two_pow_pos d
      generalize 2 ^ d = g at *
      have hdm := Nat.div_add_mod n g
      have hm := Nat.mod_lt n hp
      rcases Nat.lt_or_ge (n / g) c with c2 | c2
      · have : ∀ b : Bool, n / g + b.toNat ≤ c := fun b => by cases b <;> simp <;> omega
        exact this _
      · have h3 : n / g * g ≤ n := Nat.div_mul_le_self n g
        have h4 : c * g ≤ n / g * g := Nat.mul_le_mul_right _ c2
        have h5 : n = c * g := by omega
        have h6 : n % g = 0 := by rw [h5]; exact Nat.mul_mod_left c g
        have h7 : n / g = c := by rw [h5]; exact Nat.mul_div_left c hp
        rw [h6, h7]
        have e1 : (g == 0) = false := by simp; omega
        simp [e1]

/-- What is at most the number of a rung is rounded to that rung or to one below it. -/
theorem nearest_le {m r : Nat} {i : Int} (s : Bool) (hr : r < 2139095040) {K : Nat} (hK : K = 925) (hi : -1074 ≤ i) (hv : m * 2 ^ (i + 1074).toNat ≤ rungVal r * 2 ^ K) : ∃ b, b ≤ r ∧ FloatKind.f32.format.nearest s m i = FloatKind.f32.format.word s b := by
  rcases Nat.eq_zero_or_pos m with h0 | h0
  · subst h0
    exact ⟨0, Nat.zero_le _, by unfold Format.nearest; rw [if_pos rfl]⟩
  obtain ⟨hl1, hl2⟩ := log2_bounds (Nat.pos_iff_ne_zero.1 h0)
  obtain ⟨c, e, hc1, hc2, hc3, hc4⟩ := rung_parts hr
  rw [hc1, Nat.mul_assoc, ← Nat.pow_add] at hv
  have hfb : (FloatKind.f32.format.fractionBits : Int) = 23 := rfl
  unfold Format.nearest
  rw [if_neg (Nat.pos_iff_ne_zero.1 h0)]
  simp only [least32, bin32, inf32, hfb]
  obtain ⟨a, ha⟩ : ∃ a : Nat, i = (a : Int) - 1074 := ⟨(i + 1074).toNat, by omega⟩
  have ha' : (i + 1074).toNat = a := by omega
  rw [ha'] at hv
  obtain ⟨E, hE⟩ : ∃ E : Nat, max (i + (m.log2 : Int) - 23) (-149) = (E : Int) - 149 := ⟨(max (i + (m.log2 : Int) - 23) (-149) + 149).toNat, by omega⟩
  rw [hE]
  have hEn : ((E : Int) - 149 - -149).toNat = E := by omega
  have hup : (i - ((E : Int) - 149)).toNat = a - (E + K) := by omega
  have hdn : ((E : Int) - 149 - i).toNat = (E + K) - a := by omega
  rw [hEn, hup, hdn, Nat.shiftLeft_eq]
  generalize hk : Toward.even.cut s (m * 2 ^ (a - (E + K))) (E + K - a) = kept
  have scale : ∀ {c' f : Nat}, f = E → m * 2 ^ a ≤ c' * 2 ^ (f + K) → kept ≤ c' := fun {c' f} hf hle => by
    subst hf
    rw [← hk]
    refine cut_even_le s ?_
    rcases Nat.le_total a (f + K) with h1 | h1
    · have e1 : a - (f + K) = 0 := by omega
      rw [e1, Nat.pow_zero, Nat.mul_one]
      have e2 : f + K = (f + K - a) + a := by omega
      rw [e2, Nat.pow_add, ← Nat.mul_assoc] at hle
      have := Nat.le_of_mul_le_mul_right hle (Nat.two_pow_pos a)
      exact this
    · have e1 : f + K - a = 0 := by omega
      rw [e1, Nat.pow_zero, Nat.mul_one]
      have e2 : a = (a - (f + K)) + (f + K) := by omega
      rw [e2, Nat.pow_add, ← Nat.mul_assoc] at hle
      exact Nat.le_of_mul_le_mul_right hle (Nat.two_pow_pos _)
  refine ⟨_, ?_, rfl⟩
  refine Nat.le_trans (Nat.min_le_left _ _) ?_
  rw [← hc2]
  rcases Nat.lt_trichotomy E e with h1 | h1 | h1
  · have h2 : kept ≤ 16777216 := by
      refine scale rfl ?_
      have h3 : m * 2 ^ a ≤ 2 ^ (m.log2 + 1) * 2 ^ a := Nat.mul_le_mul_right _ (Nat.le_of_lt hl2)
      refine Nat.le_trans h3 ?_
      rw [show (16777216 : Nat) = 2 ^ 24 from rfl, ← Nat.pow_add, ← Nat.pow_add]
      exact Nat.pow_le_pow_right (by omega) (by omega)
    have h3 : 8388608 ≤ c := by omega
    omega
  · subst h1
    have := scale rfl hv
    omega
  · exfalso
    have hlast : (E : Int) - 149 = i + (m.log2 : Int) - 23 := by omega
    have h2 : 2 ^ (m.log2) * 2 ^ a ≤ m * 2 ^ a := Nat.mul_le_mul_right _ hl1
    have h3 : c * 2 ^ (e + K) < 2 ^ 24 * 2 ^ (e + K) := Nat.mul_lt_mul_of_pos_right (by omega) (Nat.two_pow_pos _)
    rw [← Nat.pow_add] at h2 h3
    have h4 : 2 ^ (24 + (e + K)) ≤ 2 ^ (m.log2 + a) := Nat.pow_le_pow_right (by omega) (by omega)
    omega
end Go.Proofs.Ytnahhdnkbbdceaa

/- Floating point, sixth part: products that are at most a number of the format; sums with 0; what is kept. -/
set_option linter.unusedVariables false
set_option linter.unusedSimpArgs false
set_option maxRecDepth 10000
namespace Go.Proofs.Ytnahhdnkbbdceaa
open Ieee

theorem read_fin {s : Nat} (h : s % 2147483648 < 2139095040) : ∃ m i, FloatKind.f32.format.read s = .number (s / 2147483648 % 2 == 1) m i ∧ -149 ≤ i ∧ m * 2 ^ (i + 149).toNat = rungVal (s % 2147483648) := by
  rcases read32 s with ⟨_, hi⟩ | ⟨t, hr⟩ | ⟨m, i, hr, h1, h2, _⟩
  · omega
  · have := isNaN32 s
    rw [isNaN_iff.2 ⟨_, _, hr⟩] at this
    simp at this; omega
  · exact ⟨m, i, hr, h1, h2⟩

theorem word_mod32 (z : Bool) {b : Nat} (h : b < 2139095040) : FloatKind.f32.format.word z b % 2147483648 = b := by
  unfold Format.word; rw [sign32]; cases z <;> simp <;> omega

theorem mul_leS {c s r : Nat} (hc : c % 2147483648 < 2139095040) (hs : s % 2147483648 < 2139095040) (hr : r < 2139095040) (h : rungVal (c % 2147483648) * rungVal (s % 2147483648) ≤ rungVal r * 2 ^ 149) : ∃ b, b ≤ r ∧ fop .mul .f32 c s = FloatKind.f32.format.word ((c / 2147483648 % 2 == 1) ^^ (s / 2147483648 % 2 == 1)) b := by
  obtain ⟨m, i, h1, h2, h3⟩ := read_fin hc
  obtain ⟨n, j, g1, g2, g3⟩ := read_fin hs
  obtain ⟨J, hJ⟩ : ∃ J : Nat, J = 776 := ⟨_, rfl⟩
  obtain ⟨b, hb, e⟩ := nearest_le ((c / 2147483648 % 2 == 1) ^^ (s / 2147483648 % 2 == 1)) hr (K := 149 + J) (by omega) (m := m * n) (i := i + j) (by omega) (by
    have e1 : (i + j + 1074).toNat = (i + 149).toNat + (j + 149).toNat + J := by omega
    rw [e1, Nat.pow_add, Nat.pow_add, Nat.pow_add 2 149 J]
    rw [← h3, ← g3] at h
    generalize (2 : Nat) ^ J = K
    generalize (2 : Nat) ^ 149 = L at h ⊢
    generalize 2 ^ (i + 149).toNat = X at h ⊢
    generalize 2 ^ (j + 149).toNat = Y at h ⊢
    have e2 : m * n * (X * Y * K) = (m * X * (n * Y)) * K := by ac_rfl
    rw [e2, ← Nat.mul_assoc (rungVal r)]
    exact Nat.mul_le_mul_right _ h)
  refine ⟨b, hb, ?_⟩
  have k : floatBits .mul .f32 c s = some (FloatKind.f32.format.nearest ((c / 2147483648 % 2 == 1) ^^ (s / 2147483648 % 2 == 1)) (m * n) (i + j)) := by
    show FloatKind.f32.format.mul c s = _
    unfold Format.mul
    rw [h1, g1]; rfl
  unfold fop
  rw [k, e]; rfl

theorem mul_le {c s r : Nat} (hc : c % 2147483648 < 2139095040) (hs : s % 2147483648 < 2139095040) (hr : r < 2139095040) (h : rungVal (c % 2147483648) * rungVal (s % 2147483648) ≤ rungVal r * 2 ^ 149) : ∃ z b, b ≤ r ∧ fop .mul .f32 c s = FloatKind.f32.format.word z b := by
  obtain ⟨b, h1, h2⟩ := mul_leS hc hs hr h
  exact ⟨_, b, h1, h2⟩

theorem add_zero_l {x : Nat} (hx : x % 2147483648 < 2139095040) : ∃ z, fop .add .f32 0 x = FloatKind.f32.format.word z (x % 2147483648) := by
  obtain ⟨n, j, g1, g2, g3⟩ := read_fin hx
  have z0 : FloatKind.f32.format.read 0 = .number false 0 (-149) := by decide +kernel
  generalize (x / 2147483648 % 2 == 1) = t at g1
  have hmin : min (-149 : Int) j = -149 := by omega
  have e0 : (j - -149).toNat = (j + 149).toNat := by omega
  have hn : (signed false 0 ((-149 : Int) - -149).toNat + signed t n (j - -149).toNat).natAbs = rungVal (x % 2147483648) := by
    rw [e0]; unfold signed
    rw [Nat.shiftLeft_eq, Nat.shiftLeft_eq, g3]
    cases t <;> simp
  obtain ⟨z, hz⟩ : ∃ z, floatBits .add .f32 0 x = some (FloatKind.f32.format.nearest z (rungVal (x % 2147483648)) (-149)) := by
    refine ⟨if signed false 0 ((-149 : Int) - -149).toNat + signed t n (j - -149).toNat = 0 then false && t else signed false 0 ((-149 : Int) - -149).toNat + signed t n (j - -149).toNat < 0, ?_⟩
    show FloatKind.f32.format.add 0 x = _
    unfold Format.add
    rw [z0, g1, ← hn]
    simp only [Datum.sum, hmin, Option.map, Format.write]
  refine ⟨z, ?_⟩
  unfold fop
  rw [hz, near32 z hx rfl (by omega) (by rw [show ((-149 : Int) + 1074).toNat = 925 by omega])]; rfl

theorem fin_of {s : Nat} (h : s % 2147483648 < 2139095040) : finF s = true := by
  obtain ⟨n, j, g1, g2, g3⟩ := read_fin h
  generalize (s / 2147483648 % 2 == 1) = t at g1
  have k : floatBits .sub .f32 s s = some 0 := by
    show FloatKind.f32.format.sub s s = _
    unfold Format.sub
    rw [g1]
    have e : signed t n (j - min j j).toNat + signed (!t) n (j - min j j).toNat = 0 := by
      unfold signed; cases t <;> simp <;> omega
    simp only [Datum.opposite, Datum.sum, e, Option.map, Format.write]
    cases t <;> rfl
  unfold finF fop
  rw [k]; decide +kernel

theorem of_fin {s : Nat} (h : finF s = true) : s % 2147483648 < 2139095040 := by
  rcases read32 s with ⟨hr, _⟩ | ⟨t, hr⟩ | ⟨m, i, hr, h1, h2, h3⟩
  · exfalso
    generalize (s / 2147483648 % 2 == 1) = t at hr
    have k : floatBits .sub .f32 s s = none := by
      show FloatKind.f32.format.sub s s = _
      unfold Format.sub
      rw [hr]
      cases t <;> rfl
    unfold finF fop at h
    rw [k] at h
    revert h; decide +kernel
  · rw [finF_nan (isNaN_iff.2 ⟨_, _, hr⟩)] at h; cases h
  · exact h3

theorem small_of_lt {s : Nat} (h : s % 2147483648 < 8388608) : smallF s = true := by
  have r : FloatKind.f32.format.read (absF s) = .number false (s % 2147483648) (-149) := by
    unfold Format.read absF
    simp only [bin32, least32, inf32, sign32]
    rw [Nat.mod_mod, if_pos h]
    congr 1
    simp
  have r2 : FloatKind.f32.format.read 8388608 = .number false 8388608 (-149) := by decide +kernel
  unfold smallF fLt Format.order
  rw [r, r2]
  have : compare (signed false (s % 2147483648) ((-149 : Int) - min (-149) (-149)).toNat) (signed false 8388608 ((-149 : Int) - min (-149) (-149)).toNat) = .lt := by
    rw [Std.compare_eq_lt]
    unfold signed; simp; omega
  simp only [Datum.order, this]; rfl

/-- a state: 0, or a number of normal size -/
def GoodS (s : Nat) : Prop := s < 4294967296 ∧ s % 2147483648 < 2139095040 ∧ (s % 2147483648 = 0 ∨ 8388608 ≤ s % 2147483648)
theorem GoodS.zero : GoodS 0 := ⟨by omega, by omega, .inl rfl⟩
theorem GoodS.kept {y : Nat} (h : y < 4294967296) : GoodS (keptF y) ∧ (keptF y = 0 ∨ keptF y = y) := by
  unfold keptF flushF
  by_cases h1 : finF y = true
  · rw [if_pos h1]
    by_cases h2 : smallF y = true
    · rw [if_pos h2]; exact ⟨.zero, .inl rfl⟩
    · rw [if_neg h2]
      refine ⟨⟨h, of_fin h1, .inr ?_⟩, .inr rfl⟩
      rcases Nat.lt_or_ge (y % 2147483648) 8388608 with c | c
      · exact absurd (small_of_lt c) h2
      · exact c
  · rw [if_neg h1]; exact ⟨.zero, .inl rfl⟩

/-- the share of a state that is kept: `d` 64ths of it, `d` less than 57 -/
def keepD (d : Nat) : Nat := fop .quo .f32 (FloatKind.f32.nearest (d : Int)) 1115684864
def lossD (d : Nat) : Nat := fop .sub .f32 1065353216 (keepD d)
def okD (d : Nat) : Bool := decide (keepD d < 2139095040) && decide (rungVal (keepD d) * 64 = d * 2 ^ 149) && (fop .mul .f32 (lossD d) 0 == 0) && decide (lossD d < 2139095040)
theorem okD_all : ∀ d, d < 57 → okD d = true := by decide +kernel
structure OkD (d : Nat) : Prop where
  k : keepD d < 2139095040
  v : rungVal (keepD d) * 64 = d * 2 ^ 149
  z : fop .mul .f32 (lossD d) 0 = 0
  l : lossD d < 2139095040
theorem OkD.of {d : Nat} (h : d < 57) : OkD d := by
  have := okD_all d h
  simp only [okD, Bool.and_eq_true, decide_eq_true_eq, beq_iff_eq] at this
  exact ⟨this.1.1.1, this.1.1.2, this.1.2, this.2⟩

end Go.Proofs.Ytnahhdnkbbdceaa
